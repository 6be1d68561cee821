import Derived.Test.YtmfkjilndpchbaaAb18
namespace Go.Ab
open Go
abbrev PH:=Nat→Option Blk
def PH.le (Z W:PH):Prop:=∀b x,Z b=some x→W b=some x
theorem PH.le.refl (Z:PH):Z.le Z:=fun _ _ h=>h
theorem PH.le.trans {Z W V:PH}(h:Z.le W)(k:W.le V):Z.le V:=fun b x e=>k b x (h b x e)
def PH.dis (h k:PH):Prop:=∀b x y,h b=some x→k b=some y→False
theorem PH.dis.symm {h k:PH}(d:h.dis k):k.dis h:=fun b x y e f=>d b y x f e
theorem PH.dis.le {h k h' k':PH}(d:h.dis k)(a:h'.le h)(b:k'.le k):h'.dis k':=fun c x y e f=>d c x y (a c x e) (b c y f)
def PH.emp:PH:=fun _=>none
theorem PH.emp_le (Z:PH):PH.emp.le Z:=fun _ _ h=>by cases h
theorem PH.emp_dis (Z:PH):PH.emp.dis Z:=fun _ _ _ h=>by cases h
theorem PH.dis_emp (Z:PH):Z.dis PH.emp:=fun _ _ _ _ h=>by cases h
def PH.upd (h:PH)(b:Nat)(x:Blk):PH:=fun c=>if c=b then some x else h c
theorem PH.upd_same (h:PH)(b:Nat)(x:Blk):h.upd b x b=some x:=by simp [PH.upd]
theorem PH.upd_ne (h:PH){b c:Nat}(x:Blk)(e:c≠b):h.upd b x c=h c:=by simp [PH.upd,e]
def PH.del (h:PH)(b:Nat):PH:=fun c=>if c=b then none else h c
theorem PH.del_le (h:PH)(b:Nat):(h.del b).le h:=fun c x e=>by
 unfold PH.del at e;split at e
 ·cases e
 ·exact e
def PH.one (b:Nat)(x:Blk):PH:=PH.emp.upd b x
theorem PH.one_le {h:PH}{b:Nat}{x:Blk}(k:h b=some x):(PH.one b x).le h:=fun c y e=>by
 unfold PH.one PH.upd at e;split at e
 ·subst_vars;cases e;exact k
 ·cases e
theorem PH.one_same (b:Nat)(x:Blk):PH.one b x b=some x:=PH.upd_same ..
def PH.un (h k:PH):PH:=fun b=>match h b with|some x=>some x|none=>k b
theorem PH.un_left (h k:PH):h.le (h.un k):=fun b x e=>by simp [PH.un,e]
theorem PH.un_right {h k:PH}(d:h.dis k):k.le (h.un k):=fun b x e=>by
 cases q:h b with
 | none=>simp [PH.un,q,e]
 | some y=>exact absurd (d b y x q e) id
theorem PH.un_le {h k Z:PH}(a:h.le Z)(b:k.le Z):(h.un k).le Z:=fun c x e=>by
 unfold PH.un at e;split at e
 ·cases e;exact a _ _ (by assumption)
 ·exact b _ _ e
theorem PH.un_dis {h k Z:PH}(a:h.dis Z)(b:k.dis Z):(h.un k).dis Z:=fun c x y e f=>by
 unfold PH.un at e;split at e
 ·cases e;exact a _ _ _ (by assumption) f
 ·exact b _ _ _ e f
def Hp.ph (H:Hp):PH:=fun b=>match H[b]? with
 | some .dead=>none
 | x=>x
theorem an {H:Hp}{b:Nat}{x:Blk}:Hp.ph H b=some x↔H[b]? =some x∧x≠ .dead:=by
 unfold Hp.ph
 constructor
 ·intro h
  split at h
  ·cases h
  ·rename_i h2;exact⟨h,fun e=>by subst e;exact h2 h⟩
 ·rintro⟨h,h2⟩
  split
  ·rename_i e;rw [h] at e;cases e;exact absurd rfl h2
  ·exact h
theorem bQ {H:Hp}{Z:PH}(hz:Z.le (Hp.ph H)){b:Nat}{x:Blk}(h:Z b=some x):H[b]? =some x:=(an.1 (hz b x h)).1
theorem fW {H H':Hp}{b:Nat}(h:H'[b]? =H[b]?):Hp.ph H' b=Hp.ph H b:=by unfold Hp.ph;rw [h]
theorem iD (H:Hp)(L:List Blk):(Hp.ph H).le (Hp.ph (H++L)):=fun b x h=>by
 have h1:=an.1 h
 exact an.2 ⟨by rw [cX (bo h1.1)];exact h1.1,h1.2⟩
structure Sh (α:Type) where
 sz:Nat
 rd:PH→List Value→α→Prop
 ow:PH→PH→List Value→α→Prop
 rd_mono:∀{Z W:PH} {cs:List Value} {x:α},Z.le W→rd Z cs x→rd W cs x
 ow_mono:∀{Z W h k:PH} {cs:List Value} {x:α},Z.le W→h.le k→ow Z h cs x→ow W k cs x
 ow_rd:∀{Z h W:PH} {cs:List Value} {x:α},Z.le W→h.le W→ow Z h cs x→rd W cs x
 len:∀{Z:PH} {cs:List Value} {x:α},rd Z cs x→cs.length=sz
 one:∀{Z:PH} {cs:List Value} {x:α},rd Z cs x→cs.all Value.oneCell'=true
section
variable {α β : Type}
def Sh.Lt (s:Sh α):Prop:=∀{Z h:PH} {cs:List Value} {x:α},s.rd Z cs x→s.ow Z h cs x
def Sh.ro (s:Sh α):Sh α where
 sz:=s.sz
 rd:=s.rd
 ow:=fun Z _ cs x=>s.rd Z cs x
 rd_mono:=s.rd_mono
 ow_mono:=fun a _ h=>s.rd_mono a h
 ow_rd:=fun a _ h=>s.rd_mono a h
 len:=s.len
 one:=s.one
theorem Sh.ro_lt (s:Sh α):s.ro.Lt:=fun h=>h
def Sh.flat (enc:α→List Value)(n:Nat)(hn:∀x,(enc x).length=n)(h1:∀x,(enc x).all Value.oneCell'=true):Sh α where
 sz:=n
 rd:=fun _ cs x=>cs=enc x
 ow:=fun _ _ cs x=>cs=enc x
 rd_mono:=fun _ h=>h
 ow_mono:=fun _ _ h=>h
 ow_rd:=fun _ _ h=>h
 len:=fun h=>h▸hn _
 one:=fun h=>h▸h1 _
abbrev Sh.ik (k:IntKind):Sh Int:=Sh.flat (fun x=>[.int k x]) 1 (fun _=>rfl) (fun _=>rfl)
abbrev Sh.int:Sh Int:=Sh.ik .i64
abbrev Sh.bool:Sh Bool:=Sh.flat (fun x=>[.bool x]) 1 (fun _=>rfl) (fun _=>rfl)
theorem Sh.G5 {enc:α→List Value}{n:Nat}{hn:∀x,(enc x).length=n}{h1:∀x,(enc x).all Value.oneCell'=true}:(Sh.flat enc n hn h1).Lt:=fun h=>h
abbrev chk (us:List Value)(o sz i:Nat):List Value:=(us.drop (o+i*sz)).take sz
theorem cJ {us:List Value}{o sz i n:Nat}(hi:i<n)(h:o+n*sz≤us.length):o+i*sz+sz≤us.length:=by
 have:(i+1)*sz≤n*sz:=Nat.mul_le_mul_right _ hi
 rw [Nat.add_mul,Nat.one_mul] at this
 omega
theorem fB {us:List Value}{o sz i n:Nat}(hi:i<n)(h:o+n*sz≤us.length):(chk us o sz i).length=sz:=by
 have:=cJ hi h
 simp;omega
def Fits (o n sz len:Nat):Prop:=o+n*sz≤len∧n≤281474976710656
def RdS (s:Sh α)(Z:PH)(v:Value)(xs:List α):Prop:=(v= .slice none 0 0∧xs= [])∨
 ∃b o us x,v= .slice (some ⟨b,o,none⟩) xs.length xs.length∧Z b=some x∧x.cells=some us∧x.esz=some s.sz∧Fits o xs.length s.sz us.length∧∀(i:Nat) (y:α),xs[i]? =some y→s.rd Z (chk us o s.sz i) y
def OwS (s:Sh α)(Z h:PH)(v:Value)(xs:List α):Prop:=(v= .slice none 0 0∧xs= [])∨
 ∃(b o:Nat) (us:List Value) (hs:Nat→PH),v= .slice (some ⟨b,o,none⟩) xs.length xs.length∧h b=some (.rw s.sz us)∧Fits o xs.length s.sz us.length∧(∀i,(hs i).le h)∧(∀i,hs i b=none)∧
  (∀i j,i≠j→(hs i).dis (hs j))∧∀(i:Nat) (y:α),xs[i]? =some y→s.ow Z (hs i) (chk us o s.sz i) y
theorem RdS.mono {s:Sh α}{Z W:PH}{v:Value}{xs:List α}(hz:Z.le W)(h:RdS s Z v xs):RdS s W v xs:=by
 rcases h with h|⟨b,o,us,x,h1,h2,h3,h4,h5,h6⟩
 ·exact .inl h
 ·exact .inr ⟨b,o,us,x,h1,hz _ _ h2,h3,h4,h5,fun i y hy=>s.rd_mono hz (h6 i y hy)⟩
theorem OwS.mono {s:Sh α}{Z W h k:PH}{v:Value}{xs:List α}(hz:Z.le W)(hh:h.le k)(q:OwS s Z h v xs):OwS s W k v xs:=by
 rcases q with q|⟨b,o,us,hs,h1,h2,h3,h4,h5,h6,h7⟩
 ·exact .inl q
 ·exact .inr ⟨b,o,us,hs,h1,hh _ _ h2,h3,fun i=>(h4 i).trans hh,h5,h6,fun i y hy=>s.ow_mono hz (PH.le.refl _) (h7 i y hy)⟩
theorem OwS.rd {s:Sh α}{Z h W:PH}{v:Value}{xs:List α}(hz:Z.le W)(hh:h.le W)(q:OwS s Z h v xs):RdS s W v xs:=by
 rcases q with q|⟨b,o,us,hs,h1,h2,h3,h4,h5,h6,h7⟩
 ·exact .inl q
 ·exact .inr ⟨b,o,us,_,h1,hh _ _ h2,rfl,rfl,h3,fun i y hy=>s.ow_rd hz ((h4 i).trans hh) (h7 i y hy)⟩
theorem RdS.one {s:Sh α}{Z:PH}{v:Value}{xs:List α}(h:RdS s Z v xs):v.cells= #[v]∧v.oneCell'=true:=by
 rcases h with⟨rfl,-⟩|⟨b,o,us,x,rfl,-⟩<;>exact⟨rfl,rfl⟩
theorem RdS.nil {s:Sh α}{Z:PH}:RdS s Z (.slice none 0 0) []:=.inl ⟨rfl,rfl⟩
def Sh.sl (s:Sh α):Sh (List α) where
 sz:=1
 rd:=fun Z cs xs=>∃v,cs= [v]∧RdS s Z v xs
 ow:=fun Z h cs xs=>∃v,cs= [v]∧OwS s Z h v xs
 rd_mono:=fun hz ⟨v,e,h⟩=>⟨v,e,h.mono hz⟩
 ow_mono:=fun hz hh ⟨v,e,h⟩=>⟨v,e,h.mono hz hh⟩
 ow_rd:=fun hz hh ⟨v,e,h⟩=>⟨v,e,h.rd hz hh⟩
 len:=fun⟨v,e,h⟩=>by subst e;rfl
 one:=fun⟨v,e,h⟩=>by subst e;simp [h.one.2]
end
structure It where
 P:PH→PH→Prop
 mono:∀{Z W h k:PH},Z.le W→h.le k→P Z h→P W k
def Sh.it {α:Type}(s:Sh α)(cs:List Value)(x:α):It:=⟨fun Z h=>s.ow Z h cs x,s.ow_mono⟩
def pts (b:Nat)(x:Blk):It:=⟨fun _ h=>h b=some x,fun _ hh e=>hh _ _ e⟩
def It.sl {α:Type}(s:Sh α)(v:Value)(xs:List α):It:=⟨fun Z h=>OwS s Z h v xs,OwS.mono⟩
def It.tt:It:=⟨fun _ _=>True,fun _ _ h=>h⟩
def Sat (Z V:PH)(H:Hp)(l:List It):Prop:=Z.le V∧V.le (Hp.ph H)∧∃(N:PH) (hs:Nat→PH),N.le (Hp.ph H)∧V.dis N∧(∀i,(hs i).le (Hp.ph H))∧(∀i,V.dis (hs i))∧(∀i,N.dis (hs i))∧(∀i j,i≠j→(hs i).dis (hs j))∧
 ∀(i:Nat) (t:It),l[i]? =some t→t.P (Z.un N) (hs i)
section
variable {Z V : PH} {H H' : Hp} {l : List It}
theorem Sat.zv (h:Sat Z V H l):Z.le V:=h.1
theorem Sat.v (h:Sat Z V H l):V.le (Hp.ph H):=h.2.1
theorem Sat.z (h:Sat Z V H l):Z.le (Hp.ph H):=h.1.trans h.2.1
theorem Sat.nil (h:Z.le V)(k:V.le (Hp.ph H)):Sat Z V H []:=⟨h,k,.emp,fun _=>.emp,PH.emp_le _,PH.dis_emp _,fun _=>PH.emp_le _,fun _=>PH.dis_emp _,fun _=>PH.dis_emp _,fun _ _ _=>PH.emp_dis _,fun i t e=>by simp at e⟩
theorem Sat.up (he:(Hp.ph H).le (Hp.ph H'))(h:Sat Z V H l):Sat Z V H' l:=by
 obtain⟨a,b,N,hs,c,d,e,f,g,k,m⟩:=h
 exact⟨a,b.trans he,N,hs,c.trans he,d,fun i=>(e i).trans he,f,g,k,m⟩
theorem Sat.sel (g:Nat→Nat)(hg:∀i j,g i=g j→i=j){l':List It}(q:∀(i:Nat) (t:It),l'[i]? =some t→l[g i]? =some t)(h:Sat Z V H l):Sat Z V H l':=by
 obtain⟨a,b,N,hs,c,d,e,f,g',k,m⟩:=h
 exact⟨a,b,N,fun i=>hs (g i),c,d,fun i=>e _,fun i=>f _,fun i=>g' _,fun i j x=>k _ _ fun y=>x (hg _ _ y),fun i t x=>m _ t (q i t x)⟩
theorem Sat.drop (n:Nat)(h:Sat Z V H l):Sat Z V H (l.eraseIdx n):=by
 refine h.sel (fun i=>if i<n then i else i+1) (fun i j e=>?_) (fun i t e=>?_)
 ·split at e<;>split at e<;>omega
 ·rw [List.getElem?_eraseIdx] at e
  split at e
  ·rename_i q;rw [if_pos q];exact e
  ·rename_i q;rw [if_neg q];exact e
theorem Sat.pull (n:Nat){t:It}(ht:l[n]? =some t)(h:Sat Z V H l):Sat Z V H (t::l.eraseIdx n):=by
 refine h.sel (fun i=>if i=0 then n else if i≤n then i-1 else i) (fun i j e=>?_) (fun i u e=>?_)
 ·(repeat' split at e)<;>omega
 ·cases i with
  | zero=>simp at e;subst e;simpa using ht
  | succ i=>
    rw [List.getElem?_cons_succ,List.getElem?_eraseIdx] at e
    simp only [Nat.add_one_ne_zero,if_false]
    split at e
    ·rename_i q;rw [if_pos (by omega)];exact e
    ·rename_i q;rw [if_neg (by omega)];exact e
theorem Sat.conv (n:Nat){t u:It}(ht:l[n]? =some t)(q:∀F h:PH,Z.le F→t.P F h→u.P F h)(h:Sat Z V H l):Sat Z V H (l.set n u):=by
 obtain⟨a,b,N,hs,c,d,e,f,g,k,m⟩:=h
 refine⟨a,b,N,hs,c,d,e,f,g,k,fun i v x=>?_⟩
 by_cases hi:i=n
 ·subst hi
  rw [List.getElem?_set_self (List.getElem?_eq_some_iff.1 ht).1] at x
  cases x
  exact q _ _ (PH.un_left _ _) (m i t ht)
 ·rw [List.getElem?_set_ne (fun e=>hi e.symm)] at x
  exact m i v x
theorem Sat.push {u:It}(q:∀F:PH,Z.le F→u.P F .emp)(h:Sat Z V H l):Sat Z V H (u::l):=by
 obtain⟨a,b,N,hs,c,d,e,f,g,k,m⟩:=h
 refine⟨a,b,N,fun i=>match i with|0=>.emp|i+1=>hs i,c,d,fun i=>?_,fun i=>?_,fun i=>?_,fun i j x=>?_,fun i v x=>?_⟩
 ·cases i<;>first|exact PH.emp_le _|exact e _
 ·cases i<;>first|exact PH.dis_emp _|exact f _
 ·cases i<;>first|exact PH.dis_emp _|exact g _
 ·cases i<;>cases j<;>first|exact absurd rfl x|exact PH.emp_dis _|exact PH.dis_emp _|exact k _ _ (fun y=>x (by rw [y]))
 ·cases i with
  | zero=>simp at x;subst x;exact q _ (PH.un_left _ _)
  | succ i=>exact m i v (by simpa using x)
theorem Sat.curS (n:Nat){α:Type}{s:Sh α}{v:Value}{xs:List α}(ht:l[n]? =some (It.sl s v xs))(h:Sat Z V H l):RdS s (Hp.ph H) v xs:=by
 have hz:=h.z
 obtain⟨a,b,N,hs,c,d,e,f,g,k,m⟩:=h
 exact OwS.rd (PH.un_le hz c) (e n) (m n _ ht)
theorem Sat.curB (n:Nat){b:Nat}{x:Blk}(ht:l[n]? =some (pts b x))(h:Sat Z V H l):H[b]? =some x:=by
 obtain⟨_,_,N,hs,c,d,e,f,g,k,m⟩:=h
 exact bQ (e n) (m n _ ht)
theorem eF {α:Type}(l:List α)(n:Nat)(x:α):(l.set n x).eraseIdx n=l.eraseIdx n:=by
 apply List.ext_getElem?
 intro i
 rw [List.getElem?_eraseIdx,List.getElem?_eraseIdx]
 split
 ·rename_i q;rw [List.getElem?_set_ne (by omega)]
 ·rename_i q;rw [List.getElem?_set_ne (by omega)]
theorem PH.un_emp (Z:PH):Z.un .emp=Z:=by funext b;simp only [PH.un,PH.emp];cases Z b<;>rfl
theorem Sat.mk' {hs:Nat→PH}(a:Z.le V)(b:V.le (Hp.ph H))(e:∀i,(hs i).le (Hp.ph H))(f:∀i,V.dis (hs i))(k:∀i j,i≠j→(hs i).dis (hs j))(m:∀(i:Nat) (t:It),l[i]? =some t→t.P Z (hs i)):Sat Z V H l:=
 ⟨a,b,.emp,hs,PH.emp_le _,PH.dis_emp _,e,f,fun _=>PH.emp_dis _,k,fun i t x=>by rw [PH.un_emp];exact m i t x⟩
def PH.sub (Y Z:PH):PH:=fun b=>match Z b with|some _=>none|none=>Y b
theorem PH.sub_le (Y Z:PH):(Y.sub Z).le Y:=fun b x e=>by
 unfold PH.sub at e;split at e
 ·cases e
 ·exact e
theorem PH.sub_dis (Y Z:PH):Z.dis (Y.sub Z):=fun b x y e f=>by
 unfold PH.sub at f;rw [e] at f;cases f
structure Gw (Z V Y W:PH):Prop where
 z:Z.le Y
 v:V.le W
 o:∀b x y,Y b=some x→V b=some y→Z b=some x
theorem Gw.refl (Z V:PH):Gw Z V Z V:=⟨PH.le.refl _,PH.le.refl _,fun _ _ _ h _=>h⟩
theorem Gw.trans {Z V Y W X U:PH}(h:Gw Z V Y W)(k:Gw Y W X U):Gw Z V X U:=⟨h.z.trans k.z,h.v.trans k.v,fun b x y e f=>h.o b x y (k.o b x y e (h.v _ _ f)) f⟩
theorem Gw.le_un {Z V Y W N:PH}(h:Gw Z V Y W)(d:V.dis N):(Y.un N).le (Z.un ((Y.un N).sub V)):=fun b x e=>by
 cases hv:V b with
 | none=>
   cases hz:Z b with
   | none=>simp only [PH.un,hz];simp only [PH.sub,hv];exact e
   | some z=>
     have:=h.z _ _ hz
     simp only [PH.un,this] at e
     simp only [PH.un,hz];exact e
 | some y=>
   have hN:N b=none:=by
    cases q:N b with
    | none=>rfl
    | some w=>exact absurd (d _ _ _ hv q) id
   cases hy:Y b with
   | none=>simp only [PH.un,hy,hN] at e;cases e
   | some w=>
     simp only [PH.un,hy] at e;cases e
     have:=h.o _ _ _ hy hv
     simp only [PH.un,this]
theorem Sat.weak {Y W:PH}(q:Gw Z V Y W)(zv:Z.le V)(h:Sat Y W H l):Sat Z V H l:=by
 have hz:=h.z
 obtain⟨a,b,N,hs,c,d,e,f,g,k,m⟩:=h
 refine⟨zv,q.v.trans b,(Y.un N).sub V,hs,(PH.sub_le _ _).trans (PH.un_le hz c),PH.sub_dis _ _,e,fun i=>(f i).le q.v (PH.le.refl _),fun i=>?_,k,fun i t x=>?_⟩
 ·exact(PH.un_dis ((f i).le a (PH.le.refl _)) (g i)).le (PH.sub_le _ _) (PH.le.refl _)
 ·exact t.mono (q.le_un (d.le q.v (PH.le.refl _))) (PH.le.refl _) (m i t x)
theorem Sat.norm' (h:Sat Z V H l):∃Y W:PH,Gw Z V Y W∧Y.le W∧W.le (Hp.ph H)∧∃hs:Nat→PH,(∀i,(hs i).le (Hp.ph H))∧(∀i,W.dis (hs i))∧(∀i j,i≠j→(hs i).dis (hs j))∧∀(i:Nat) (t:It),l[i]? =some t→t.P Y (hs i):=by
 obtain⟨a,b,N,hs,c,d,e,f,g,k,m⟩:=h
 refine⟨Z.un N,V.un N,⟨PH.un_left _ _,PH.un_left _ _,fun b x y p q=>?_⟩,PH.un_le (a.trans (PH.un_left _ _)) (PH.un_right d),PH.un_le b c,hs,e,fun i=>PH.un_dis (f i) (g i),k,m⟩
 cases hz:Z b with
 | some z=>simp only [PH.un,hz] at p;exact p
 | none=>simp only [PH.un,hz] at p;exact absurd (d _ _ _ q p) id
theorem Sat.frz (n:Nat){α:Type}{s:Sh α}{cs:List Value}{x:α}(ht:l[n]? =some (s.it cs x))(h:Sat Z V H l):∃Y W:PH,Gw Z V Y W∧Sat Y W H (l.eraseIdx n)∧s.rd Y cs x:=by
 obtain⟨Y,W,q,yw,wh,hs,e,f,k,m⟩:=h.norm'
 have hY:(hs n).le (Y.un (hs n)):=PH.un_right ((f n).le yw (PH.le.refl _))
 refine⟨Y.un (hs n),W.un (hs n),⟨q.z.trans (PH.un_left _ _),q.v.trans (PH.un_left _ _),fun b x y p r=>?_⟩,?_,s.ow_rd (PH.un_left _ _) hY (m n _ ht)⟩
 ·cases hy:Y b with
  | some z=>simp only [PH.un,hy] at p;cases p;exact q.o _ _ _ hy r
  | none=>simp only [PH.un,hy] at p;exact absurd (f n _ _ _ (q.v _ _ r) p) id
 ·rw [←eF l n It.tt]
  refine Sat.drop n (Sat.mk' (hs:=fun i=>if i=n then .emp else hs i) (PH.un_le (yw.trans (PH.un_left _ _)) (PH.un_right (f n))) (PH.un_le wh (e n)) (fun i=>?_) (fun i=>?_) (fun i j x=>?_) (fun i t x=>?_))
  ·split
   ·exact PH.emp_le _
   ·exact e i
  ·split
   ·exact PH.dis_emp _
   ·rename_i x;exact PH.un_dis (f i) (k n i (fun y=>x y.symm))
  ·split
   ·exact PH.emp_dis _
   ·split
    ·exact PH.dis_emp _
    ·exact k i j x
  ·by_cases hi:i=n
   ·subst hi
    rw [List.getElem?_set_self (List.getElem?_eq_some_iff.1 ht).1] at x
    cases x;exact trivial
   ·rw [if_neg hi]
    rw [List.getElem?_set_ne (fun e=>hi e.symm)] at x
    exact t.mono (PH.un_left _ _) (PH.le.refl _) (m i t x)
theorem Sat.frzS (n:Nat){α:Type}{s:Sh α}{v:Value}{xs:List α}(ht:l[n]? =some (It.sl s v xs))(h:Sat Z V H l):∃Y W:PH,Gw Z V Y W∧Sat Y W H (l.eraseIdx n)∧RdS s Y v xs:=by
 have h1:Sat Z V H (l.set n (s.sl.it [v] xs)):=h.conv n ht fun F k _ q=>⟨v,rfl,q⟩
 obtain⟨Y,W,a,b,v',e,c⟩:=h1.frz n (List.getElem?_set_self (List.getElem?_eq_some_iff.1 ht).1)
 cases e
 exact⟨Y,W,a,by rwa [eF] at b,c⟩
theorem Sat.act (n:Nat){t u:It}(ht:l[n]? =some t)
 (q:∀F h:PH,Z.le F→h.le (Hp.ph H)→t.P F h→∃h':PH,u.P F h'∧h'.le (Hp.ph H')∧(∀c x,h' c=some x→(∃y,h c=some y)∨Hp.ph H c=none)∧(∀c x,Hp.ph H c=some x→h c=none→Hp.ph H' c=some x))
 (h:Sat Z V H l):Sat Z V H' (l.set n u):=by
 obtain⟨Y,W,gw,yw,wh,hs,e,f,k,m⟩:=h.norm'
 obtain⟨h',hu,hle,hdom,hrest⟩:=q Y (hs n) gw.z (e n) (m n t ht)
 have go:∀{g:PH},g.le (Hp.ph H)→(hs n).dis g→g.le (Hp.ph H'):=fun {g} hg hd c x q=>by
  refine hrest c x (hg _ _ q) ?_
  cases r:hs n c with
  | none=>rfl
  | some y=>exact absurd (hd _ _ _ r q) id
 have key:∀{g:PH},g.le (Hp.ph H)→(hs n).dis g→h'.dis g:=fun {g} hg hd c x y q1 q2=>by
  rcases hdom c x q1 with⟨z,hz⟩|hz
  ·exact hd _ _ _ hz q2
  ·have:=hg _ _ q2;rw [hz] at this;cases this
 refine Sat.weak gw h.zv (Sat.mk' (hs:=fun i=>if i=n then h' else hs i) yw (go wh (f n).symm) (fun i=>?_) (fun i=>?_) (fun i j x=>?_) (fun i v x=>?_))
 ·split
  ·exact hle
  ·rename_i q;exact go (e i) (k n i (fun x=>q x.symm))
 ·split
  ·exact(key wh (f n).symm).symm
  ·exact f i
 ·by_cases hi:i=n
  ·rw [if_pos hi]
   by_cases hj:j=n
   ·exact absurd (hi.trans hj.symm) x
   ·rw [if_neg hj];exact key (e j) (k n j fun y=>hj y.symm)
  ·rw [if_neg hi]
   by_cases hj:j=n
   ·rw [if_pos hj];exact(key (e i) (k n i fun y=>hi y.symm)).symm
   ·rw [if_neg hj];exact k i j x
 ·by_cases hi:i=n
  ·subst hi
   rw [List.getElem?_set_self (List.getElem?_eq_some_iff.1 ht).1] at x
   cases x
   rw [if_pos rfl];exact hu
  ·rw [List.getElem?_set_ne (fun e=>hi e.symm)] at x
   rw [if_neg hi]
   exact m i v x
def It.sep (t u:It):It:=⟨fun F h=>∃h1 h2:PH,h1.le h∧h2.le h∧h1.dis h2∧t.P F h1∧u.P F h2,fun hz hh ⟨h1,h2,a,b,c,d,e⟩=>⟨h1,h2,a.trans hh,b.trans hh,c,t.mono hz (PH.le.refl _) d,u.mono hz (PH.le.refl _) e⟩⟩
theorem Sat.join {t u:It}(h:Sat Z V H (t::u::l)):Sat Z V H (t.sep u::l):=by
 obtain⟨a,b,N,hs,c,d,e,f,g,k,m⟩:=h
 have d01:=k 0 1 (by omega)
 refine⟨a,b,N,fun i=>match i with|0=>(hs 0).un (hs 1)|i+1=>hs (i+2),c,d,fun i=>?_,fun i=>?_,fun i=>?_,fun i j x=>?_,fun i v x=>?_⟩
 ·cases i with
  | zero=>exact PH.un_le (e 0) (e 1)
  | succ i=>exact e _
 ·cases i with
  | zero=>exact(PH.un_dis (f 0).symm (f 1).symm).symm
  | succ i=>exact f _
 ·cases i with
  | zero=>exact(PH.un_dis (g 0).symm (g 1).symm).symm
  | succ i=>exact g _
 ·cases i with
  | zero=>cases j with
    | zero=>exact absurd rfl x
    | succ j=>exact PH.un_dis (k _ _ (by omega)) (k _ _ (by omega))
  | succ i=>cases j with
    | zero=>exact(PH.un_dis (k _ _ (by omega)) (k _ _ (by omega))).symm
    | succ j=>exact k _ _ (by omega)
 ·cases i with
  | zero=>simp at x;subst x;exact⟨hs 0,hs 1,PH.un_left _ _,PH.un_right d01,d01,m 0 t rfl,m 1 u rfl⟩
  | succ i=>exact m (i+2) v (by simpa using x)
theorem Sat.new {k:Nat}{x:Blk}(hx:x≠ .dead)(hk:Hp.ph H k=none)(hn:H'[k]? =some x)(ho:∀b:Nat,b≠k→H'[b]? =H[b]?)(h:Sat Z V H l):Sat Z V H' (pts k x::l):=by
 have h1:Sat Z V H (It.tt::l):=h.push fun _ _=>trivial
 refine h1.act 0 (t:=It.tt) (u:=pts k x) rfl fun F g _ _ _=>⟨PH.one k x,PH.one_same ..,PH.one_le (an.2 ⟨hn,hx⟩),fun c y q=>?_,fun c y q _=>?_⟩
 ·unfold PH.one PH.upd at q
  split at q
  ·subst_vars;exact .inr hk
  ·cases q
 ·have:c≠k:=fun e=>by subst e;rw [hk] at q;cases q
  rw [fW (ho c this)];exact q
theorem Sat.new' {x:Blk}(hx:x≠ .dead)(h:Sat Z V H l):Sat Z V (H++ [x]) (pts H.length x::l):=by
 refine h.new hx (by simp [Hp.ph]) (fM rfl) fun c hc=>?_
 rcases Nat.lt_or_ge c H.length with e|e
 ·exact cX e
 ·rw [List.getElem?_eq_none (by simp;omega),List.getElem?_eq_none e]
theorem Sat.wr (n:Nat){t u:It}{b:Nat}{y:Blk}(ht:l[n]? =some t)(hy:y≠ .dead)(hb:b<H.length)
 (q:∀F h:PH,Z.le F→h.le (Hp.ph H)→t.P F h→(∃x,h b=some x)∧u.P F (h.upd b y)) (h:Sat Z V H l):Sat Z V (H.set b y) (l.set n u):=by
 refine h.act n ht fun F g hF hg ht=>?_
 obtain⟨⟨x,hx⟩,hu⟩:=q F g hF hg ht
 refine⟨_,hu,fun c z r=>?_,fun c z r=>?_,fun c z r s=>?_⟩
 ·by_cases hc:c=b
  ·subst hc;rw [PH.upd_same] at r;cases r;exact an.2 ⟨hX hb,hy⟩
  ·rw [PH.upd_ne _ _ hc] at r;rw [fW (bM hc)];exact hg _ _ r
 ·by_cases hc:c=b
  ·subst hc;exact .inl ⟨x,hx⟩
  ·rw [PH.upd_ne _ _ hc] at r;exact .inl ⟨z,r⟩
 ·have:c≠b:=fun e=>by subst e;rw [hx] at s;cases s
  rw [fW (bM this)];exact r
noncomputable def PH.all (hs:Nat→PH)(p:Nat→Prop):PH:=by
 classical
 exact fun b=>if h:∃(i:Nat) (x:Blk),p i∧hs i b=some x then some h.choose_spec.choose else none
theorem PH.all_some {hs:Nat→PH}{p:Nat→Prop}{b:Nat}{x:Blk}(e:PH.all hs p b=some x):∃i,p i∧hs i b=some x:=by
 unfold PH.all at e
 split at e
 ·rename_i h;cases e;exact⟨h.choose,h.choose_spec.choose_spec⟩
 ·cases e
theorem PH.le_all {hs:Nat→PH}(k:∀i j,i≠j→(hs i).dis (hs j)){p:Nat→Prop}{i:Nat}(hi:p i):(hs i).le (PH.all hs p):=fun b x e=>by
 cases h:PH.all hs p b with
 | some y=>
   obtain⟨j,hj,hy⟩:=PH.all_some h
   by_cases q:i=j
   ·subst q;rw [e] at hy;rw [hy]
   ·exact absurd (k i j q _ _ _ e hy) id
 | none=>
   unfold PH.all at h
   split at h
   ·cases h
   ·rename_i q;exact absurd ⟨i,x,hi,e⟩ q
theorem Sat.call {l1 l2:List It}(h:Sat Z V H (l1++l2)):∃Y U W:PH,Gw Z V Y U∧U.le W∧Sat Y W H l1∧
 (∀(n:Nat) (α:Type) (s:Sh α) (v:Value) (xs:List α),l2[n]? =some (It.sl s v xs)→RdS s W v xs)∧
 (∀(n:Nat) (α:Type) (s:Sh α) (cs:List Value) (x:α),l2[n]? =some (s.it cs x)→s.rd W cs x)∧
 (∀(n:Nat) (b:Nat) (x:Blk),l2[n]? =some (pts b x)→W b=some x)∧
 ∀(H':Hp) (l':List It),Sat Y W H' l'→Sat Y U H' (l'++l2):=by
 obtain⟨Y,W,gw,yw,wh,hs,e,f,k,m⟩:=h.norm'
 let R:PH:=PH.all hs fun i=>l1.length≤i
 have hR:∀i,(hs (l1.length+i)).le R:=fun i=>PH.le_all k (by omega)
 have hRH:R.le (Hp.ph H):=fun b x q=>by obtain⟨i,_,q⟩:=PH.all_some q;exact e i _ _ q
 have hRd:∀i,i<l1.length→R.dis (hs i):=fun i hi b x y q r=>by
  obtain⟨j,hj,q⟩:=PH.all_some q;exact k j i (by omega) _ _ _ q r
 have hWR:W.dis R:=fun b x y q r=>by obtain⟨j,hj,r⟩:=PH.all_some r;exact f j _ _ _ q r
 have hY2:Y.le (W.un R):=yw.trans (PH.un_left _ _)
 have hi2:∀(n:Nat) (t:It),l2[n]? =some t→t.P Y (hs (l1.length+n)):=fun n t q=>m _ t (by rw [List.getElem?_append_right (by omega)];simpa using q)
 have hi2':∀n,(hs (l1.length+n)).le (W.un R):=fun n=>(hR n).trans (PH.un_right hWR)
 refine⟨Y,W,W.un R,gw,PH.un_left _ _,Sat.mk' (hs:=fun i=>if i<l1.length then hs i else .emp) hY2 (PH.un_le wh hRH) (fun i=>?_) (fun i=>?_) (fun i j x=>?_) (fun i t x=>?_),?_,?_,?_,?_⟩
 ·split
  ·exact e i
  ·exact PH.emp_le _
 ·split
  ·rename_i q;exact PH.un_dis (f i) (hRd i q)
  ·exact PH.dis_emp _
 ·split
  ·split
   ·exact k i j x
   ·exact PH.dis_emp _
  ·exact PH.emp_dis _
 ·have hi:=(List.getElem?_eq_some_iff.1 x).1
  rw [if_pos hi]
  exact m i t (by rw [List.getElem?_append_left hi];exact x)
 ·intro n α s v xs q
  exact OwS.rd hY2 (hi2' n) (hi2 n _ q)
 ·intro n α s cs x q
  exact s.ow_rd hY2 (hi2' n) (hi2 n _ q)
 ·intro n b x q
  exact hi2' n _ _ (hi2 n _ q)
 ·intro H' l' h'
  obtain⟨a,b,N',hs',c',d',e',f',g',k',m'⟩:=h'
  have hRW:R.le (W.un R):=PH.un_right hWR
  refine⟨yw,(PH.un_left _ _).trans b,N',fun i=>if i<l'.length then hs' i else hs (l1.length+(i-l'.length)),c',d'.le (PH.un_left _ _) (PH.le.refl _),fun i=>?_,fun i=>?_,fun i=>?_,fun i j x=>?_,fun i t x=>?_⟩
  ·dsimp only;split
   ·exact e' i
   ·exact(hi2' _).trans b
  ·dsimp only;split
   ·exact(f' i).le (PH.un_left _ _) (PH.le.refl _)
   ·exact f _
  ·dsimp only;split
   ·exact g' i
   ·exact(d'.symm).le (PH.le.refl _) (hi2' _)
  ·dsimp only;split
   ·split
    ·exact k' i j x
    ·exact((f' i).le (hi2' _) (PH.le.refl _)).symm
   ·split
    ·exact(f' j).le (hi2' _) (PH.le.refl _)
    ·exact k _ _ (by omega)
  ·dsimp only;split
   ·rename_i q;rw [List.getElem?_append_left q] at x;exact m' i t x
   ·rename_i q
    rw [List.getElem?_append_right (by omega)] at x
    exact t.mono (PH.un_left _ _) (PH.le.refl _) (hi2 _ t x)
end
end Go.Ab
namespace Go.Pu
open Go
abbrev W (n:Int):Int:=IntKind.i64.wrap n
theorem W_of {n:Int}(h1: -9223372036854775808≤n)(h2:n≤9223372036854775807):W n=n:=Ab.V_wrap h1 h2
section
variable {α σ ρ : Type}
def ix (xs:List α)(i:Int):Option α:=if 0≤i then xs[i.toNat]? else none
def st (xs:List α)(i:Int)(y:α):List α:=xs.set i.toNat y
def sub (xs:List α)(lo hi:Int):Option (List α):=if 0≤lo∧lo≤hi∧hi≤xs.length then some ((xs.take hi.toNat).drop lo.toNat) else none
def app (bytes:Nat)(xs ys:List α):Option (List α):=if(xs.length+ys.length)*bytes≤140737488355328 then some (xs++ys) else none
def mk (bytes:Nat)(n c:Int)(z:α):Option (List α):=if 0≤n∧n≤c∧(bytes:Int)*c≤281474976710656∧c≤281474976710656 then some (List.replicate n.toNat z) else none
def quo (k:IntKind)(a b:Int):Option Int:=if b=0 then none else some (k.wrap (a.tdiv b))
def rem (a b:Int):Option Int:=if b=0 then none else some (a.tmod b)
def shl (k:IntKind)(a b:Int):Option Int:=if b<0 then none else some (k.wrap (a*2^(min b.toNat k.bits)))
def shr (k:IntKind)(a b:Int):Option Int:=if b<0 then none else some (a.fdiv (2^(min b.toNat k.bits)))
def band (k:IntKind)(a b:Int):Int:=k.wrap (BitVec.ofInt k.bits a&&&BitVec.ofInt k.bits b).toNat
def bxor (k:IntKind)(a b:Int):Int:=k.wrap (BitVec.ofInt k.bits a ^^^ BitVec.ofInt k.bits b).toNat
def ran (n:Int):List Int:=(List.range n.toNat).map Int.ofNat
def ranO (n:Int):Option (List Int):=if n≤4611686018427387904 then some (ran n) else none
inductive Step (σ ρ:Type) where
 | nx (s:σ)
 | br (s:σ)
 | rt (r:ρ)
inductive Fin (σ ρ:Type) where
 | out (s:σ)
 | rt (r:ρ)
def Fin.cs {β:Type}(f:σ→β)(g:ρ→β):Fin σ ρ→β
 | .out s=>f s
 | .rt r=>g r
def forP (body:Int→α→σ→Option σ):Int→List α→σ→Option σ
 | _,[],s=>some s
 | i,x::xs,s=>(body i x s).bind fun s'=>forP body (i+1) xs s'
def forL (body:Int→α→σ→Option (Step σ ρ)):Int→List α→σ→Option (Fin σ ρ)
 | _,[],s=>some (.out s)
 | i,x::xs,s=>match body i x s with
   | none=>none
   | some (.nx s')=>forL body (i+1) xs s'
   | some (.br s')=>some (.out s')
   | some (.rt r)=>some (.rt r)
def whl (body:σ→Option (Step σ ρ)):Nat→σ→Option (Fin σ ρ)
 | 0,_=>none
 | n+1,s=>match body s with
   | none=>none
   | some (.nx s')=>whl body n s'
   | some (.br s')=>some (.out s')
   | some (.rt r)=>some (.rt r)
theorem bind_some {α β:Type}{o:Option α}{f:α→Option β}{b:β}(h:(o.bind f)=some b):∃a,o=some a∧f a=some b:=Option.bind_eq_some_iff.1 h
theorem dL {xs:List α}{i:Int}{x:α}(h:ix xs i=some x):0≤i∧i<xs.length∧xs[i.toNat]? =some x:=by
 unfold ix at h
 split at h
 ·have:=(List.getElem?_eq_some_iff.1 h).1
  exact⟨by assumption,by omega,h⟩
 ·cases h
theorem ix_nat {xs:List α}{i:Nat}:ix xs (i:Int)=xs[i]? :=by simp [ix]
end
end Go.Pu
namespace Go.Ab
open Go Go.Pu
section
variable {α : Type}
theorem chk_take (us:List Value)(o sz i n m:Nat)(hi:i<n)(hm:o+n*sz≤m):chk (us.take m) o sz i=chk us o sz i:=by
 have:i*sz+sz≤n*sz:=by
  have:=Nat.mul_le_mul_right sz (show i+1≤n from hi)
  rwa [Nat.add_mul,Nat.one_mul] at this
 unfold chk
 rw [List.drop_take,List.take_take]
 congr 1
 omega
theorem ez (us vs:List Value)(o sz i n:Nat)(hi:i<n)(h:o+n*sz≤us.length):chk (us++vs) o sz i=chk us o sz i:=by
 have:=cJ hi h
 unfold chk
 rw [List.drop_append_of_le_length (by omega),List.take_append_of_le_length (by simp;omega)]
theorem dm (us vs:List Value)(n sz i:Nat)(h:us.length=n*sz)(hi:n≤i):chk (us++vs) 0 sz i=chk vs 0 sz (i-n):=by
 unfold chk
 have:i*sz=n*sz+(i-n)*sz:=by rw [←Nat.add_mul];congr 1;omega
 rw [Nat.zero_add,Nat.zero_add,this,←h,List.drop_length_add_append]
theorem chk_drop (us:List Value)(o sz i:Nat):chk (us.drop o) 0 sz i=chk us o sz i:=by
 unfold chk
 rw [Nat.zero_add,List.drop_drop]
theorem cL (us:List Value)(o sz i n:Nat)(hi:i<n):chk ((us.drop o).take (n*sz)) 0 sz i=chk us o sz i:=by
 rw [chk_take _ 0 sz i n _ hi (by omega),chk_drop]
theorem ec {us cs:List Value}{o sz i j n:Nat}(hj:j<n)(hi:i<n)(h:o+n*sz≤us.length)(hc:cs.length=sz):
 chk (splice us (o+j*sz) cs) o sz i=if i=j then cs else chk us o sz i:=by
 have h1:=cJ hj h
 have h2:=cJ hi h
 unfold chk splice
 split
 ·subst_vars
  rw [List.append_assoc,List.drop_append_of_le_length (by simp;omega)]
  rw [List.drop_eq_nil_of_le (by simp;omega),List.nil_append,List.take_append_of_le_length (Nat.le_refl _),List.take_length]
 ·rename_i hne
  rcases Nat.lt_or_gt_of_ne hne with hlt|hgt
  ·have h3:i*sz+sz≤j*sz:=by have:=Nat.mul_le_mul_right sz (show i+1≤j from hlt);rwa [Nat.add_mul,Nat.one_mul] at this
   rw [List.append_assoc,List.drop_append_of_le_length (by simp;omega),List.take_append_of_le_length (by simp;omega)]
   rw [List.drop_take,List.take_take]
   congr 1;omega
  ·have h3:j*sz+sz≤i*sz:=by have:=Nat.mul_le_mul_right sz (show j+1≤i from hgt);rwa [Nat.add_mul,Nat.one_mul] at this
   rw [List.append_assoc,List.drop_append,List.drop_eq_nil_of_le (by simp;omega),List.nil_append,List.drop_append,List.drop_eq_nil_of_le (by simp;omega),List.nil_append,List.drop_drop]
   congr 2
   simp;omega
theorem RdS.len {s:Sh α}{Z:PH}{v:Value}{xs:List α}(h:RdS s Z v xs):vlen v=some (vi xs.length):=by
 rcases h with⟨rfl,rfl⟩|⟨b,o,us,x,rfl,-⟩<;>rfl
theorem RdS.val {s:Sh α}{Z:PH}{v:Value}{xs:List α}(h:RdS s Z v xs):∃a,v= .slice a xs.length xs.length:=by
 rcases h with⟨rfl,rfl⟩|⟨b,o,us,x,rfl,-⟩<;>exact⟨_,rfl⟩
theorem RdS.bd {s:Sh α}{Z:PH}{v:Value}{xs:List α}(h:RdS s Z v xs):xs.length≤281474976710656:=by
 rcases h with⟨rfl,rfl⟩|⟨b,o,us,x,rfl,-,-,-,h,-⟩
 ·simp
 ·exact h.2
theorem RdS.idx {s:Sh α}{Z:PH}{v:Value}{xs:List α}(h:RdS s Z v xs){j:Int}{u:α}(hj:ix xs j=some u){sz:Nat}(hz:s.sz=sz):
 ∃p,vidxs sz v (vi j)=some p:=by
 obtain⟨h1,h2,h3⟩:=dL hj
 rcases h with⟨rfl,rfl⟩|⟨b,o,us,x,rfl,-⟩
 ·simp at h2;omega
 ·exact⟨_,by rw [cz,if_pos ⟨h1,h2⟩]⟩
theorem RdS.at' {s:Sh α}{Z:PH}{v:Value}{xs:List α}(h:RdS s Z v xs){H:Hp}(hZ:Z.le (Hp.ph H)){j:Int}{u:α}(hj:ix xs j=some u){sz:Nat}(hz:s.sz=sz){p:Value}(hp:vidxs sz v (vi j)=some p):
 ∃cs,s.rd Z cs u∧cs.length=sz∧∀agg,vload H sz agg p=mkv agg cs:=by
 obtain⟨h1,h2,h3⟩:=dL hj
 subst hz
 rcases h with⟨rfl,rfl⟩|⟨b,o,us,x,rfl,h4,h5,h6,h7,h8⟩
 ·simp at h2;omega
 ·rw [cz,if_pos ⟨h1,h2⟩] at hp
  cases hp
  have hlt:j.toNat<xs.length:=by omega
  refine⟨_,h8 _ u h3,fB hlt h7.1,fun agg=>?_⟩
  have hb:Hp.cells H b=some us:=by rw [bC (bQ hZ h4)];exact h5
  simp only [vload,Option.isNone_none,if_true,Hp.load,hb]
  rw [if_pos (cJ hlt h7.1)];rfl
theorem RdS.mid {s:Sh α}{Z:PH}{v:Value}{xs:List α}(h:RdS s Z v xs){H:Hp}(hZ:Z.le (Hp.ph H)){lo hi:Int}{ys:List α}(hs:sub xs lo hi=some ys){sz:Nat}(hz:s.sz=sz):
 ∃v',aslice H sz v (some (vi lo)) (some (vi hi))=some v'∧RdS s Z v' ys:=by
 subst hz
 unfold sub at hs
 split at hs
 case isFalse=>cases hs
 rename_i hb
 cases hs
 obtain⟨a,rfl⟩:=Int.eq_ofNat_of_zero_le hb.1
 obtain⟨c,rfl⟩:=Int.eq_ofNat_of_zero_le (Int.le_trans hb.1 hb.2.1)
 have hac:a≤c:=by omega
 have hcx:c≤xs.length:=by omega
 simp only [Int.toNat_natCast]
 rcases h with⟨rfl,rfl⟩|⟨b,o,us,x,rfl,h4,h5,h6,h7,h8⟩
 ·simp at hcx;subst hcx
  obtain rfl:a=0:=by omega
  exact⟨.slice none 0 0,rfl,.inl ⟨rfl,by simp⟩⟩
 ·have he:Hp.esz H b=some s.sz:=by simp only [Hp.esz,bQ hZ h4,Option.bind_some];exact h6
  have hl:((xs.take c).drop a).length=c-a:=by simp;omega
  refine⟨.slice (some ⟨b,o+a*s.sz,none⟩) (c-a) (c-a),?_,.inr ⟨b,o+a*s.sz,us,x,by rw [hl],h4,h5,h6,?_,fun i y hy=>?_⟩⟩
  ·have hbl:H.blind ⟨b,o,none⟩ (xs.length*s.sz)=false:=by
    have hc:Hp.cells H b=some us:=by rw [bC (an.1 (hZ _ _ h4)).1];exact h5
    unfold Hp.blind;simp only [hc];have:=h7.1;simp;omega
   simp only [aslice,he,asNat,hbl]
   simp [hcx,hac]
  ·rw [hl]
   refine⟨?_,by have:=h7.2;omega⟩
   have h7:=h7.1
   have:a*s.sz+(c-a)*s.sz=c*s.sz:=by rw [←Nat.add_mul];congr 1;omega
   have h9:c*s.sz≤xs.length*s.sz:=Nat.mul_le_mul_right _ hcx
   omega
  ·have hi:=(List.getElem?_eq_some_iff.1 hy).1
   rw [List.getElem?_drop,List.getElem?_take] at hy
   split at hy
   ·have:=h8 (a+i) y hy
    have e:o+a*s.sz+i*s.sz=o+(a+i)*s.sz:=by rw [Nat.add_mul];omega
    unfold chk at this ⊢
    rw [e];exact this
   ·cases hy
theorem RdS.slice_lo {s:Sh α}{Z:PH}{v:Value}{xs:List α}(h:RdS s Z v xs){H:Hp}(hZ:Z.le (Hp.ph H))(x:Option Value){sz:Nat}(hz:s.sz=sz):aslice H sz v none x=aslice H sz v (some (vi 0)) x:=by
 subst hz
 rcases h with⟨rfl,rfl⟩|⟨b,o,us,y,rfl,h4,h5,h6,h7,h8⟩
 ·simp only [aslice,asNat];cases asNat 0 0 x 0<;>simp
 ·have he:Hp.esz H b=some s.sz:=by simp only [Hp.esz,bQ hZ h4,Option.bind_some];exact h6
  simp only [aslice,asNat,he];cases asNat 0 xs.length x xs.length<;>simp
theorem RdS.slice_hi {s:Sh α}{Z:PH}{v:Value}{xs:List α}(h:RdS s Z v xs){H:Hp}(hZ:Z.le (Hp.ph H))(x:Option Value){sz:Nat}(hz:s.sz=sz):aslice H sz v x none=aslice H sz v x (some (vi xs.length)):=by
 subst hz
 rcases h with⟨rfl,rfl⟩|⟨b,o,us,y,rfl,h4,h5,h6,h7,h8⟩
 ·rfl
 ·have he:Hp.esz H b=some s.sz:=by simp only [Hp.esz,bQ hZ h4,Option.bind_some];exact h6
  simp [aslice,asNat,he]
theorem Sat.set {Z V:PH}{H:Hp}{l:List It}{s:Sh α}{v:Value}{xs:List α}(n:Nat)(ht:l[n]? =some (It.sl s v xs))(hl:s.Lt)(h:Sat Z V H l){sz:Nat}(hz:s.sz=sz){j:Int}{u0 u:α}(hj:ix xs j=some u0)
 {p:Value} (hp:vidxs sz v (vi j)=some p) {w:Value} {cs:List Value} (hc:w.cells.toList=cs) (hr:s.rd Z cs u):
 ∃H1,hstore sz p w H=some H1∧Sat Z V H1 (l.set n (It.sl s v (Pu.st xs j u))):=by
 obtain⟨h1,h2,h3⟩:=dL hj
 subst hz
 have hlt:j.toNat<xs.length:=by omega
 have hcur:=h.curS n ht
 rcases hcur with⟨rfl,rfl⟩|⟨b,o,us,x,rfl,h4,h5,h6,h7,-⟩
 ·simp at h2;omega
 have hb:=(an.1 h4).1
 have hrw:x= .rw s.sz us:=by
  obtain⟨-,-,N,hs,c,d,e,f,g,k,m⟩:=h
  rcases m n _ ht with⟨q,-⟩|⟨b',o',us',hs',q1,q2,-⟩
  ·cases q
  ·cases q1
   have:=e n _ _ q2
   rw [h4] at this;cases this
   simp at h5;rw [h5]
 subst hrw
 have hbd:=h7.2
 have h7:=h7.1
 have hlen:=s.len hr
 have hx:w.cells.size=s.sz:=by rw [←hlen,←hc];simp
 have hat:=cJ hlt h7
 refine⟨H.set b (.rw s.sz (splice us (o+j.toNat*s.sz) cs)),?_,?_⟩
 ·rw [cz,if_pos ⟨h1,h2⟩] at hp
  cases hp
  simp only [hstore,hb,hc]
  rw [if_pos ⟨hx,s.one hr,hat⟩]
 ·refine h.wr n ht (by simp) (bo hb) fun F k hF hk q=>?_
  rcases q with⟨q,-⟩|⟨b',o',us',hs',q1,q2,q3,q4,q5,q6,q7⟩
  ·cases q
  ·simp only [Value.slice.injEq,Option.some.injEq,Addr.mk.injEq,and_true] at q1
   obtain⟨⟨rfl,rfl⟩,-,-⟩:=q1
   refine⟨⟨_,q2⟩,.inr ⟨b,o,splice us (o+j.toNat*s.sz) cs,fun i=>if i=j.toNat then .emp else hs' i,by simp [Pu.st],PH.upd_same ..,⟨by rw [cm _ _ _ (by omega)];simpa [Pu.st] using h7,by simpa [Pu.st] using hbd⟩,fun i=>?_,fun i=>?_,fun i i' e=>?_,fun i y hy=>?_⟩⟩
   ·dsimp only;split
    ·exact PH.emp_le _
    ·intro c z e
     have:c≠b:=fun e'=>by subst e';rw [q5 i] at e;cases e
     rw [PH.upd_ne _ _ this];exact q4 i _ _ e
   ·dsimp only;split
    ·rfl
    ·exact q5 i
   ·dsimp only;split
    ·exact PH.emp_dis _
    ·split
     ·exact PH.dis_emp _
     ·exact q6 i i' e
   ·have hi:i<xs.length:=by have:=(List.getElem?_eq_some_iff.1 hy).1;simpa [Pu.st] using this
    rw [ec hlt hi h7 hlen]
    by_cases e:i=j.toNat
    ·subst e
     dsimp only
     rw [if_pos rfl,if_pos rfl]
     rw [Pu.st,List.getElem?_set_self hlt] at hy
     cases hy
     exact hl (s.rd_mono hF hr)
    ·dsimp only
     rw [if_neg e,if_neg e]
     rw [Pu.st,List.getElem?_set_ne (fun q=>e q.symm)] at hy
     have hus:us'=us:=by
      have:=bQ hk q2
      rw [hb] at this;cases this;rfl
     subst hus
     exact q7 i y hy
theorem dB {s:Sh α}{Z:PH}{v:Value}{xs:List α}(h:RdS s Z v xs){H:Hp}(hZ:Z.le (Hp.ph H)){sz:Nat}(hz:s.sz=sz):
 ∃us,slcells H sz v=some (xs.length,us)∧us.length=xs.length*sz∧us.all Value.oneCell'=true∧∀(i:Nat) (y:α),xs[i]? =some y→s.rd Z (chk us 0 sz i) y:=by
 subst hz
 rcases h with⟨rfl,rfl⟩|⟨b,o,us,x,rfl,h4,h5,h6,h7,h8⟩
 ·exact⟨[],rfl,by simp,rfl,fun i y e=>by simp at e⟩
 ·have h7:=h7.1
  have hb:Hp.cells H b=some us:=by rw [bC (bQ hZ h4)];exact h5
  have hl:((us.drop o).take (xs.length*s.sz)).length=xs.length*s.sz:=by simp;omega
  refine⟨(us.drop o).take (xs.length*s.sz),?_,hl,?_,fun i y hy=>?_⟩
  ·simp only [slcells,Option.isNone_none,if_true,Hp.load,hb,if_pos h7,Option.map_some]
  ·rw [List.all_eq_true]
   intro w hw
   obtain⟨k,hk⟩:=List.getElem?_of_mem hw
   have hkl:=(List.getElem?_eq_some_iff.1 hk).1
   rw [hl] at hkl
   have hs:0<s.sz:=by
    rcases Nat.eq_zero_or_pos s.sz with e|e
    ·rw [e,Nat.mul_zero] at hkl;omega
    ·exact e
   have hq:k/s.sz<xs.length:=Nat.div_lt_of_lt_mul (by rw [Nat.mul_comm];exact hkl)
   have hd:k/s.sz*s.sz+k%s.sz=k:=by rw [Nat.mul_comm];exact Nat.div_add_mod k s.sz
   have hm:=Nat.mod_lt k hs
   have h9:=s.one (h8 _ _ (List.getElem?_eq_getElem hq))
   rw [List.all_eq_true] at h9
   refine h9 w (List.mem_of_getElem? (i:=k%s.sz) ?_)
   rw [List.getElem?_take,List.getElem?_drop,if_pos hkl] at hk
   rw [chk,List.getElem?_take,if_pos hm,List.getElem?_drop,Nat.add_assoc,hd]
   exact hk
  ·rw [cL us o s.sz i xs.length (List.getElem?_eq_some_iff.1 hy).1]
   exact h8 i y hy
theorem Sat.app {Z V W:PH}{H:Hp}{l:List It}{s:Sh α}{v q:Value}{xs ys zs:List α}(n:Nat)(ht:l[n]? =some (It.sl s v xs))(hl:s.Lt)(h:Sat Z V H l){sz:Nat}(hz:s.sz=sz){s':Sh α}(hz':s'.sz=sz)
 (hq:RdS s' W q ys) (hW:W.le (Hp.ph H)) (hf:∀{cs:List Value} {x:α},s'.rd W cs x→s.rd Z cs x) {bytes:Nat} (hby:0<bytes) (ha:Pu.app bytes xs ys=some zs):
 ∃v' H1,aappend sz bytes v q H=some (v',H1)∧Sat Z V H1 (l.set n (It.sl s v' zs)):=by
 subst hz
 have hlim:xs.length+ys.length≤281474976710656:=by
  unfold Pu.app at ha
  split at ha
  ·rename_i hb;have:=Nat.le_mul_of_pos_right (xs.length+ys.length) hby;omega
  ·cases ha
 unfold Pu.app at ha
 split at ha
 case isFalse=>cases ha
 rename_i hb
 cases ha
 obtain⟨new,hn1,hn2,hn3,hn4⟩:=dB hq hW hz'
 by_cases h0:ys.length=0
 ·have:ys= []:=List.eq_nil_of_length_eq_zero h0
  subst this
  refine⟨v,H,?_,?_⟩
  ·rcases(h.curS n ht).val with⟨a,rfl⟩
   cases a with
   | none=>
     rcases h.curS n ht with⟨e,e2⟩|⟨b,o,us,x,e,-⟩
     ·subst e2;simp only [aappend,hn1];rfl
     ·cases e
   | some a=>simp only [aappend,hn1];rfl
  ·rw [List.append_nil]
   have:l.set n (It.sl s v xs)=l:=by
    apply List.ext_getElem?
    intro i
    by_cases e:i=n
    ·subst e;rw [List.getElem?_set_self (List.getElem?_eq_some_iff.1 ht).1,ht]
    ·rw [List.getElem?_set_ne (fun q=>e q.symm)]
   rw [this];exact h
 ·have hfx:∀{F:PH},Z.le F→∀(i:Nat) (y:α),ys[i]? =some y→s.ow F .emp (chk new 0 s.sz i) y:=fun hF i y hy=>hl (s.rd_mono hF (hf (hn4 i y hy)))
  have hcur:=h.curS n ht
  rcases hcur with⟨rfl,rfl⟩|⟨b,o,us,x,rfl,h4,h5,h6,h7,-⟩
  ·refine⟨.slice (some ⟨H.length,0,none⟩) ys.length ys.length,H++ [.rw s.sz new],?_,?_⟩
   ·simp only [aappend,hn1,if_neg h0]
    rw [if_pos ⟨by simpa using hb,hn3⟩]
   ·refine h.act n ht fun F k hF hk q=>⟨PH.one H.length (.rw s.sz new),.inr ⟨H.length,0,new,fun _=>.emp,by simp,PH.one_same ..,⟨by simp [hn2],by simp at hlim ⊢;exact hlim⟩,fun _=>PH.emp_le _,fun _=>rfl,fun _ _ _=>PH.emp_dis _,fun i y hy=>hfx hF i y (by simpa using hy)⟩,
     PH.one_le (an.2 ⟨fM rfl,by simp⟩),fun c y e=>?_,fun c y e _=>iD _ _ _ _ e⟩
    unfold PH.one PH.upd at e
    split at e
    ·subst_vars;right;simp [Hp.ph]
    ·cases e
  ·have h7:=h7.1
   have hb1:=(an.1 h4).1
   have hblt:=bo hb1
   have hcs:slcells H s.sz (.slice (some ⟨b,o,none⟩) xs.length xs.length)=some (xs.length,(us.drop o).take (xs.length*s.sz)):=by
    simp only [slcells,Option.isNone_none,if_true,Hp.load,show Hp.cells H b=some us by rw [bC hb1];exact h5,if_pos h7,Option.map_some]
   have hlo:((us.drop o).take (xs.length*s.sz)).length=xs.length*s.sz:=by simp;omega
   have hrw:x= .rw s.sz us:=by
    obtain⟨-,-,N,hs,c,d,e,f,g,k,m⟩:=h
    rcases m n _ ht with⟨q,-⟩|⟨b',o',us',hs',q1,q2,-⟩
    ·cases q
    ·cases q1
     have:=e n _ _ q2
     rw [h4] at this;cases this
     simp at h5;rw [h5]
   subst hrw
   refine⟨.slice (some ⟨H.length,0,none⟩) (xs.length+ys.length) (xs.length+ys.length),List.set H b .dead++ [.rw s.sz ((us.drop o).take (xs.length*s.sz)++new)],?_,?_⟩
   ·simp only [aappend,hn1,hb1,hcs,if_neg h0]
    rw [if_pos ⟨trivial,trivial,hb,hn3⟩]
   ·refine h.act n ht fun F k hF hk q=>?_
    rcases q with⟨q,-⟩|⟨b',o',us',hs',q1,q2,q3,q4,q5,q6,q7⟩
    ·cases q
    ·simp only [Value.slice.injEq,Option.some.injEq,Addr.mk.injEq,and_true] at q1
     obtain⟨⟨rfl,rfl⟩,-,-⟩:=q1
     have hus:us'=us:=by
      have:=bQ hk q2
      rw [hb1] at this;cases this;rfl
     subst hus
     have hkn:∀c y,k c=some y→c≠H.length:=fun c y e e'=>by
      have:=bo (bQ hk e);omega
     refine⟨(k.del b).upd H.length (.rw s.sz ((us'.drop o).take (xs.length*s.sz)++new)),.inr ⟨H.length,0,(us'.drop o).take (xs.length*s.sz)++new,fun i=>if i<xs.length then hs' i else .emp,by simp,PH.upd_same ..,?_,fun i=>?_,fun i=>?_,fun i i' e=>?_,fun i y hy=>?_⟩,fun c y e=>?_,fun c y e=>?_,fun c y e e'=>?_⟩
     ·refine⟨?_,by simpa using hlim⟩
      simp only [List.length_append,hlo,hn2];rw [Nat.add_mul];omega
     ·dsimp only;split
      ·intro c z e
       have h1:=q4 i _ _ e
       rw [PH.upd_ne _ _ (hkn c z h1)]
       have:c≠b:=fun e'=>by subst e';rw [q5 i] at e;cases e
       unfold PH.del;rw [if_neg this];exact h1
      ·exact PH.emp_le _
     ·dsimp only;split
      ·cases e:hs' i H.length with
       | none=>rfl
       | some z=>exact absurd rfl (hkn _ _ (q4 i _ _ e))
      ·rfl
     ·dsimp only;split
      ·split
       ·exact q6 i i' e
       ·exact PH.dis_emp _
      ·exact PH.emp_dis _
     ·dsimp only
      rw [List.getElem?_append] at hy
      split at hy
      ·rename_i hi
       rw [if_pos hi,ez _ _ 0 s.sz i xs.length hi (by rw [hlo];omega),cL us' o s.sz i xs.length hi]
       exact q7 i y hy
      ·rename_i hi
       rw [if_neg hi,dm _ _ xs.length s.sz i hlo (by omega)]
       exact hfx hF _ y hy
     ·by_cases hc:c=H.length
      ·subst hc;rw [PH.upd_same] at e;cases e;exact an.2 ⟨fM (by simp),by simp⟩
      ·rw [PH.upd_ne _ _ hc] at e
       unfold PH.del at e
       split at e
       ·cases e
       ·rename_i hcb
        have h1:=an.1 (hk _ _ e)
        have h2:=bo h1.1
        exact an.2 ⟨by rw [cX (by simpa using h2),bM hcb];exact h1.1,h1.2⟩
     ·by_cases hc:c=H.length
      ·subst hc;right;simp [Hp.ph]
      ·rw [PH.upd_ne _ _ hc] at e
       exact .inl ⟨y,PH.del_le _ _ _ _ e⟩
     ·have hcb:c≠b:=fun e''=>by subst e'';rw [q2] at e';cases e'
      have h1:=an.1 e
      have h2:=bo h1.1
      exact an.2 ⟨by rw [cX (by simpa using h2),bM hcb];exact h1.1,h1.2⟩
end
end Go.Ab
namespace Go.Ab
open Go Go.Pu
section
variable {α : Type}
def Els (s:Sh α)(Z:PH)(us:List Value)(xs:List α):Prop:=us.length=xs.length*s.sz∧∀(i:Nat) (y:α),xs[i]? =some y→s.rd Z (chk us 0 s.sz i) y
theorem Els.nil {s:Sh α}{Z:PH}:Els s Z [] []:=⟨by simp,fun i y e=>by simp at e⟩
theorem Els.cons {s:Sh α}{Z:PH}{c us:List Value}{x:α}{xs:List α}(h:s.rd Z c x)(k:Els s Z us xs):Els s Z (c++us) (x::xs):=by
 have hl:=s.len h
 refine⟨by rw [List.length_append,hl,k.1,List.length_cons,Nat.add_mul];omega,fun i y hy=>?_⟩
 cases i with
 | zero=>
   simp at hy;subst hy
   unfold chk
   rw [Nat.zero_mul,Nat.zero_add,List.drop_zero,List.take_append_of_le_length (by omega),←hl,List.take_length];exact h
 | succ i=>
   rw [dm c us 1 s.sz (i+1) (by omega) (by omega)]
   exact k.2 i y (by simpa using hy)
theorem hC (z:List Value)(n i:Nat)(hi:i<n):chk (madeCells z.toArray (n*z.length)).toList 0 z.length i=z:=by
 have h1:i*z.length+z.length≤n*z.length:=by
  have:=Nat.mul_le_mul_right z.length (show i+1≤n from hi);rwa [Nat.add_mul,Nat.one_mul] at this
 apply List.ext_getElem?
 intro k
 unfold chk
 rw [List.getElem?_take,List.getElem?_drop,Nat.zero_add]
 split
 ·rename_i hk
  have:(i*z.length+k)%z.length=k:=by rw [Nat.mul_comm,Nat.mul_add_mod,Nat.mod_eq_of_lt hk]
  simp only [madeCells,Array.toList_map,Array.toList_range,List.getElem?_map]
  rw [List.getElem?_range (by omega)]
  simp [this,hk]
 ·rename_i hk
  rw [List.getElem?_eq_none (by omega)]
theorem Els.made {s:Sh α}{Z:PH}{z:List Value}{x:α}(h:s.rd Z z x)(n:Nat):Els s Z (madeCells z.toArray (n*s.sz)).toList (List.replicate n x):=by
 have hl:=s.len h
 refine⟨by simp [size_madeCells],fun i y hy=>?_⟩
 rw [List.getElem?_replicate] at hy
 split at hy
 ·cases hy;rw [←hl,hC _ _ _ (by assumption)];exact h
 ·cases hy
theorem fa {s:Sh α}{Z:PH}{k n:Nat}{us:List Value}{xs:List α}(hl:s.Lt)(he:Els s Z us xs)(hn:n=xs.length)(hb:n≤281474976710656){sz:Nat}(hz:s.sz=sz):
 ∀F h:PH,Z.le F→(pts k (.rw sz us)).P F h→(It.sl s (.slice (some ⟨k,0,none⟩) n n) xs).P F h:=by
 subst hn;subst hz
 intro F h hF hp
 exact .inr ⟨k,0,us,fun _=>.emp,rfl,hp,⟨by rw [he.1];omega,hb⟩,fun _=>PH.emp_le _,fun _=>rfl,fun _ _ _=>PH.emp_dis _,fun i y hy=>hl (s.rd_mono hF (he.2 i y hy))⟩
theorem Sat.mks {Z V:PH}{H:Hp}{l:List It}{s:Sh α}(hl:s.Lt)(h:Sat Z V H l){sz bytes:Nat}(hz:s.sz=sz){n c:Int}{x:α}{z:List Value}(hx:s.rd Z z x){xs:List α}(hm:Pu.mk bytes n c x=some xs):
 ∃(v:Nat→Value) (b:Blk),(∀k,hmks sz bytes z (vi n) (vi c) k=some (v k,b))∧b≠ .dead∧∀(k:Nat) (H':Hp),Sat Z V H' (pts k b::l)→Sat Z V H' (It.sl s (v k) xs::l):=by
 unfold Pu.mk at hm
 split at hm
 case isFalse=>cases hm
 rename_i hc
 cases hm
 subst hz
 refine⟨fun k=>.slice (some ⟨k,0,none⟩) n.toNat n.toNat,.rw s.sz (madeCells z.toArray (n.toNat*s.sz)).toList,fun k=>?_,by simp,fun k H' h'=>?_⟩
 ·simp only [hmks]
  rw [if_pos ⟨hc.1,hc.2.1,hc.2.2.1,by omega⟩]
 ·exact h'.conv 0 rfl (fa hl (Els.made hx n.toNat) (by simp) (by omega) rfl)
def It.hole (s:Sh α)(v:Value)(xs:List α)(j:Nat)(cs:List Value):It where
 P:=fun Z h=>∃(b o:Nat) (us:List Value) (hs:Nat→PH),v= .slice (some ⟨b,o,none⟩) xs.length xs.length∧h b=some (.rw s.sz us)∧Fits o xs.length s.sz us.length∧(∀i,(hs i).le h)∧(∀i,hs i b=none)∧
  (∀i j,i≠j→(hs i).dis (hs j))∧chk us o s.sz j=cs∧∀(i:Nat) (y:α),i≠j→xs[i]? =some y→s.ow Z (hs i) (chk us o s.sz i) y
 mono:=fun hz hh ⟨b,o,us,hs,h1,h2,h3,h4,h5,h6,h7,h8⟩=>⟨b,o,us,hs,h1,hh _ _ h2,h3,fun i=>(h4 i).trans hh,h5,h6,h7,fun i y hi hy=>s.ow_mono hz (PH.le.refl _) (h8 i y hi hy)⟩
theorem Sat.part {Z V:PH}{H:Hp}{l:List It}(n:Nat){t u w:It}(ht:l[n]? =some t)(q:∀F h:PH,Z.le F→h.le (Hp.ph H)→t.P F h→∃h1 h2:PH,h1.le h∧h2.le h∧h1.dis h2∧u.P F h1∧w.P F h2)(h:Sat Z V H l):
 Sat Z V H (u::l.set n w):=by
 obtain⟨Y,W,gw,yw,wh,hs,e,f,k,m⟩:=h.norm'
 obtain⟨h1,h2,a1,a2,d,hu,hw⟩:=q Y (hs n) gw.z (e n) (m n t ht)
 refine Sat.weak gw h.zv (Sat.mk' (hs:=fun i=>match i with|0=>h1|i+1=>if i=n then h2 else hs i) yw wh (fun i=>?_) (fun i=>?_) (fun i j x=>?_) (fun i v x=>?_))
 ·cases i with
  | zero=>exact a1.trans (e n)
  | succ i=>dsimp only;split
            ·exact a2.trans (e n)
            ·exact e i
 ·cases i with
  | zero=>exact(f n).le (PH.le.refl _) a1
  | succ i=>dsimp only;split
            ·exact(f n).le (PH.le.refl _) a2
            ·exact f i
 ·cases i with
  | zero=>cases j with
    | zero=>exact absurd rfl x
    | succ j=>dsimp only;split
              ·exact d
              ·rename_i q;exact(k n j fun y=>q y.symm).le a1 (PH.le.refl _)
  | succ i=>cases j with
    | zero=>dsimp only;split
            ·exact d.symm
            ·rename_i q;exact((k n i fun y=>q y.symm).le a1 (PH.le.refl _)).symm
    | succ j=>
      dsimp only;split
      ·split
       ·omega
       ·rename_i q;exact(k n j fun y=>q y.symm).le a2 (PH.le.refl _)
      ·split
       ·rename_i q _;exact((k n i fun y=>q y.symm).le a2 (PH.le.refl _)).symm
       ·exact k i j (by omega)
 ·cases i with
  | zero=>simp at x;subst x;exact hu
  | succ i=>
    rw [List.getElem?_cons_succ] at x
    dsimp only;split
    ·rename_i q;subst q
     rw [List.getElem?_set_self (List.getElem?_eq_some_iff.1 ht).1] at x
     cases x;exact hw
    ·rename_i q
     rw [List.getElem?_set_ne (fun e=>q e.symm)] at x
     exact m i v x
theorem Sat.focus {Z V:PH}{H:Hp}{l:List It}{s:Sh α}{v:Value}{xs:List α}(n:Nat)(ht:l[n]? =some (It.sl s v xs))(h:Sat Z V H l){j:Int}{u:α}(hj:ix xs j=some u){sz:Nat}(hz:s.sz=sz){p:Value}(hp:vidxs sz v (vi j)=some p):
 ∃cs,cs.length=sz∧(∀agg,vload H sz agg p=mkv agg cs)∧Sat Z V H (s.it cs u::l.set n (It.hole s v xs j.toNat cs)):=by
 subst hz
 obtain⟨h1,h2,h3⟩:=dL hj
 have hlt:j.toNat<xs.length:=by omega
 rcases h.curS n ht with⟨rfl,rfl⟩|⟨b,o,us,x,rfl,h4,h5,h6,h7,-⟩
 ·simp at h2;omega
 have hb:=(an.1 h4).1
 refine⟨chk us o s.sz j.toNat,fB hlt h7.1,fun agg=>?_,?_⟩
 ·rw [cz,if_pos ⟨h1,h2⟩] at hp
  cases hp
  simp only [vload,Option.isNone_none,if_true,Hp.load,show Hp.cells H b=some us by rw [bC hb];exact h5]
  rw [if_pos (cJ hlt h7.1)];rfl
 ·refine h.part n ht fun F k hF hk q=>?_
  rcases q with⟨q,-⟩|⟨b',o',us',hs',q1,q2,q3,q4,q5,q6,q7⟩
  ·cases q
  ·simp only [Value.slice.injEq,Option.some.injEq,Addr.mk.injEq,and_true] at q1
   obtain⟨⟨rfl,rfl⟩,-,-⟩:=q1
   have hus:us'=us:=by
    have:=bQ hk q2
    rw [hb] at this;cases this
    simp at h5;exact h5
   subst hus
   let hr:PH:=fun c=>match hs' j.toNat c with|some _=>none|none=>k c
   have hrk:hr.le k:=fun c z e=>by
    simp only [hr] at e;split at e
    ·cases e
    ·exact e
   refine⟨hs' j.toNat,hr,q4 _,hrk,fun c z w e1 e2=>?_,q7 _ u h3,b,o,us',fun i=>if i=j.toNat then .emp else hs' i,rfl,?_,q3,fun i=>?_,fun i=>?_,fun i i' e=>?_,rfl,fun i y hi hy=>?_⟩
   ·simp only [hr] at e2;rw [e1] at e2;cases e2
   ·simp only [hr,q5];exact q2
   ·dsimp only;split
    ·exact PH.emp_le _
    ·rename_i hi
     intro c z e
     simp only [hr]
     split
     ·rename_i w hw;exact absurd (q6 i _ hi _ _ _ e hw) id
     ·exact q4 i _ _ e
   ·dsimp only;split
    ·rfl
    ·exact q5 i
   ·dsimp only;split
    ·exact PH.emp_dis _
    ·split
     ·exact PH.dis_emp _
     ·exact q6 i i' e
   ·dsimp only;rw [if_neg hi];exact q7 i y hy
theorem Sat.glue {Z V:PH}{H:Hp}{l:List It}(n:Nat){t u w:It}(ht:l[n]? =some t)(q:∀F h1 h2 h:PH,Z.le F→h1.le h→h2.le h→h1.dis h2→u.P F h1→t.P F h2→w.P F h)(h:Sat Z V H (u::l)):Sat Z V H (l.set n w):=by
 have h1:Sat Z V H ((u.sep t)::l.eraseIdx n):=by
  have:=h.sel (l':=u::t::l.eraseIdx n) (fun i=>if i=0 then 0 else if i=1 then n+1 else if i-2<n then i-1 else i) (fun i j e=>by(repeat' split at e)<;>omega) (fun i x e=>by
   match i with
   | 0=>simpa using e
   | 1=>simp at e;subst e;simpa using ht
   | i+2=>
     simp only [List.getElem?_cons_succ] at e
     rw [List.getElem?_eraseIdx] at e
     rw [if_neg (by omega),if_neg (by omega)]
     split at e
     ·rw [if_pos (by omega)];simpa using e
     ·rw [if_neg (by omega)];simpa using e)
  exact this.join
 have h2:=h1.conv 0 (t:=u.sep t) (u:=w) rfl fun F k hF ⟨k1,k2,a,b,c,d,e⟩=>q F k1 k2 k hF a b c d e
 have hnl:=(List.getElem?_eq_some_iff.1 ht).1
 refine h2.sel (fun i=>if i=n then 0 else if i<n then i+1 else i) (fun i j e=>by(repeat' split at e)<;>omega) (fun i x e=>?_)
 by_cases hi:i=n
 ·subst hi
  rw [List.getElem?_set_self hnl] at e;cases e
  simp
 ·rw [List.getElem?_set_ne (fun q=>hi q.symm)] at e
  rw [if_neg hi]
  split
  ·simp only [List.set_cons_zero,List.getElem?_cons_succ,List.getElem?_eraseIdx]
   rw [if_pos (by assumption)];exact e
  ·cases i with
   | zero=>omega
   | succ i=>
     simp only [List.set_cons_zero,List.getElem?_cons_succ,List.getElem?_eraseIdx]
     rw [if_neg (by omega)];exact e
theorem Sat.unfocus {Z V:PH}{H:Hp}{l:List It}{s:Sh α}{v:Value}{xs:List α}{j:Int}{cs:List Value}{u:α}(n:Nat)(ht:l[n]? =some (It.hole s v xs j.toNat cs))(h:Sat Z V H (s.it cs u::l)):
 Sat Z V H (l.set n (It.sl s v (Pu.st xs j u))):=by
 refine h.glue n ht fun F h1 h2 k hF a b d hu ⟨b',o,us,hs,q1,q2,q3,q4,q5,q6,q7,q8⟩=>?_
 have hb1:h1 b'=none:=by
  cases e:h1 b' with
  | none=>rfl
  | some z=>exact absurd (d _ _ _ e q2) id
 have hll:(Pu.st xs j u).length=xs.length:=by simp [Pu.st]
 refine .inr ⟨b',o,us,fun i=>if i=j.toNat then h1 else hs i,by rw [hll];exact q1,b _ _ q2,by rw [hll];exact q3,fun i=>?_,fun i=>?_,fun i i' e=>?_,fun i y hy=>?_⟩
 ·dsimp only;split
  ·exact a
  ·exact(q4 i).trans b
 ·dsimp only;split
  ·exact hb1
  ·exact q5 i
 ·dsimp only;split
  ·split
   ·omega
   ·exact d.le (PH.le.refl _) (q4 _)
  ·split
   ·exact(d.le (PH.le.refl _) (q4 _)).symm
   ·exact q6 i i' e
 ·dsimp only
  by_cases hi:i=j.toNat
  ·subst hi
   have hi:j.toNat<xs.length:=by have:=(List.getElem?_eq_some_iff.1 hy).1;rwa [hll] at this
   rw [Pu.st,List.getElem?_set_self hi] at hy
   cases hy
   rw [if_pos rfl,q7];exact hu
  ·rw [Pu.st,List.getElem?_set_ne (fun q=>hi q.symm)] at hy
   rw [if_neg hi]
   exact q8 i y hi hy
theorem Sat.hset {Z V:PH}{H:Hp}{l:List It}{s:Sh α}{v:Value}{xs:List α}{j:Int}{cs:List Value}(n:Nat)(ht:l[n]? =some (It.hole s v xs j.toNat cs))(h:Sat Z V H l){sz:Nat}(hz:s.sz=sz)
 (hj0:0≤j) (hj1:j<xs.length) {p:Value} (hp:vidxs sz v (vi j)=some p) {w:Value} {ds:List Value} (hc:w.cells.toList=ds) (hd:ds.length=sz) (h1:ds.all Value.oneCell'=true):
 ∃H1,hstore sz p w H=some H1∧Sat Z V H1 (l.set n (It.hole s v xs j.toNat ds)):=by
 subst hz
 have hlt:j.toNat<xs.length:=by omega
 obtain⟨b,o,us,hv,hb,h7⟩:∃(b o:Nat) (us:List Value),v= .slice (some ⟨b,o,none⟩) xs.length xs.length∧H[b]? =some (.rw s.sz us)∧Fits o xs.length s.sz us.length:=by
  obtain⟨-,-,N,hs,c,d,e,f,g,k,m⟩:=h
  obtain⟨b,o,us,hs',q1,q2,q3,-⟩:=m n _ ht
  exact⟨b,o,us,q1,bQ (e n) q2,q3⟩
 subst hv
 have hbd:=h7.2
 have h7:=h7.1
 have hx:w.cells.size=s.sz:=by rw [←hd,←hc];simp
 have hat:=cJ hlt h7
 refine⟨H.set b (.rw s.sz (splice us (o+j.toNat*s.sz) ds)),?_,?_⟩
 ·rw [cz,if_pos ⟨hj0,hj1⟩] at hp
  cases hp
  simp only [hstore,hb,hc]
  rw [if_pos ⟨hx,h1,hat⟩]
 ·refine h.wr n ht (by simp) (bo hb) fun F k hF hk ⟨b',o',us',hs',q1,q2,q3,q4,q5,q6,q7,q8⟩=>?_
  simp only [Value.slice.injEq,Option.some.injEq,Addr.mk.injEq,and_true] at q1
  obtain⟨⟨rfl,rfl⟩,-,-⟩:=q1
  have hus:us'=us:=by
   have:=bQ hk q2
   rw [hb] at this;cases this;rfl
  subst hus
  refine⟨⟨_,q2⟩,b,o,splice us' (o+j.toNat*s.sz) ds,hs',rfl,PH.upd_same ..,⟨by rw [cm _ _ _ (by omega)];exact h7,hbd⟩,fun i c z e=>?_,q5,q6,?_,fun i y hi hy=>?_⟩
  ·have:c≠b:=fun e'=>by subst e';rw [q5 i] at e;cases e
   rw [PH.upd_ne _ _ this];exact q4 i _ _ e
  ·rw [ec hlt hlt h7 hd,if_pos rfl]
  ·rw [ec hlt (List.getElem?_eq_some_iff.1 hy).1 h7 hd,if_neg hi]
   exact q8 i y hi hy
theorem it_sl {Z V:PH}{H:Hp}{l:List It}{s:Sh α}{w:Value}{xs:List α}(h:Sat Z V H (s.sl.it [w] xs::l)):Sat Z V H (It.sl s w xs::l):=
 h.conv 0 (t:=s.sl.it [w] xs) (u:=It.sl s w xs) rfl fun F k _ ⟨v,e,q⟩=>by cases e;exact q
theorem sl_it {Z V:PH}{H:Hp}{l:List It}{s:Sh α}{w:Value}{xs:List α}(h:Sat Z V H (It.sl s w xs::l)):Sat Z V H (s.sl.it [w] xs::l):=
 h.conv 0 (t:=It.sl s w xs) (u:=s.sl.it [w] xs) rfl fun F k _ q=>⟨w,rfl,q⟩
end
end Go.Ab
namespace Go.Ab
open Go Go.Pu
def ub (tm:Tm)(t:Nat)(v:Value):Tm:=fun u=>bif Nat.beq u t then v else tm u
theorem db (tm:Tm)(t:Nat)(v:Value):upd tm t v=ub tm t v:=by
 funext u
 unfold upd ub
 by_cases h:u=t
 ·subst h;simp
 ·have:Nat.beq u t=false:=by
   rw [←Bool.not_eq_true];intro e;exact h (Nat.eq_of_beq_eq_true e)
  simp [h,this]
variable {T : FuncId → Option AFunc} {Q : AX → Tm → Hp → Prop} {K : List Fk} {tm : Tm} {H : Hp} {l : List DOp} {sl : List Nat} {t : Nat}
theorem af {r:List DOp}{b:ACode}(k:R T Q (.ops r:: .code b::K) .normal tm H):R T Q (.code (.seq (.region r) b)::K) .normal tm H:=.seq (.region k)
theorem bq {r:List DOp}(k:R T Q (.ops r::K) .normal tm H):R T Q (.code (.region r)::K) .normal tm H:=.region k
theorem ah {a b:ACode}(k:R T Q (.code a:: .code b::K) .normal tm H):R T Q (.code (.seq a b)::K) .normal tm H:=.seq k
theorem ay {i:Nat}{c:ACode}(k:R T Q (.code c:: .endb i::K) .normal tm H):R T Q (.code (.block i c)::K) .normal tm H:=.block k
theorem ar (k:R T Q K .normal tm H):R T Q (.code .skip::K) .normal tm H:=.skip k
theorem ae (k:R T Q K .normal tm H):R T Q (.ops []::K) .normal tm H:=.nil k
theorem aF {i:Nat}(k:R T Q K .normal tm H):R T Q (.endb i::K) .normal tm H:=.endn k
theorem gY (k:Q .ret tm H):∀K:List Fk,R T Q K .ret tm H
 | []=>.done k
 | .endb i::K=>.far (by simp) (by simp) (gY k K)
 | .code c::K=>.past (by simp) (by simp) (gY k K)
 | .ops c::K=>.past (by simp) (by simp) (gY k K)
 | .dops .. ::K=>.past (by simp) (by simp) (gY k K)
theorem aL (k:Q .ret tm H):R T Q (.code .ret::K) .normal tm H:=.ret (gY k K)
theorem dk (k:Q .normal tm H):R T Q [] .normal tm H:=.done k
theorem aR {i:Nat}(k:R T Q K (.exit i) tm H):R T Q (.code (.exit i)::K) .normal tm H:=.exit k
theorem aU {i:Nat}{c:ACode}(k:R T Q K (.exit i) tm H):R T Q (.code c::K) (.exit i) tm H:=.past (by simp) (by simp) k
theorem bT {i:Nat}(k:R T Q K .normal tm H):R T Q (.endb i::K) (.exit i) tm H:=.here k
theorem kq {i j:Nat}(h:Nat.beq i j=false)(k:R T Q K (.exit i) tm H):R T Q (.endb j::K) (.exit i) tm H:=
 .far (by simp) (by simp;intro e;subst e;simp at h) k
theorem bx {c:Operand}{a b:ACode}{x:Bool}(hc:ev tm c= .bool x)(h1:x=true→R T Q (.code a::K) .normal tm H)(h2:x=false→R T Q (.code b::K) .normal tm H):R T Q (.code (.cond c a b)::K) .normal tm H:=by
 refine .cond x hc ?_
 cases x
 ·exact h2 rfl
 ·exact h1 rfl
theorem aI {c:Operand}{a b:ACode}{p:Prop} [Decidable p](hc:ev tm c= .bool (decide p))(h1:p→R T Q (.code a::K) .normal tm H)(h2:¬p→R T Q (.code b::K) .normal tm H):R T Q (.code (.cond c a b)::K) .normal tm H:=
 bx hc (fun h=>h1 (of_decide_eq_true h)) (fun h=>h2 (of_decide_eq_false h))
theorem ap {P:Tm→Prop}(hp:P tm)(k:∀tm',P tm'→R T Q K .normal tm' H):R T Q K .normal tm H:=k tm hp
theorem bB {f:FuncId}{F:AFunc}(hf:Has T f F){args:List Value}{P:Value→Hp→Prop}
 (h:R T (fun x tm H'=>(x= .normal∨x= .ret)∧∃r,aresults F.results tm H'=some r∧P r H') [.code F.body] .normal (initTm args) H):G T f args H P:=G.mk h
theorem ar1 {t:Nat}{v:Value}(h:tm t=v):aresults [.tmp t] tm H=some v:=by subst h;rfl
theorem ar2 {t u:Nat}{v w:Value}(h:tm t=v)(h':tm u=w):aresults [.tmp t,.tmp u] tm H=some (.tuple #[v,w]):=by subst h;subst h';rfl
theorem m0:([]:List Operand).map (ev tm)= []:=rfl
theorem mc {x:Operand}{v:Value}{xs:List Operand}{vs:List Value}(h:ev tm x=v)(k:xs.map (ev tm)=vs):(x::xs).map (ev tm)=v::vs:=by simp [h,k]
theorem bW {o:AOp}(hc:calls o=false){v:Value}{H1:Hp}(h:aop o tm H=some (v,H1))(k:R T Q (.ops l::K) .normal (ub tm t v) H1):R T Q (.ops (⟨some t,o,none,sl⟩::l)::K) .normal tm H:=by
 rw [kn hc,h,gB,cu,db];exact k
theorem gy {o:AOp}(hc:calls o=false){v:Value}{H1:Hp}(h:aop o tm H=some (v,H1))(k:R T Q (.ops l::K) .normal tm H1):R T Q (.ops (⟨none,o,none,sl⟩::l)::K) .normal tm H:=by
 rw [kn hc,h,gB,ir];exact k
theorem aa {x:Operand}{v:Value}(hx:ev tm x=v)(k:R T Q (.ops l::K) .normal (ub tm t v) H):R T Q (.ops (⟨some t,.mv x,none,sl⟩::l)::K) .normal tm H:=bW rfl (by simp [aop,hx]) k
theorem dg {o:BinOp}{x y:Operand}{a b v:Value}(h:vbin o a b=some v)(hx:ev tm x=a)(hy:ev tm y=b)(k:R T Q (.ops l::K) .normal (ub tm t v) H):R T Q (.ops (⟨some t,.bin o x y,none,sl⟩::l)::K) .normal tm H:=
 bW rfl (by rw [jY,hx,hy,h];rfl) k
section
variable {x y : Operand} {kd : IntKind} {a b : Int}
theorem az (hx:ev tm x= .int kd a)(hy:ev tm y= .int kd b)(k:R T Q (.ops l::K) .normal (ub tm t (.int kd (kd.wrap (a+b)))) H):R T Q (.ops (⟨some t,.bin .add x y,none,sl⟩::l)::K) .normal tm H:=dg (by simp [vbin,ibin]) hx hy k
theorem bz (hx:ev tm x= .int kd a)(hy:ev tm y= .int kd b)(k:R T Q (.ops l::K) .normal (ub tm t (.int kd (kd.wrap (a-b)))) H):R T Q (.ops (⟨some t,.bin .sub x y,none,sl⟩::l)::K) .normal tm H:=dg (by simp [vbin,ibin]) hx hy k
theorem dO (hx:ev tm x= .int kd a)(hy:ev tm y= .int kd b)(k:R T Q (.ops l::K) .normal (ub tm t (.int kd (kd.wrap (a*b)))) H):R T Q (.ops (⟨some t,.bin .mul x y,none,sl⟩::l)::K) .normal tm H:=dg (by simp [vbin,ibin]) hx hy k
theorem jc (hx:ev tm x= .int kd a)(hy:ev tm y= .int kd b)(k:R T Q (.ops l::K) .normal (ub tm t (.int kd (band kd a b))) H):R T Q (.ops (⟨some t,.bin .and x y,none,sl⟩::l)::K) .normal tm H:=dg (by simp [vbin,ibin,band]) hx hy k
theorem ao (hx:ev tm x= .int kd a)(hy:ev tm y= .int kd b)(k:R T Q (.ops l::K) .normal (ub tm t (.bool (decide (a<b)))) H):R T Q (.ops (⟨some t,.bin .lss x y,none,sl⟩::l)::K) .normal tm H:=dg (by simp [vbin,ibin]) hx hy k
theorem ki (hx:ev tm x= .int kd a)(hy:ev tm y= .int kd b)(k:R T Q (.ops l::K) .normal (ub tm t (.bool (decide (a≤b)))) H):R T Q (.ops (⟨some t,.bin .leq x y,none,sl⟩::l)::K) .normal tm H:=dg (by simp [vbin,ibin]) hx hy k
theorem cC (hx:ev tm x= .int kd a)(hy:ev tm y= .int kd b)(k:R T Q (.ops l::K) .normal (ub tm t (.bool (decide (b<a)))) H):R T Q (.ops (⟨some t,.bin .gtr x y,none,sl⟩::l)::K) .normal tm H:=dg (by simp [vbin,ibin]) hx hy k
theorem cd (hx:ev tm x= .int kd a)(hy:ev tm y= .int kd b)(k:R T Q (.ops l::K) .normal (ub tm t (.bool (decide (b≤a)))) H):R T Q (.ops (⟨some t,.bin .geq x y,none,sl⟩::l)::K) .normal tm H:=dg (by simp [vbin,ibin]) hx hy k
theorem co (hx:ev tm x= .int kd a)(hy:ev tm y= .int kd b)(k:R T Q (.ops l::K) .normal (ub tm t (.bool (decide (a=b)))) H):R T Q (.ops (⟨some t,.bin .eql x y,none,sl⟩::l)::K) .normal tm H:=by
 refine dg (v:=.bool (decide (a=b))) ?_ hx hy k
 simp only [vbin,ibin,if_true];rfl
theorem cQ (hx:ev tm x= .int kd a)(hy:ev tm y= .int kd b)(k:R T Q (.ops l::K) .normal (ub tm t (.bool (decide (a≠b)))) H):R T Q (.ops (⟨some t,.bin .neq x y,none,sl⟩::l)::K) .normal tm H:=by
 refine dg (v:=.bool (decide (a≠b))) ?_ hx hy k
 simp only [vbin,ibin,if_true]
 congr 2
 by_cases h:a=b<;>simp [h,bne]
theorem fU {c:Int}(hx:ev tm x= .int kd a)(hy:ev tm y= .int kd b)(hc:Pu.quo kd a b=some c)(k:R T Q (.ops l::K) .normal (ub tm t (.int kd c)) H):R T Q (.ops (⟨some t,.bin .quo x y,none,sl⟩::l)::K) .normal tm H:=by
 refine dg ?_ hx hy k
 unfold Pu.quo at hc
 simp only [vbin,ibin,if_true]
 split at hc
 ·cases hc
 ·cases hc;rw [if_neg (by assumption)]
theorem o_rem {c:Int}(hx:ev tm x= .int kd a)(hy:ev tm y= .int kd b)(hc:Pu.rem a b=some c)(k:R T Q (.ops l::K) .normal (ub tm t (.int kd c)) H):R T Q (.ops (⟨some t,.bin .rem x y,none,sl⟩::l)::K) .normal tm H:=by
 refine dg ?_ hx hy k
 unfold Pu.rem at hc
 simp only [vbin,ibin,if_true]
 split at hc
 ·cases hc
 ·cases hc;rw [if_neg (by assumption)]
theorem o_shl {c:Int}{kd':IntKind}(hx:ev tm x= .int kd a)(hy:ev tm y= .int kd' b)(hc:Pu.shl kd a b=some c)(k:R T Q (.ops l::K) .normal (ub tm t (.int kd c)) H):R T Q (.ops (⟨some t,.bin .shl x y,none,sl⟩::l)::K) .normal tm H:=by
 refine dg ?_ hx hy k
 unfold Pu.shl at hc
 simp only [vbin,ibin]
 split at hc
 ·cases hc
 ·cases hc;rw [if_neg (by assumption)]
theorem fo {c:Int}{kd':IntKind}(hx:ev tm x= .int kd a)(hy:ev tm y= .int kd' b)(hc:Pu.shr kd a b=some c)(k:R T Q (.ops l::K) .normal (ub tm t (.int kd c)) H):R T Q (.ops (⟨some t,.bin .shr x y,none,sl⟩::l)::K) .normal tm H:=by
 refine dg ?_ hx hy k
 unfold Pu.shr at hc
 simp only [vbin,ibin]
 split at hc
 ·cases hc
 ·cases hc;rw [if_neg (by assumption)]
theorem cy {p:Bool}(hx:ev tm x= .bool p)(k:R T Q (.ops l::K) .normal (ub tm t (.bool !p)) H):R T Q (.ops (⟨some t,.un .not x,none,sl⟩::l)::K) .normal tm H:=bW rfl (by simp [aop,hx]) k
theorem dw {kd':IntKind}(hx:ev tm x= .int kd a)(k:R T Q (.ops l::K) .normal (ub tm t (.int kd' (kd'.wrap a))) H):R T Q (.ops (⟨some t,.conv kd' x,none,sl⟩::l)::K) .normal tm H:=bW rfl (by simp [aop,hx]) k
end
theorem kr {n:Bool}{e:EqK}{x y:Operand}{a b:Value}{p:Bool}(h:veq n e a b=some (.bool p))(hx:ev tm x=a)(hy:ev tm y=b)(k:R T Q (.ops l::K) .normal (ub tm t (.bool p)) H):R T Q (.ops (⟨some t,.eq n e x y,none,sl⟩::l)::K) .normal tm H:=
 bW rfl (by rw [km,hx,hy,h];rfl) k
theorem q_nbool (a b:Bool):veq true .bool (.bool a) (.bool b)=some (.bool (!(a==b))):=rfl
theorem aY {c x y:Operand}{p:Bool}{a:Value}(hc:ev tm c= .bool p)(hp:p=true)(hx:ev tm x=a)(k:R T Q (.ops l::K) .normal (ub tm t a) H):R T Q (.ops (⟨some t,.pick c x y,none,sl⟩::l)::K) .normal tm H:=bW rfl (by simp [aop,hc,hx,hp]) k
theorem aX {c x y:Operand}{p:Bool}{b:Value}(hc:ev tm c= .bool p)(hp:p=false)(hy:ev tm y=b)(k:R T Q (.ops l::K) .normal (ub tm t b) H):R T Q (.ops (⟨some t,.pick c x y,none,sl⟩::l)::K) .normal tm H:=bW rfl (by simp [aop,hc,hy,hp]) k
theorem bH {x:Operand}{vs:Array Value}{i:Nat}{v:Value}(hx:ev tm x= .tuple vs)(h:vs[i]? =some v)(k:R T Q (.ops l::K) .normal (ub tm t v) H):R T Q (.ops (⟨some t,.extract x i,none,sl⟩::l)::K) .normal tm H:=bW rfl (by simp [aop,hx,h]) k
theorem bR {z:List Value}{ps:List (Nat×Nat×Operand)}{qs:List (Nat×Nat×Value)}{v:Value}(hx:(ps.map fun p=>(p.1,p.2.1,ev tm p.2.2))=qs)(h:vbuild z qs=some v)(k:R T Q (.ops l::K) .normal (ub tm t v) H):R T Q (.ops (⟨some t,.build z ps,none,sl⟩::l)::K) .normal tm H:=
 bW rfl (by rw [iF,hx,h];rfl) k
theorem o_mkfn {f:Fn}{xs:List Operand}{vs:List Value}(hx:xs.map (ev tm)=vs)(k:R T Q (.ops l::K) .normal (ub tm t (.func f #[] vs.toArray)) H):R T Q (.ops (⟨some t,.mkfn f xs,none,sl⟩::l)::K) .normal tm H:=bW rfl (by simp [aop,hx]) k
theorem bS {x:Operand}{a:Addr}(hx:ev tm x= .pointer (some a))(k:R T Q (.ops l::K) .normal (ub tm t (.pointer (some a))) H):R T Q (.ops (⟨some t,.nilchk x,none,sl⟩::l)::K) .normal tm H:=bW rfl (by simp [aop,hx]) k
theorem am {x:Operand}{b o n:Nat}(hx:ev tm x= .pointer (some ⟨b,o,none⟩))(k:R T Q (.ops l::K) .normal (ub tm t (.pointer (some ⟨b,o+n,none⟩))) H):R T Q (.ops (⟨some t,.faddr n x,none,sl⟩::l)::K) .normal tm H:=bW rfl (by simp [aop,hx]) k
theorem aD {x:Operand}{v:Value}{n:Int}(hx:ev tm x=v)(h:vlen v=some (vi n))(k:R T Q (.ops l::K) .normal (ub tm t (vi n)) H):R T Q (.ops (⟨some t,.len x,none,sl⟩::l)::K) .normal tm H:=
 bW rfl (by rw [jZ,hx,h];rfl) k
section
variable {α : Type} {s : Sh α} {Z : PH} {v : Value} {xs : List α}
theorem aJ {x y:Operand}{j:Int}{u:α}{sz:Nat}(hx:ev tm x=v)(hy:ev tm y=vi j)(hr:RdS s Z v xs)(hz:s.sz=sz)(hj:ix xs j=some u)(k:∀p,vidxs sz v (vi j)=some p→R T Q (.ops l::K) .normal (ub tm t p) H):
 R T Q (.ops (⟨some t,.idxs sz x y,none,sl⟩::l)::K) .normal tm H:=by
 obtain⟨p,hp⟩:=hr.idx hj hz
 exact bW rfl (by rw [iy,hx,hy,hp];rfl) (k p hp)
theorem kt {x:Operand}{j:Int}{u:α}{sz:Nat}{p:Value}{g:Bool}(hx:ev tm x=p)(hr:RdS s Z v xs)(hZ:Z.le (Hp.ph H))(hz:s.sz=sz)(hp:vidxs sz v (vi j)=some p)(hj:ix xs j=some u)
 (k:∀cs,s.rd Z cs u→cs.length=sz→∃w,mkv g cs=some w∧R T Q (.ops l::K) .normal (ub tm t w) H):R T Q (.ops (⟨some t,.load sz g x,none,sl⟩::l)::K) .normal tm H:=by
 obtain⟨cs,h1,h2,h3⟩:=hr.at' hZ hj hz hp
 obtain⟨w,h4,h5⟩:=k cs h1 h2
 exact bW rfl (by rw [cE,hx,h3,h4];rfl) h5
theorem jP {x:Operand}{j:Int}{u:α}{p:Value}(hx:ev tm x=p)(hr:RdS s Z v xs)(hZ:Z.le (Hp.ph H))(hz:s.sz=1)(hp:vidxs 1 v (vi j)=some p)(hj:ix xs j=some u)
 (k:∀w,s.rd Z [w] u→R T Q (.ops l::K) .normal (ub tm t w) H):R T Q (.ops (⟨some t,.load 1 false x,none,sl⟩::l)::K) .normal tm H:=
 kt hx hr hZ hz hp hj fun cs h hl=>by
  obtain⟨w,rfl⟩:∃w,cs= [w]:=List.length_eq_one_iff.1 hl
  exact⟨w,rfl,k w h⟩
theorem cj {kd:IntKind}{x:Operand}{j u:Int}{p:Value}{xs:List Int}(hx:ev tm x=p)(hr:RdS (Sh.ik kd) Z v xs)(hZ:Z.le (Hp.ph H))(hp:vidxs 1 v (vi j)=some p)(hj:ix xs j=some u)
 (k:R T Q (.ops l::K) .normal (ub tm t (.int kd u)) H):R T Q (.ops (⟨some t,.load 1 false x,none,sl⟩::l)::K) .normal tm H:=jP hx hr hZ rfl hp hj fun w h=>by cases h;exact k
theorem gx {x:Operand}{j:Int}{u:Bool}{p:Value}{xs:List Bool}(hx:ev tm x=p)(hr:RdS Sh.bool Z v xs)(hZ:Z.le (Hp.ph H))(hp:vidxs 1 v (vi j)=some p)(hj:ix xs j=some u)
 (k:R T Q (.ops l::K) .normal (ub tm t (.bool u)) H):R T Q (.ops (⟨some t,.load 1 false x,none,sl⟩::l)::K) .normal tm H:=jP hx hr hZ rfl hp hj fun w h=>by cases h;exact k
theorem dh {x:Operand}{j:Int}{u:List α}{p:Value}{xs:List (List α)}(hx:ev tm x=p)(hr:RdS s.sl Z v xs)(hZ:Z.le (Hp.ph H))(hp:vidxs 1 v (vi j)=some p)(hj:ix xs j=some u)
 (k:∀w,RdS s Z w u→R T Q (.ops l::K) .normal (ub tm t w) H):R T Q (.ops (⟨some t,.load 1 false x,none,sl⟩::l)::K) .normal tm H:=jP hx hr hZ rfl hp hj fun w h=>by obtain⟨w',e,h⟩:=h;cases e;exact k w h
theorem cO {x:Operand}{j:Int}{u:α}{sz:Nat}{p:Value}(hx:ev tm x=p)(hr:RdS s Z v xs)(hZ:Z.le (Hp.ph H))(hz:s.sz=sz)(hp:vidxs sz v (vi j)=some p)(hj:ix xs j=some u)
 (k:∀cs,s.rd Z cs u→R T Q (.ops l::K) .normal (ub tm t (.agg cs.toArray)) H):R T Q (.ops (⟨some t,.load sz true x,none,sl⟩::l)::K) .normal tm H:=kt hx hr hZ hz hp hj fun cs h _=>⟨_,rfl,k cs h⟩
theorem jS {x y:Operand}{sz:Nat}{lo:Int}{ys:List α}(hx:ev tm x=v)(hy:ev tm y=vi lo)(hr:RdS s Z v xs)(hZ:Z.le (Hp.ph H))(hz:s.sz=sz)(hs:sub xs lo xs.length=some ys)
 (k:∀w,RdS s Z w ys→R T Q (.ops l::K) .normal (ub tm t w) H):R T Q (.ops (⟨some t,.slice sz x (some y) none,none,sl⟩::l)::K) .normal tm H:=by
 obtain⟨w,h1,h2⟩:=hr.mid hZ hs hz
 exact bW rfl (by simp only [aop,Option.map_some,Option.map_none,hx,hy];rw [hr.slice_hi hZ _ hz,h1];rfl) (k w h2)
theorem o_slch {x z:Operand}{sz:Nat}{hi:Int}{ys:List α}(hx:ev tm x=v)(hw:ev tm z=vi hi)(hr:RdS s Z v xs)(hZ:Z.le (Hp.ph H))(hz:s.sz=sz)(hs:sub xs 0 hi=some ys)
 (k:∀w,RdS s Z w ys→R T Q (.ops l::K) .normal (ub tm t w) H):R T Q (.ops (⟨some t,.slice sz x none (some z),none,sl⟩::l)::K) .normal tm H:=by
 obtain⟨w,h1,h2⟩:=hr.mid hZ hs hz
 exact bW rfl (by simp only [aop,Option.map_some,Option.map_none,hx,hw];rw [hr.slice_lo hZ _ hz,h1];rfl) (k w h2)
end
section
variable {α : Type} {s : Sh α} {Z V : PH} {v : Value} {xs : List α} {L : List It}
theorem jq {x y:Operand}{sz:Nat}{j:Int}{u0 u:α}{p w:Value}{cs:List Value}(n:Nat)(hS:Sat Z V H L)(ht:L[n]? =some (It.sl s v xs))(hl:s.Lt)(hz:s.sz=sz)(hx:ev tm x=p)(hy:ev tm y=w)(hp:vidxs sz v (vi j)=some p)(hj:ix xs j=some u0)
 (hc:w.cells.toList=cs) (hr:s.rd Z cs u) (k:∀H1,Sat Z V H1 (L.set n (It.sl s v (Pu.st xs j u)))→R T Q (.ops l::K) .normal tm H1):R T Q (.ops (⟨none,.store sz x y,none,sl⟩::l)::K) .normal tm H:=by
 obtain⟨H1,h1,h2⟩:=hS.set n ht hl hz hj hp hc hr
 exact gy rfl (by rw [cS,hx,hy,h1];rfl) (k H1 h2)
theorem cn {x y:Operand}{sz bytes:Nat}{q:Value}{ys zs:List α}{s':Sh α}{W:PH}(n:Nat)(hS:Sat Z V H L)(ht:L[n]? =some (It.sl s v xs))(hl:s.Lt)(hz:s.sz=sz)(hz':s'.sz=sz)(hx:ev tm x=v)(hy:ev tm y=q)
 (hq:RdS s' W q ys) (hW:W.le (Hp.ph H)) (hf:∀{cs:List Value} {x:α},s'.rd W cs x→s.rd Z cs x) (hby:0<bytes) (ha:Pu.app bytes xs ys=some zs)
 (k:∀w H1,Sat Z V H1 (L.set n (It.sl s w zs))→R T Q (.ops l::K) .normal (ub tm t w) H1):R T Q (.ops (⟨some t,.append sz bytes x y,none,sl⟩::l)::K) .normal tm H:=by
 obtain⟨w,H1,h1,h2⟩:=hS.app n ht hl hz hz' hq hW hf hby ha
 exact bW rfl (by rw [dG,hx,hy,h1]) (k w H1 h2)
theorem io {x y:Operand}{sz bytes:Nat}{z:List Value}{n c:Int}{e:α}(hS:Sat Z V H L)(hl:s.Lt)(hz:s.sz=sz)(hx:ev tm x=vi n)(hy:ev tm y=vi c)(he:s.rd Z z e)(hm:Pu.mk bytes n c e=some xs)
 (k:∀w H1,Sat Z V H1 (It.sl s w xs::L)→R T Q (.ops l::K) .normal (ub tm t w) H1):R T Q (.ops (⟨some t,.mkslice sz bytes z x y,none,sl⟩::l)::K) .normal tm H:=by
 obtain⟨w,b,h1,h2,h3⟩:=hS.mks hl hz he hm
 exact bW rfl (by rw [gc,hx,hy,h1];rfl) (k _ _ (h3 _ _ (hS.new' h2)))
theorem bP {sz n:Nat}{z us:List Value}{ps:List (Nat×Nat×Operand)}{qs:List (Nat×Nat×Value)}(hS:Sat Z V H L)(hl:s.Lt)(hz:s.sz=sz)(hx:(ps.map fun p=>(p.1,p.2.1,ev tm p.2.2))=qs)(hb:bfill z qs=some us)(he:Els s Z us xs)(hn:n=xs.length)(hbd:Nat.ble n 281474976710656=true)
 (k:∀w H1,Sat Z V H1 (It.sl s w xs::L)→R T Q (.ops l::K) .normal (ub tm t w) H1):R T Q (.ops (⟨some t,.bslice sz n z ps,none,sl⟩::l)::K) .normal tm H:=
 bW rfl (by rw [fv,hx,hbs,hb];rfl) (k _ _ ((hS.new' (by simp)).conv 0 rfl (fa hl he hn (Nat.le_of_ble_eq_true hbd) hz)))
theorem bv {z:List Value}(hS:Sat Z V H L)(k:∀b H1,Sat Z V H1 (pts b (.rw 0 z)::L)→R T Q (.ops l::K) .normal (ub tm t (.pointer (some ⟨b,0,none⟩))) H1):R T Q (.ops (⟨some t,.alloc z,none,sl⟩::l)::K) .normal tm H:=
 bW rfl (by rw [A_alloc];rfl) (k _ _ (hS.new' (by simp)))
theorem cx {x:Operand}{w:Value}{z:List Value}(hS:Sat Z V H L)(hx:ev tm x=w)(hz:w.cells.toList=z)(k:∀b H1,Sat Z V H1 (pts b (.rw 0 z)::L)→R T Q (.ops l::K) .normal (ub tm t (.pointer (some ⟨b,0,none⟩))) H1):R T Q (.ops (⟨some t,.box x,none,sl⟩::l)::K) .normal tm H:=
 bW rfl (by rw [A_box,hx,hz];rfl) (k _ _ (hS.new' (by simp)))
theorem ak {x:Operand}{b o m z:Nat}{g:Bool}{us:List Value}{w:Value}(n:Nat)(hS:Sat Z V H L)(ht:L[n]? =some (pts b (.rw z us)))(hx:ev tm x= .pointer (some ⟨b,o,none⟩))(hm:Nat.ble (o+m) us.length=true)(hw:mkv g ((us.drop o).take m)=some w)
 (k:R T Q (.ops l::K) .normal (ub tm t w) H):R T Q (.ops (⟨some t,.load m g x,none,sl⟩::l)::K) .normal tm H:=by
 have hb:=hS.curB n ht
 refine bW rfl ?_ k
 rw [cE,hx]
 simp only [vload,Option.isNone_none,if_true,Hp.load,show Hp.cells H b=some us by rw [bC hb];rfl]
 rw [if_pos (Nat.le_of_ble_eq_true hm),Option.bind_some,hw];rfl
theorem aP {x y:Operand}{b o m z:Nat}{us us':List Value}{w:Value}(n:Nat)(hS:Sat Z V H L)(ht:L[n]? =some (pts b (.rw z us)))(hx:ev tm x= .pointer (some ⟨b,o,none⟩))(hy:ev tm y=w)(hm:Nat.ble (o+m) us.length=true)(hs:Nat.beq w.cells.size m=true)
 (h1:w.cells.toList.all Value.oneCell'=true) (hu:splice us o w.cells.toList=us') (k:∀H1,Sat Z V H1 (L.set n (pts b (.rw z us')))→R T Q (.ops l::K) .normal tm H1):R T Q (.ops (⟨none,.store m x y,none,sl⟩::l)::K) .normal tm H:=by
 have hb:=hS.curB n ht
 subst hu
 refine gy (H1:=H.set b (.rw z (splice us o w.cells.toList))) (v:=undef) rfl ?_ (k _ (hS.wr n ht (by simp) (bo hb) fun F h _ _ q=>⟨⟨_,q⟩,PH.upd_same ..⟩))
 rw [cS,hx,hy]
 simp only [hstore,hb]
 rw [if_pos ⟨Nat.eq_of_beq_eq_true hs,h1,Nat.le_of_ble_eq_true hm⟩];rfl
end
theorem aC {dst:Option Nat}{o:AOp}{g:Nat}{b x:Bool}(hg:tm g= .bool x)(hx:x=b)(k:R T Q (.ops (⟨dst,o,none,sl⟩::l)::K) .normal tm H):R T Q (.ops (⟨dst,o,some (g,b),sl⟩::l)::K) .normal tm H:=
 R_want (by simp [want,hg,hx]) k
theorem aE {o:AOp}{g:Nat}{b x:Bool}(hg:tm g= .bool x)(hx:x= !b)(k:R T Q (.ops l::K) .normal (ub tm t undef) H):R T Q (.ops (⟨some t,o,some (g,b),sl⟩::l)::K) .normal tm H:=
 .nop (by rw [want,hg,hx];cases b<;>rfl) (by rw [cu,db];exact k)
theorem au {f:FuncId}{xs:List Operand}{P:Value→Hp→Prop}{args:List Value}(ha:xs.map (ev tm)=args)(hc:G T f args H P)(k:∀v H1,P v H1→R T Q (.ops l::K) .normal (ub tm t v) H1):R T Q (.ops (⟨some t,.call f xs,none,sl⟩::l)::K) .normal tm H:=
 R_call ha hc fun v H1 h=>by rw [cu,db];exact k v H1 h
section
variable {β σ ρ : Type}
theorem ax {p:Prop} [Decidable p]{a b c:β}(h:p)(e:(if p then a else b)=c):a=c:=by rwa [if_pos h] at e
theorem bb {p:Prop} [Decidable p]{a b c:β}(h:¬p)(e:(if p then a else b)=c):b=c:=by rwa [if_neg h] at e
theorem aS {p:Bool}{a b c:β}(h:p=false)(e:(if p=true then a else b)=c):b=c:=by subst h;simpa using e
theorem bD {f:σ→β}{g:ρ→β}{fin:Fin σ ρ}{s:σ}{c:β}(h:fin= .out s)(e:fin.cs f g=c):f s=c:=by subst h;exact e
theorem ci {f:σ→β}{g:ρ→β}{fin:Fin σ ρ}{r:ρ}{c:β}(h:fin= .rt r)(e:fin.cs f g=c):g r=c:=by subst h;exact e
end
theorem be {c:Operand}{a b:ACode}{p:Prop} [Decidable p](hc:ev tm c= .bool (decide p))(hp:p)(k:R T Q (.code a::K) .normal tm H):R T Q (.code (.cond c a b)::K) .normal tm H:=
 aI hc (fun _=>k) fun h=>absurd hp h
theorem bc {c:Operand}{a b:ACode}{p:Prop} [Decidable p](hc:ev tm c= .bool (decide p))(hp:¬p)(k:R T Q (.code b::K) .normal tm H):R T Q (.code (.cond c a b)::K) .normal tm H:=
 aI hc (fun h=>absurd h hp) fun _=>k
theorem bE {i n:Nat}(h:i<n)(hn:n≤281474976710656):IntKind.i64.wrap ((i:Int)+1)=((i+1:Nat):Int):=by rw [V_wrap (by omega) (by omega)];rfl
theorem w_sucI {i:Nat}{n:Int}(h:(i:Int)<n)(hn:n≤4611686018427387904):IntKind.i64.wrap ((i:Int)+1)=((i+1:Nat):Int):=by rw [V_wrap (by omega) (by omega)];rfl
section
variable {α σ ρ : Type} {L : ACode}
theorem aV {xs:List α}{body:Int→α→σ→Option σ}{s1:σ}(I:Nat→σ→Tm→Hp→Prop)
 (step:∀(i:Nat) (x:α) (s s':σ) tm H,xs[i]? =some x→i<xs.length→I i s tm H→body i x s=some s'→(∀tm' H',I (i+1) s' tm' H'→R T Q (.code (.loop L)::K) .normal tm' H')→R T Q (.code L:: .code (.loop L)::K) .normal tm H)
 (done:∀tm H,I xs.length s1 tm H→R T Q (.code L:: .code (.loop L)::K) .normal tm H) {s0:σ} (h:forP body 0 xs s0=some s1) (hI:I 0 s0 tm H):R T Q (.code (.loop L)::K) .normal tm H:=by
 have key:∀(ys:List α) (i:Nat) (s:σ) tm H,xs.drop i=ys→i≤xs.length→forP body i ys s=some s1→I i s tm H→R T Q (.code (.loop L)::K) .normal tm H:=by
  intro ys
  induction ys with
  | nil=>
    intro i s tm H hd hi hf hI
    simp [forP] at hf;subst hf
    have:i=xs.length:=by have:=congrArg List.length hd;simp at this;omega
    subst this
    exact .loop (done tm H hI)
  | cons x ys ih=>
    intro i s tm H hd hi hf hI
    simp only [forP] at hf
    obtain⟨s',h1,h2⟩:=Pu.bind_some hf
    have hx:xs[i]? =some x:=by rw [←List.head?_drop,hd];rfl
    have hlt:=(List.getElem?_eq_some_iff.1 hx).1
    have hd2:xs.drop (i+1)=ys:=by rw [←List.drop_drop,hd];rfl
    exact .loop (step i x s s' tm H hx hlt hI h1 fun tm' H' hI'=>ih (i+1) s' tm' H' hd2 hlt (by simpa using h2) hI')
 exact key xs 0 s0 tm H rfl (Nat.zero_le _) h hI
theorem cY {xs:List α}{body:Int→α→σ→Option (Step σ ρ)}{fin:Fin σ ρ}(I:Nat→σ→Tm→Hp→Prop)
 (step:∀(i:Nat) (x:α) (s:σ) (st:Step σ ρ) tm H,xs[i]? =some x→i<xs.length→I i s tm H→body i x s=some st→(∀s' tm' H',st= .nx s'→I (i+1) s' tm' H'→R T Q (.code (.loop L)::K) .normal tm' H')→
   (∀s',st= .br s'→fin= .out s')→(∀r,st= .rt r→fin= .rt r)→R T Q (.code L:: .code (.loop L)::K) .normal tm H)
 (done:∀s tm H,fin= .out s→I xs.length s tm H→R T Q (.code L:: .code (.loop L)::K) .normal tm H) {s0:σ} (h:forL body 0 xs s0=some fin) (hI:I 0 s0 tm H):R T Q (.code (.loop L)::K) .normal tm H:=by
 have key:∀(ys:List α) (i:Nat) (s:σ) tm H,xs.drop i=ys→i≤xs.length→forL body i ys s=some fin→I i s tm H→R T Q (.code (.loop L)::K) .normal tm H:=by
  intro ys
  induction ys with
  | nil=>
    intro i s tm H hd hi hf hI
    simp [forL] at hf;subst hf
    have:i=xs.length:=by have:=congrArg List.length hd;simp at this;omega
    subst this
    exact .loop (done s tm H rfl hI)
  | cons x ys ih=>
    intro i s tm H hd hi hf hI
    simp only [forL] at hf
    have hx:xs[i]? =some x:=by rw [←List.head?_drop,hd];rfl
    have hlt:=(List.getElem?_eq_some_iff.1 hx).1
    have hd2:xs.drop (i+1)=ys:=by rw [←List.drop_drop,hd];rfl
    cases hb:body i x s with
    | none=>rw [hb] at hf;cases hf
    | some st=>
      rw [hb] at hf
      refine .loop (step i x s st tm H hx hlt hI hb (fun s' tm' H' e hI'=>?_) (fun s' e=>?_) fun r e=>?_)
      ·subst e;exact ih (i+1) s' tm' H' hd2 hlt (by simpa using hf) hI'
      ·subst e;simp at hf;exact hf.symm
      ·subst e;simp at hf;exact hf.symm
 exact key xs 0 s0 tm H rfl (Nat.zero_le _) h hI
theorem cc {body:σ→Option (Step σ ρ)}{fin:Fin σ ρ}(I:σ→Tm→Hp→Prop)
 (step:∀(s:σ) (st:Step σ ρ) tm H,I s tm H→body s=some st→(∀s' tm' H',st= .nx s'→I s' tm' H'→R T Q (.code (.loop L)::K) .normal tm' H')→
   (∀s',st= .br s'→fin= .out s')→(∀r,st= .rt r→fin= .rt r)→R T Q (.code L:: .code (.loop L)::K) .normal tm H)
 {n:Nat} {s0:σ} (h:whl body n s0=some fin) (hI:I s0 tm H):R T Q (.code (.loop L)::K) .normal tm H:=by
 induction n generalizing s0 tm H with
 | zero=>cases h
 | succ n ih=>
   simp only [whl] at h
   cases hb:body s0 with
   | none=>rw [hb] at h;cases h
   | some st=>
     rw [hb] at h
     refine .loop (step s0 st tm H hI hb (fun s' tm' H' e hI'=>?_) (fun s' e=>?_) fun r e=>?_)
     ·subst e;exact ih h hI'
     ·subst e;simp at h;exact h.symm
     ·subst e;simp at h;exact h.symm
theorem gO {n:Int}{i:Nat}{x:Int}(h:(ran n)[i]? =some x):x=i∧(i:Int)<n:=by
 unfold ran at h
 rw [List.getElem?_map] at h
 by_cases hi:i<n.toNat
 ·rw [List.getElem?_range hi] at h;simp at h;exact⟨h.symm,by omega⟩
 ·rw [List.getElem?_eq_none (by simpa using hi)] at h;simp at h
theorem bp {n:Int}{l:List Int}(h:ranO n=some l):l=ran n∧n≤4611686018427387904:=by
 unfold ranO at h
 split at h
 ·cases h;exact⟨rfl,by assumption⟩
 ·cases h
theorem ran_len (n:Int):(ran n).length=n.toNat:=by simp [ran]
end
end Go.Ab
namespace Go.Ab
open Go Go.Pu
section
variable {Z V : PH} {H : Hp} {L : List It}
def nodupB:List Nat→Bool
 | []=>true
 | a::l=>!(l.contains a)&&nodupB l
theorem fS:∀{l:List Nat},nodupB l=true→∀(i j a:Nat),l[i]? =some a→l[j]? =some a→i=j
 | [],_,i,j,a,h,_=>by simp at h
 | b::l,h,i,j,a,hi,hj=>by
   simp only [nodupB,Bool.and_eq_true,Bool.not_eq_true',List.contains_eq_mem,decide_eq_false_iff_not] at h
   cases i with
   | zero=>cases j with
     | zero=>rfl
     | succ j=>simp at hi hj;subst hi;exact absurd (List.mem_of_getElem? hj) h.1
   | succ i=>cases j with
     | zero=>simp at hi hj;subst hj;exact absurd (List.mem_of_getElem? hi) h.1
     | succ j=>simp at hi hj;rw [fS h.2 i j a hi hj]
def pickL (L:List It)(is:List Nat):List It:=is.map fun i=>(L[i]?).getD It.tt
theorem Sat.pick (is:List Nat)(hn:(nodupB is&&is.all fun i=>Nat.blt i L.length)=true)(h:Sat Z V H L):Sat Z V H (pickL L is):=by
 rw [Bool.and_eq_true] at hn
 obtain⟨hn,hb⟩:=hn
 have hlt:∀i,i∈is→i<L.length:=fun i hi=>by
  have:=List.all_eq_true.1 hb i hi
  exact Nat.le_of_ble_eq_true this
 refine h.sel (fun i=>(is[i]?).getD (L.length+i)) (fun i j e=>?_) (fun i t e=>?_)
 ·cases hi:is[i]? with
  | none=>cases hj:is[j]? with
    | none=>rw [hi,hj] at e;simp at e;exact e
    | some b=>rw [hi,hj] at e;simp at e;have:=hlt b (List.mem_of_getElem? hj);omega
  | some a=>cases hj:is[j]? with
    | none=>rw [hi,hj] at e;simp at e;have:=hlt a (List.mem_of_getElem? hi);omega
    | some b=>rw [hi,hj] at e;simp at e;subst e;exact fS hn i j a hi hj
 ·unfold pickL at e
  rw [List.getElem?_map] at e
  cases hi:is[i]? with
  | none=>rw [hi] at e;simp at e
  | some a=>
    rw [hi] at e
    have:=hlt a (List.mem_of_getElem? hi)
    simp [this] at e
    simp [this,e]
section
variable {α : Type} {s : Sh α} {v : Value} {xs : List α}
theorem Sat.elem (n:Nat)(ht:L[n]? =some (It.sl s.ro v xs))(h:Sat Z V H L){sz:Nat}(hz:s.sz=sz){j:Int}{u:α}(hj:ix xs j=some u){p:Value}(hp:vidxs sz v (vi j)=some p):
 ∃Y W cs,Gw Z V Y W∧Sat Y W H L∧s.rd Y cs u∧∀agg,vload H sz agg p=mkv agg cs:=by
 subst hz
 obtain⟨h1,h2,h3⟩:=dL hj
 have hlt:j.toNat<xs.length:=by omega
 obtain⟨Y,W,gw,yw,wh,hs,e,f,k,m⟩:=h.norm'
 rcases m n _ ht with⟨rfl,rfl⟩|⟨b,o,us,hs',rfl,q2,q3,q4,q5,q6,q7⟩
 ·simp at h2;omega
 ·refine⟨Y,W,_,gw,Sat.mk' yw wh e f k m,q7 _ u h3,fun agg=>?_⟩
  rw [cz,if_pos ⟨h1,h2⟩] at hp
  cases hp
  simp only [vload,Option.isNone_none,if_true,Hp.load,show Hp.cells H b=some us by rw [bC (bQ (e n) q2)];rfl]
  have q3':o+j.toNat*s.sz+s.sz≤us.length:=cJ hlt q3.1
  rw [if_pos q3'];rfl
variable {T : FuncId → Option AFunc} {Q : AX → Tm → Hp → Prop} {K : List Fk} {tm : Tm} {l : List DOp} {sl : List Nat} {t : Nat}
theorem kh {x:Operand}{j:Int}{u:α}{sz:Nat}{p:Value}{g:Bool}(n:Nat)(hS:Sat Z V H L)(ht:L[n]? =some (It.sl s.ro v xs))(hx:ev tm x=p)(hz:s.sz=sz)(hp:vidxs sz v (vi j)=some p)(hj:ix xs j=some u)
 (k:∀Y W cs,Gw Z V Y W→Sat Y W H L→s.rd Y cs u→∃w,mkv g cs=some w∧R T Q (.ops l::K) .normal (ub tm t w) H):R T Q (.ops (⟨some t,.load sz g x,none,sl⟩::l)::K) .normal tm H:=by
 obtain⟨Y,W,cs,g1,h1,h2,h3⟩:=hS.elem n ht hz hj hp
 obtain⟨w,h4,h5⟩:=k Y W cs g1 h1 h2
 exact bW rfl (by rw [cE,hx,h3,h4];rfl) h5
theorem jR {x:Operand}{j:Int}{u:List α}{p:Value}{xs:List (List α)}(n:Nat)(hS:Sat Z V H L)(ht:L[n]? =some (It.sl s.sl.ro v xs))(hx:ev tm x=p)(hp:vidxs 1 v (vi j)=some p)(hj:ix xs j=some u)
 (k:∀Y W w,Gw Z V Y W→Sat Y W H L→RdS s Y w u→R T Q (.ops l::K) .normal (ub tm t w) H):R T Q (.ops (⟨some t,.load 1 false x,none,sl⟩::l)::K) .normal tm H:=
 kh n hS ht hx rfl hp hj fun Y W cs g h1 h2=>by obtain⟨w,rfl,h2⟩:=h2;exact⟨w,rfl,k Y W w g h1 h2⟩
theorem gJ {x:Operand}{j:Int}{u:α}{sz:Nat}{p:Value}(n:Nat)(hS:Sat Z V H L)(ht:L[n]? =some (It.sl s.ro v xs))(hx:ev tm x=p)(hz:s.sz=sz)(hp:vidxs sz v (vi j)=some p)(hj:ix xs j=some u)
 (k:∀Y W cs,Gw Z V Y W→Sat Y W H L→s.rd Y cs u→R T Q (.ops l::K) .normal (ub tm t (.agg cs.toArray)) H):R T Q (.ops (⟨some t,.load sz true x,none,sl⟩::l)::K) .normal tm H:=
 kh n hS ht hx hz hp hj fun Y W cs g h1 h2=>⟨_,rfl,k Y W cs g h1 h2⟩
theorem aW:∀F:PH,Z.le F→(It.sl s (.slice none 0 0) []).P F .emp:=fun _ _=>.inl ⟨rfl,rfl⟩
theorem dD {cs:List Value}{x:α}(h:s.rd Z cs x):∀F:PH,Z.le F→(s.ro.it cs x).P F .emp:=fun _ hF=>s.rd_mono hF h
theorem cR {v:Value}{xs:List α}(h:RdS s Z v xs):s.sl.rd Z [v] xs:=⟨v,rfl,h⟩
theorem Sat.frzR {v:Value}{xs:List α}(h:Sat Z V H (s.sl.ro.it [v] xs::L)):∃Y W:PH,Gw Z V Y W∧Sat Y W H L∧RdS s Y v xs:=by
 obtain⟨Y,W,a,b,w,e,c⟩:=h.frz 0 rfl
 cases e
 exact⟨Y,W,a,b,c⟩
end
end
end Go.Ab
namespace Go.Ab
open Go Go.Pu
theorem iv {v:Value}{k:IntKind}{a b:Int}(h:v= .int k a)(e:a=b):v= .int k b:=h.trans (by rw [e])
theorem gf {v:Value}{a b:Bool}(h:v= .bool a)(e:a=b):v= .bool b:=h.trans (by rw [e])
section
variable {T : FuncId → Option AFunc} {Q : AX → Tm → Hp → Prop} {K : List Fk} {tm : Tm} {H : Hp} {l : List DOp} {c : Fk}
theorem bf {I:Tm→Hp→Prop}(h:(∀tm' H',I tm' H'→R T Q K .normal tm' H')→R T Q (c::K) .normal tm H)(k:∀tm' H',I tm' H'→R T Q K .normal tm' H'):R T Q (c::K) .normal tm H:=h k
theorem cv (n:Nat){I:Tm→Hp→Prop}(h:(∀tm' H',I tm' H'→R T Q (.ops (l.drop n)::K) .normal tm' H')→R T Q (.ops l::K) .normal tm H)(k:∀tm' H',I tm' H'→R T Q (.ops (l.drop n)::K) .normal tm' H'):R T Q (.ops l::K) .normal tm H:=h k
end
theorem cD {n x:Int}{i:Nat}(h:(ran n)[i]? =some x):x=(i:Int):=(gO h).1
theorem cf {n x:Int}{i:Nat}(h:(ran n)[i]? =some x):x<n:=by have:=gO h;omega
theorem bU {n x:Int}{i:Nat}(h:(ran n)[i]? =some x)(hn:n≤4611686018427387904):IntKind.i64.wrap (x+1)=((i+1:Nat):Int):=by
 obtain⟨rfl,h2⟩:=gO h
 exact w_sucI h2 hn
theorem bA (n:Int):¬(((ran n).length:Int)<n):=by rw [ran_len];omega
section
variable {Z V : PH} {H : Hp} {L : List It} {tm : Tm}
theorem arB {t b m z:Nat}{g:Bool}{us:List Value}{w:Value}(n:Nat)(hS:Sat Z V H L)(ht:L[n]? =some (pts b (.rw z us)))(hx:tm t= .pointer (some ⟨b,0,none⟩))(hm:Nat.ble (0+m) us.length=true)(hw:mkv g ((us.drop 0).take m)=some w):
 aresults [.cell t m g] tm H=some w:=by
 have hb:=hS.curB n ht
 rw [gX,V_load_res,hx]
 simp only [vload,Option.isNone_none,if_true,Hp.load,show Hp.cells H b=some us by rw [bC hb];rfl]
 rw [if_pos (Nat.le_of_ble_eq_true hm),Option.bind_some,hw]
end
end Go.Ab
namespace Go.Ab
open Go Go.Pu
section
variable {T : FuncId → Option AFunc} {Q : AX → Tm → Hp → Prop} {K : List Fk} {tm : Tm} {H : Hp} {l : List DOp} {sl : List Nat} {t : Nat}
theorem dx {o:AOp}{g:Nat}{b:Bool}(hg:tm g=undef)(k:R T Q (.ops l::K) .normal (ub tm t undef) H):R T Q (.ops (⟨some t,o,some (g,b),sl⟩::l)::K) .normal tm H:=
 .nop (by rw [want,hg];rfl) (by rw [cu,db];exact k)
section
variable {α : Type} {s : Sh α} {Z : PH} {v : Value} {xs : List α}
theorem RdS.atF (h:RdS s Z v xs)(hZ:Z.le (Hp.ph H)){j:Int}{u:α}(hj:ix xs j=some u){sz:Nat}(hz:s.sz=sz){p:Value}(hp:vidxs sz v (vi j)=some p){off n:Nat}(ho:off+n≤sz){p':Value}(hf:vfaddr off p=some p'):
 ∃cs,s.rd Z cs u∧∀agg,vload H n agg p'=mkv agg ((cs.drop off).take n):=by
 obtain⟨h1,h2,h3⟩:=dL hj
 subst hz
 rcases h with⟨rfl,rfl⟩|⟨b,o,us,x,rfl,h4,h5,h6,h7,h8⟩
 ·simp at h2;omega
 ·rw [cz,if_pos ⟨h1,h2⟩] at hp
  cases hp
  simp only [iI,Option.some.injEq] at hf
  subst hf
  have hlt:j.toNat<xs.length:=by omega
  refine⟨_,h8 _ u h3,fun agg=>?_⟩
  have hb:Hp.cells H b=some us:=by rw [bC (bQ hZ h4)];exact h5
  have hat:=cJ hlt h7.1
  simp only [vload,Option.isNone_none,if_true,Hp.load,hb]
  rw [if_pos (by omega),Option.bind_some]
  congr 1
  unfold chk
  rw [List.drop_take,List.take_take,List.drop_drop]
  congr 1
  omega
theorem iX {sz off:Nat}{j:Int}{p:Value}(hp:vidxs sz v (vi j)=some p):∃p',vfaddr off p=some p':=by
 unfold vidxs at hp
 split at hp
 ·split at hp
  ·cases hp;exact⟨_,rfl⟩
  ·cases hp
 ·cases hp
theorem jN {x:Operand}{sz off:Nat}{j:Int}{p:Value}(hx:ev tm x=p)(hp:vidxs sz v (vi j)=some p)(k:∀p',vfaddr off p=some p'→R T Q (.ops l::K) .normal (ub tm t p') H):R T Q (.ops (⟨some t,.faddr off x,none,sl⟩::l)::K) .normal tm H:=by
 obtain⟨p',h⟩:=iX (off:=off) hp
 exact bW rfl (by rw [iG,hx,h];rfl) (k p' h)
theorem kg {x:Operand}{j:Int}{u:α}{sz off n:Nat}{p p':Value}{g:Bool}(hx:ev tm x=p')(hr:RdS s Z v xs)(hZ:Z.le (Hp.ph H))(hz:s.sz=sz)(hp:vidxs sz v (vi j)=some p)(hf:vfaddr off p=some p')(hj:ix xs j=some u)(ho:Nat.ble (off+n) sz=true)
 (k:∀cs,s.rd Z cs u→∃w,mkv g ((cs.drop off).take n)=some w∧R T Q (.ops l::K) .normal (ub tm t w) H):R T Q (.ops (⟨some t,.load n g x,none,sl⟩::l)::K) .normal tm H:=by
 obtain⟨cs,h1,h2⟩:=hr.atF hZ hj hz hp (Nat.le_of_ble_eq_true ho) hf
 obtain⟨w,h4,h5⟩:=k cs h1
 exact bW rfl (by rw [cE,hx,h2,h4];rfl) h5
end
end
end Go.Ab
namespace Go.Ab
open Go Go.Pu
section
variable {T : FuncId → Option AFunc} {Q : AX → Tm → Hp → Prop} {K : List Fk} {tm : Tm} {H : Hp}
theorem c_bt {c:Operand}{a b:ACode}(hc:ev tm c= .bool true)(k:R T Q (.code a::K) .normal tm H):R T Q (.code (.cond c a b)::K) .normal tm H:=bx hc (fun _=>k) fun h=>by cases h
theorem kl {c:Operand}{a b:ACode}(hc:ev tm c= .bool false)(k:R T Q (.code b::K) .normal tm H):R T Q (.code (.cond c a b)::K) .normal tm H:=bx hc (fun h=>by cases h) fun _=>k
end
end Go.Ab
namespace Go.Ab
open Go Go.Pu
theorem RdS.of_ro {α:Type}{s:Sh α}{Z:PH}{v:Value}{xs:List α}(h:RdS s.ro Z v xs):RdS s Z v xs:=h
section
variable {Z V : PH} {H : Hp} {L : List It} {tm : Tm} {a b c d : ARes} {v w x y : Value}
theorem ra2 (h1:ares tm H a=some v)(h2:ares tm H b=some w):aresults [a,b] tm H=some (.tuple #[v,w]):=by simp [aresults,h1,h2]
theorem ra3 (h1:ares tm H a=some v)(h2:ares tm H b=some w)(h3:ares tm H c=some x):aresults [a,b,c] tm H=some (.tuple #[v,w,x]):=by simp [aresults,h1,h2,h3]
theorem rat {t:Nat}(h:tm t=v):ares tm H (.tmp t)=some v:=by subst h;rfl
theorem rac {t b m z:Nat}{g:Bool}{us:List Value}(n:Nat)(hS:Sat Z V H L)(ht:L[n]? =some (pts b (.rw z us)))(hx:tm t= .pointer (some ⟨b,0,none⟩))(hm:Nat.ble (0+m) us.length=true)(hw:mkv g ((us.drop 0).take m)=some w):
 ares tm H (.cell t m g)=some w:=by rw [←gX];exact arB n hS ht hx hm hw
end
end Go.Ab
namespace Go.Ab
open Go Go.Pu
variable {T : FuncId → Option AFunc} {Q : AX → Tm → Hp → Prop} {K : List Fk} {tm : Tm} {H : Hp} {l : List DOp} {sl : List Nat} {t : Nat} {base m ri : Nat} {all : List DOp} {pr : List (Nat × Nat)} {tr : List St}
def DD (base i0 m:Nat)(H:Hp):Prop:=∀j,i0≤j→j<m→H[base+j]? =some .dead
theorem DD.get {i0:Nat}(h:DD base i0 m H)(j:Nat)(h1:Nat.ble i0 j=true)(h2:Nat.blt j m=true):H[base+j]? =some .dead:=h j (Nat.le_of_ble_eq_true h1) (Nat.le_of_ble_eq_true h2)
theorem DD.keep {i0:Nat}{H':Hp}(h:DD base i0 m H)(k:Keeps H H'):DD base i0 m H':=fun j h1 h2=>k.2.1 _ (h j h1 h2)
theorem DD.next {i0:Nat}{H':Hp}(h:DD base i0 m H)(j:Nat)(hj:Nat.ble i0 j=true)(k:∀b,b≠base+j→H'[b]? =H[b]?):DD base (j+1) m H':=fun a h1 h2=>by
 rw [k _ (by omega)];exact h a (by have:=Nat.le_of_ble_eq_true hj;omega) h2
def BLow (base:Nat)(v:Value):Prop:=∀a n c,v= .slice (some a) n c→a.block<base
theorem RdS.low {α:Type}{s:Sh α}{Z:PH}{v:Value}{xs:List α}(h:RdS s Z v xs){H0:Hp}(hZ:Z.le (Hp.ph H0))(lb:∀b x,Hp.ph H0 b=some x→b<base):BLow base v:=by
 intro a n c e
 rcases h with⟨rfl,-⟩|⟨b',o',us,x,rfl,h2,-⟩
 ·cases e
 ·cases e;exact lb _ _ (hZ _ _ h2)
def isPL (o:AOp):Bool:=match kindOf o with | .pure=>true | .loud=>true|_=>false
theorem ka {o:AOp}{dst:Option Nat}{v:Value}{H1:Hp}(hk:isPL o=true)(hc:calls o=false)(h:aop o tm H=some (v,H1)):dstep (fun _ _ _=>none) base m ri ⟨dst,o,none,sl⟩ (tm,H)=some (v,H1):=by
 unfold isPL at hk
 simp only [dstep,want,if_true]
 cases hq:kindOf o<;>rw [hq] at hk<;>simp only at hk ⊢
 ·exact h
 ·cases hk
 ·cases hk
 ·rw [dp hc];exact h
theorem dF {o:AOp}(hk:isPL o=true)(hc:calls o=false){v:Value}{H1:Hp}(h:aop o tm H=some (v,H1))(k:R T Q (.dops base m all pr (ri+1) (tr++ [(tm,H)]) l::K) .normal (ub tm t v) H1):R T Q (.dops base m all pr ri tr (⟨some t,o,none,sl⟩::l)::K) .normal tm H:=by
 rw [iH hc,ka hk hc h,eo,cu,db];exact k
theorem iQ {o:AOp}(hk:isPL o=true)(hc:calls o=false){v:Value}{H1:Hp}(h:aop o tm H=some (v,H1))(k:R T Q (.dops base m all pr (ri+1) (tr++ [(tm,H)]) l::K) .normal tm H1):R T Q (.dops base m all pr ri tr (⟨none,o,none,sl⟩::l)::K) .normal tm H:=by
 rw [iH hc,ka hk hc h,eo,ir];exact k
theorem fF {o:AOp}(hk:kindOf o= .read)(hr:rdOk base m ⟨some t,o,none,sl⟩ tm=true){v:Value}(h:aop o tm H=some (v,H))(k:R T Q (.dops base m all pr (ri+1) (tr++ [(tm,H)]) l::K) .normal (ub tm t v) H):R T Q (.dops base m all pr ri tr (⟨some t,o,none,sl⟩::l)::K) .normal tm H:=by
 have hc:calls o=false:=by cases o<;>first|rfl|cases hk
 rw [iH hc]
 have:dstep (fun _ _ _=>none) base m ri ⟨some t,o,none,sl⟩ (tm,H)=some (v,H):=by simp only [dstep,want,if_true,hk,hr];exact h
 rw [this,eo,cu,db];exact k
theorem jp {o:AOp}(hk:kindOf o= .new){v:Value}{b:Blk}(h:anew o tm (base+ri)=some (v,b))(k:R T Q (.dops base m all pr (ri+1) (tr++ [(tm,H)]) l::K) .normal (ub tm t v) (H.set (base+ri) b)):R T Q (.dops base m all pr ri tr (⟨some t,o,none,sl⟩::l)::K) .normal tm H:=by
 have hc:calls o=false:=by cases o<;>first|rfl|cases hk
 rw [iH hc]
 have:dstep (fun _ _ _=>none) base m ri ⟨some t,o,none,sl⟩ (tm,H)=some (v,H.set (base+ri) b):=by simp only [dstep,want,if_true,hk,h];rfl
 rw [this,eo,cu,db];exact k
theorem aA {Z V:PH}{L:List It}(hS:Sat Z V H L)(k:∀base Hd,Sat Z V Hd L→(∀b x,Hp.ph Hd b=some x→b<base)→DD base 0 l.length Hd→R T Q (.dops base l.length l pr 0 [] l::K) .normal tm Hd):R T Q (.code (.draw l pr)::K) .normal tm H:=by
 refine R_draw' fun Hd h1 h2 h3=>k H.length Hd (hS.up fun b x e=>?_) (fun b x e=>?_) fun j _ hj=>h3 _ (by omega) (by omega)
 ·have:=an.1 e
  exact an.2 ⟨(h2 b (bo this.1)).trans this.1,this.2⟩
 ·have h4:=an.1 e
  have h5:=bo h4.1
  rcases Nat.lt_or_ge b H.length with q|q
  ·exact q
  ·have:=h3 b q (by omega)
   rw [h4.1] at this;cases this;exact absurd rfl h4.2
theorem DD.up {i0 i1:Nat}(h:DD base i0 m H)(e:Nat.ble i0 i1=true):DD base i1 m H:=fun j h1 h2=>h j (by have:=Nat.le_of_ble_eq_true e;omega) h2
theorem dn (n:Nat){I:Tm→Hp→Prop}(h:(∀tm' H' tr',I tm' H'→R T Q (.dops base m all pr (ri+n) tr' (l.drop n)::K) .normal tm' H')→R T Q (.dops base m all pr ri tr l::K) .normal tm H)
 (k:∀tm' H' tr',I tm' H'→R T Q (.dops base m all pr (ri+n) tr' (l.drop n)::K) .normal tm' H'):R T Q (.dops base m all pr ri tr l::K) .normal tm H:=h k
theorem aQ (hp:pr.all (dcheck all (tr++ [(tm,H)]))=true)(k:R T Q K .normal tm H):R T Q (.dops base m all pr ri tr []::K) .normal tm H:=jr.2 ⟨hp,k⟩
theorem tr0:([]:List St).length=0:=rfl
theorem trl {tr:List St}{n:Nat}{x:St}(h:tr.length=n):(tr++ [x]).length=n+1:=by simp [h]
theorem tre {tr:List St}{n:Nat}{x:St}(h:tr.length=n):(tr++ [x])[n]? =some x:=by subst h;simp
theorem tra {tr:List St}{n:Nat}{s x:St}(h:tr[n]? =some s):(tr++ [x])[n]? =some s:=by rw [List.getElem?_append_left (List.getElem?_eq_some_iff.1 h).1];exact h
theorem aK {ops:List DOp}{tr:List St}:([]:List (Nat×Nat)).all (dcheck ops tr)=true:=rfl
theorem cV {ops:List DOp}{tr:List St}{a b:Nat}{o:DOp}{s x y:St}{ps:List (Nat×Nat)}(h1:ops[a]? =some o)(h2:tr[a]? =some s)(h3:tr[b]? =some x)(h4:tr[b+1]? =some y)(h5:again o s x.2=true)(h6:again o s y.2=true)(k:ps.all (dcheck ops tr)=true):
 ((a,b)::ps).all (dcheck ops tr)=true:=by
 rw [List.all_cons,k,Bool.and_true]
 simp only [dcheck,h1,h2,h3,h4,h5,h6,Bool.and_self]
theorem w_u {tm:Tm}{g:Nat}{b:Bool}(hg:tm g=undef):want tm (some (g,b))=false:=by rw [want,hg];rfl
theorem ek {tm:Tm}:want tm none=true:=rfl
theorem ag_ld {dst:Option Nat}{n:Nat}{g:Bool}{x:Operand}{tm:Tm}{H H':Hp}{w:Value}{G:Option (Nat×Bool)}(hg:want tm G=true)(h:vload H n g (ev tm x)=some w)(h':vload H' n g (ev tm x)=some w)(hw:vsame w w=true):again ⟨dst,.load n g x,G,sl⟩ (tm,H) H'=true:=by
 simp only [again,hg,if_true,cE,h,h',Option.map_some,hw]
theorem bZ {dst:Option Nat}{n:Nat}{g:Bool}{x:Operand}{tm:Tm}{H H':Hp}{w p:Value}{G:Option (Nat×Bool)}(hg:want tm G=true)(hx:ev tm x=p)(h:vload H n g p=some w)(h':vload H' n g p=some w)(hw:vsame w w=true):again ⟨dst,.load n g x,G,sl⟩ (tm,H) H'=true:=by
 subst hx;exact ag_ld hg h h' hw
theorem fc {α:Type}{s:Sh α}{Z:PH}{v:Value}{xs:List α}(h:RdS s Z v xs){j:Int}{u:α}(hj:ix xs j=some u){sz:Nat}(hz:s.sz=sz){p:Value}(hp:vidxs sz v (vi j)=some p):
 ∃cs,s.rd Z cs u∧∀(H:Hp) (g:Bool),Z.le (Hp.ph H)→vload H sz g p=mkv g cs:=by
 obtain⟨h1,h2,h3⟩:=dL hj
 subst hz
 rcases h with⟨rfl,rfl⟩|⟨b,o,us,x,rfl,h4,h5,h6,h7,h8⟩
 ·simp at h2;omega
 ·rw [cz,if_pos ⟨h1,h2⟩] at hp
  cases hp
  have hlt:j.toNat<xs.length:=by omega
  refine⟨_,h8 _ u h3,fun H g hZ=>?_⟩
  have hb:Hp.cells H b=some us:=by rw [bC (bQ hZ h4)];exact h5
  simp only [vload,Option.isNone_none,if_true,Hp.load,hb]
  rw [if_pos (cJ hlt h7.1)];rfl
theorem bK {f:FuncId}{xs:List Operand}{P:Value→Hp→Prop}{args:List Value}(ha:xs.map (ev tm)=args)(hc:G T f args H P)(k:∀v H1,P v H1→Keeps H H1→R T Q (.dops base m all pr (ri+1) (tr++ [(tm,H)]) l::K) .normal (ub tm t v) H1):R T Q (.dops base m all pr ri tr (⟨some t,.call f xs,none,sl⟩::l)::K) .normal tm H:=by
 obtain⟨r,H',hr,hp⟩:=hc
 refine R_dcall (P:=fun v H1=>P v H1∧Keeps H H1) ha rfl ⟨r,H',hr,hp,?_⟩ fun v H1 h=>by rw [cu,db];exact k v H1 h.1 h.2
 obtain⟨n,hn⟩:=hr
 exact de T n _ _ _ _ _ (hn n (Nat.le_refl _))
theorem aj {x:Operand}{v:Value}(hx:ev tm x=v)(k:R T Q (.dops base m all pr (ri+1) (tr++ [(tm,H)]) l::K) .normal (ub tm t v) H):R T Q (.dops base m all pr ri tr (⟨some t,.mv x,none,sl⟩::l)::K) .normal tm H:=dF rfl rfl (by simp [aop,hx]) k
theorem dY {o:BinOp}{x y:Operand}{a b v:Value}(h:vbin o a b=some v)(hx:ev tm x=a)(hy:ev tm y=b)(k:R T Q (.dops base m all pr (ri+1) (tr++ [(tm,H)]) l::K) .normal (ub tm t v) H):R T Q (.dops base m all pr ri tr (⟨some t,.bin o x y,none,sl⟩::l)::K) .normal tm H:=
 dF rfl rfl (by rw [jY,hx,hy,h];rfl) k
section
variable {x y : Operand} {kd : IntKind} {a b : Int}
theorem cP (hx:ev tm x= .int kd a)(hy:ev tm y= .int kd b)(k:R T Q (.dops base m all pr (ri+1) (tr++ [(tm,H)]) l::K) .normal (ub tm t (.int kd (kd.wrap (a+b)))) H):R T Q (.dops base m all pr ri tr (⟨some t,.bin .add x y,none,sl⟩::l)::K) .normal tm H:=dY (by simp [vbin,ibin]) hx hy k
theorem df (hx:ev tm x= .int kd a)(hy:ev tm y= .int kd b)(k:R T Q (.dops base m all pr (ri+1) (tr++ [(tm,H)]) l::K) .normal (ub tm t (.int kd (kd.wrap (a-b)))) H):R T Q (.dops base m all pr ri tr (⟨some t,.bin .sub x y,none,sl⟩::l)::K) .normal tm H:=dY (by simp [vbin,ibin]) hx hy k
theorem jH (hx:ev tm x= .int kd a)(hy:ev tm y= .int kd b)(k:R T Q (.dops base m all pr (ri+1) (tr++ [(tm,H)]) l::K) .normal (ub tm t (.int kd (bxor kd a b))) H):R T Q (.dops base m all pr ri tr (⟨some t,.bin .xor x y,none,sl⟩::l)::K) .normal tm H:=dY (by simp [vbin,ibin,bxor]) hx hy k
theorem jF (hx:ev tm x= .int kd a)(hy:ev tm y= .int kd b)(k:R T Q (.dops base m all pr (ri+1) (tr++ [(tm,H)]) l::K) .normal (ub tm t (.bool (decide (a<b)))) H):R T Q (.dops base m all pr ri tr (⟨some t,.bin .lss x y,none,sl⟩::l)::K) .normal tm H:=dY (by simp [vbin,ibin]) hx hy k
theorem gl (hx:ev tm x= .int kd a)(hy:ev tm y= .int kd b)(k:R T Q (.dops base m all pr (ri+1) (tr++ [(tm,H)]) l::K) .normal (ub tm t (.bool (decide (a≤b)))) H):R T Q (.dops base m all pr ri tr (⟨some t,.bin .leq x y,none,sl⟩::l)::K) .normal tm H:=dY (by simp [vbin,ibin]) hx hy k
theorem jB (hx:ev tm x= .int kd a)(hy:ev tm y= .int kd b)(k:R T Q (.dops base m all pr (ri+1) (tr++ [(tm,H)]) l::K) .normal (ub tm t (.bool (decide (b<a)))) H):R T Q (.dops base m all pr ri tr (⟨some t,.bin .gtr x y,none,sl⟩::l)::K) .normal tm H:=dY (by simp [vbin,ibin]) hx hy k
theorem hO (hx:ev tm x= .int kd a)(hy:ev tm y= .int kd b)(k:R T Q (.dops base m all pr (ri+1) (tr++ [(tm,H)]) l::K) .normal (ub tm t (.bool (decide (b≤a)))) H):R T Q (.dops base m all pr ri tr (⟨some t,.bin .geq x y,none,sl⟩::l)::K) .normal tm H:=dY (by simp [vbin,ibin]) hx hy k
theorem iP (hx:ev tm x= .int kd a)(hy:ev tm y= .int kd b)(k:R T Q (.dops base m all pr (ri+1) (tr++ [(tm,H)]) l::K) .normal (ub tm t (.bool (decide (a≠b)))) H):R T Q (.dops base m all pr ri tr (⟨some t,.bin .neq x y,none,sl⟩::l)::K) .normal tm H:=by
 refine dY (v:=.bool (decide (a≠b))) ?_ hx hy k
 simp only [vbin,ibin,if_true]
 congr 2
 by_cases h:a=b<;>simp [h,bne]
theorem kc {c:Int}{kd':IntKind}(hx:ev tm x= .int kd a)(hy:ev tm y= .int kd' b)(hc:Pu.shl kd a b=some c)(k:R T Q (.dops base m all pr (ri+1) (tr++ [(tm,H)]) l::K) .normal (ub tm t (.int kd c)) H):R T Q (.dops base m all pr ri tr (⟨some t,.bin .shl x y,none,sl⟩::l)::K) .normal tm H:=by
 refine dY ?_ hx hy k
 unfold Pu.shl at hc
 simp only [vbin,ibin]
 split at hc
 ·cases hc
 ·cases hc;rw [if_neg (by assumption)]
theorem d_shr {c:Int}{kd':IntKind}(hx:ev tm x= .int kd a)(hy:ev tm y= .int kd' b)(hc:Pu.shr kd a b=some c)(k:R T Q (.dops base m all pr (ri+1) (tr++ [(tm,H)]) l::K) .normal (ub tm t (.int kd c)) H):R T Q (.dops base m all pr ri tr (⟨some t,.bin .shr x y,none,sl⟩::l)::K) .normal tm H:=by
 refine dY ?_ hx hy k
 unfold Pu.shr at hc
 simp only [vbin,ibin]
 split at hc
 ·cases hc
 ·cases hc;rw [if_neg (by assumption)]
theorem dJ {p:Bool}(hx:ev tm x= .bool p)(k:R T Q (.dops base m all pr (ri+1) (tr++ [(tm,H)]) l::K) .normal (ub tm t (.bool !p)) H):R T Q (.dops base m all pr ri tr (⟨some t,.un .not x,none,sl⟩::l)::K) .normal tm H:=dF rfl rfl (by simp [aop,hx]) k
end
theorem ko {n:Bool}{e:EqK}{x y:Operand}{a b:Value}{p:Bool}(h:veq n e a b=some (.bool p))(hx:ev tm x=a)(hy:ev tm y=b)(k:R T Q (.dops base m all pr (ri+1) (tr++ [(tm,H)]) l::K) .normal (ub tm t (.bool p)) H):R T Q (.dops base m all pr ri tr (⟨some t,.eq n e x y,none,sl⟩::l)::K) .normal tm H:=
 dF rfl rfl (by rw [km,hx,hy,h];rfl) k
theorem bJ {c x y:Operand}{p:Bool}{a:Value}(hc:ev tm c= .bool p)(hp:p=true)(hx:ev tm x=a)(k:R T Q (.dops base m all pr (ri+1) (tr++ [(tm,H)]) l::K) .normal (ub tm t a) H):R T Q (.dops base m all pr ri tr (⟨some t,.pick c x y,none,sl⟩::l)::K) .normal tm H:=dF rfl rfl (by simp [aop,hc,hx,hp]) k
theorem bI {c x y:Operand}{p:Bool}{b:Value}(hc:ev tm c= .bool p)(hp:p=false)(hy:ev tm y=b)(k:R T Q (.dops base m all pr (ri+1) (tr++ [(tm,H)]) l::K) .normal (ub tm t b) H):R T Q (.dops base m all pr ri tr (⟨some t,.pick c x y,none,sl⟩::l)::K) .normal tm H:=dF rfl rfl (by simp [aop,hc,hy,hp]) k
theorem hJ {z:List Value}{ps:List (Nat×Nat×Operand)}{qs:List (Nat×Nat×Value)}{v:Value}(hx:(ps.map fun p=>(p.1,p.2.1,ev tm p.2.2))=qs)(h:vbuild z qs=some v)(k:R T Q (.dops base m all pr (ri+1) (tr++ [(tm,H)]) l::K) .normal (ub tm t v) H):R T Q (.dops base m all pr ri tr (⟨some t,.build z ps,none,sl⟩::l)::K) .normal tm H:=
 dF rfl rfl (by rw [iF,hx,h];rfl) k
theorem cI {x:Operand}{a:Addr}(hx:ev tm x= .pointer (some a))(k:R T Q (.dops base m all pr (ri+1) (tr++ [(tm,H)]) l::K) .normal (ub tm t (.pointer (some a))) H):R T Q (.dops base m all pr ri tr (⟨some t,.nilchk x,none,sl⟩::l)::K) .normal tm H:=dF rfl rfl (by simp [aop,hx]) k
theorem bt {x:Operand}{b o n:Nat}(hx:ev tm x= .pointer (some ⟨b,o,none⟩))(k:R T Q (.dops base m all pr (ri+1) (tr++ [(tm,H)]) l::K) .normal (ub tm t (.pointer (some ⟨b,o+n,none⟩))) H):R T Q (.dops base m all pr ri tr (⟨some t,.faddr n x,none,sl⟩::l)::K) .normal tm H:=dF rfl rfl (by simp [aop,hx]) k
theorem dI {x:Operand}{v:Value}{n:Int}(hx:ev tm x=v)(h:vlen v=some (vi n))(k:R T Q (.dops base m all pr (ri+1) (tr++ [(tm,H)]) l::K) .normal (ub tm t (vi n)) H):R T Q (.dops base m all pr ri tr (⟨some t,.len x,none,sl⟩::l)::K) .normal tm H:=
 dF rfl rfl (by rw [jZ,hx,h];rfl) k
theorem ji {x:Operand}{j:Int}{sz n:Nat}{g:Bool}{v p:Value}(hb:BLow base v)(hx:ev tm x=p)(hp:vidxs sz v (vi j)=some p):rdOk base m ⟨some t,.load n g x,none,sl⟩ tm=true:=by
 unfold rdOk rblk
 simp only [hx]
 unfold vidxs at hp
 split at hp
 ·split at hp
  ·cases hp
   rename_i a n' c k j' _ _
   have:=hb a n' c rfl
   simp [this]
  ·cases hp
 ·cases hp
theorem fX {v:Value}{sz:Nat}{x:Operand}{lo hi:Option Operand}(hb:BLow base v)(hx:ev tm x=v):rdOk base m ⟨some t,.slice sz x lo hi,none,sl⟩ tm=true:=by
 unfold rdOk rblk
 simp only [hx]
 cases v<;>try rfl
 rename_i a n c
 cases a with
 | none=>rfl
 | some a=>have:=hb a n c rfl;simp [this]
section
variable {α : Type} {s : Sh α} {Z : PH} {v : Value} {xs : List α}
theorem aq {x y:Operand}{j:Int}{u:α}{sz:Nat}(hx:ev tm x=v)(hy:ev tm y=vi j)(hr:RdS s Z v xs)(hz:s.sz=sz)(hj:ix xs j=some u)(k:∀p,vidxs sz v (vi j)=some p→R T Q (.dops base m all pr (ri+1) (tr++ [(tm,H)]) l::K) .normal (ub tm t p) H):
 R T Q (.dops base m all pr ri tr (⟨some t,.idxs sz x y,none,sl⟩::l)::K) .normal tm H:=by
 obtain⟨p,hp⟩:=hr.idx hj hz
 exact dF rfl rfl (by rw [iy,hx,hy,hp];rfl) (k p hp)
theorem kp {x:Operand}{j:Int}{u:α}{sz:Nat}{p:Value}{g:Bool}(hb:BLow base v)(hx:ev tm x=p)(hr:RdS s Z v xs)(hZ:Z.le (Hp.ph H))(hz:s.sz=sz)(hp:vidxs sz v (vi j)=some p)(hj:ix xs j=some u)
 (k:∀cs,s.rd Z cs u→cs.length=sz→∃w,mkv g cs=some w∧R T Q (.dops base m all pr (ri+1) (tr++ [(tm,H)]) l::K) .normal (ub tm t w) H):R T Q (.dops base m all pr ri tr (⟨some t,.load sz g x,none,sl⟩::l)::K) .normal tm H:=by
 obtain⟨cs,h1,h2,h3⟩:=hr.at' hZ hj hz hp
 obtain⟨w,h4,h5⟩:=k cs h1 h2
 exact fF rfl (ji hb hx hp) (by rw [cE,hx,h3,h4];rfl) h5
theorem jD {x:Operand}{j:Int}{u:α}{p:Value}(hb:BLow base v)(hx:ev tm x=p)(hr:RdS s Z v xs)(hZ:Z.le (Hp.ph H))(hz:s.sz=1)(hp:vidxs 1 v (vi j)=some p)(hj:ix xs j=some u)
 (k:∀w,s.rd Z [w] u→R T Q (.dops base m all pr (ri+1) (tr++ [(tm,H)]) l::K) .normal (ub tm t w) H):R T Q (.dops base m all pr ri tr (⟨some t,.load 1 false x,none,sl⟩::l)::K) .normal tm H:=
 kp hb hx hr hZ hz hp hj fun cs h hl=>by
  obtain⟨w,rfl⟩:∃w,cs= [w]:=List.length_eq_one_iff.1 hl
  exact⟨w,rfl,k w h⟩
theorem aO {kd:IntKind}{x:Operand}{j u:Int}{p:Value}{xs:List Int}(hb:BLow base v)(hx:ev tm x=p)(hr:RdS (Sh.ik kd) Z v xs)(hZ:Z.le (Hp.ph H))(hp:vidxs 1 v (vi j)=some p)(hj:ix xs j=some u)
 (k:R T Q (.dops base m all pr (ri+1) (tr++ [(tm,H)]) l::K) .normal (ub tm t (.int kd u)) H):R T Q (.dops base m all pr ri tr (⟨some t,.load 1 false x,none,sl⟩::l)::K) .normal tm H:=jD hb hx hr hZ rfl hp hj fun w h=>by cases h;exact k
theorem jE {x:Operand}{j:Int}{u:Bool}{p:Value}{xs:List Bool}(hb:BLow base v)(hx:ev tm x=p)(hr:RdS Sh.bool Z v xs)(hZ:Z.le (Hp.ph H))(hp:vidxs 1 v (vi j)=some p)(hj:ix xs j=some u)
 (k:R T Q (.dops base m all pr (ri+1) (tr++ [(tm,H)]) l::K) .normal (ub tm t (.bool u)) H):R T Q (.dops base m all pr ri tr (⟨some t,.load 1 false x,none,sl⟩::l)::K) .normal tm H:=jD hb hx hr hZ rfl hp hj fun w h=>by cases h;exact k
theorem iO {x:Operand}{j:Int}{u:List α}{p:Value}{xs:List (List α)}(hb:BLow base v)(hx:ev tm x=p)(hr:RdS s.sl Z v xs)(hZ:Z.le (Hp.ph H))(hp:vidxs 1 v (vi j)=some p)(hj:ix xs j=some u)
 (k:∀w,RdS s Z w u→R T Q (.dops base m all pr (ri+1) (tr++ [(tm,H)]) l::K) .normal (ub tm t w) H):R T Q (.dops base m all pr ri tr (⟨some t,.load 1 false x,none,sl⟩::l)::K) .normal tm H:=jD hb hx hr hZ rfl hp hj fun w h=>by obtain⟨w',e,h⟩:=h;cases e;exact k w h
theorem d_lda {x:Operand}{j:Int}{u:α}{sz:Nat}{p:Value}(hb:BLow base v)(hx:ev tm x=p)(hr:RdS s Z v xs)(hZ:Z.le (Hp.ph H))(hz:s.sz=sz)(hp:vidxs sz v (vi j)=some p)(hj:ix xs j=some u)
 (k:∀cs,s.rd Z cs u→R T Q (.dops base m all pr (ri+1) (tr++ [(tm,H)]) l::K) .normal (ub tm t (.agg cs.toArray)) H):R T Q (.dops base m all pr ri tr (⟨some t,.load sz true x,none,sl⟩::l)::K) .normal tm H:=kp hb hx hr hZ hz hp hj fun cs h _=>⟨_,rfl,k cs h⟩
theorem d_slc {x y z:Operand}{sz:Nat}{lo hi:Int}{ys:List α}(hb:BLow base v)(hx:ev tm x=v)(hy:ev tm y=vi lo)(hw:ev tm z=vi hi)(hr:RdS s Z v xs)(hZ:Z.le (Hp.ph H))(hz:s.sz=sz)(hs:sub xs lo hi=some ys)
 (k:∀w,RdS s Z w ys→R T Q (.dops base m all pr (ri+1) (tr++ [(tm,H)]) l::K) .normal (ub tm t w) H):R T Q (.dops base m all pr ri tr (⟨some t,.slice sz x (some y) (some z),none,sl⟩::l)::K) .normal tm H:=by
 obtain⟨w,h1,h2⟩:=hr.mid hZ hs hz
 exact fF rfl (fX hb hx) (by simp only [aop,Option.map_some,hx,hy,hw,h1]) (k w h2)
theorem jG {x y:Operand}{sz:Nat}{lo:Int}{ys:List α}(hb:BLow base v)(hx:ev tm x=v)(hy:ev tm y=vi lo)(hr:RdS s Z v xs)(hZ:Z.le (Hp.ph H))(hz:s.sz=sz)(hs:sub xs lo xs.length=some ys)
 (k:∀w,RdS s Z w ys→R T Q (.dops base m all pr (ri+1) (tr++ [(tm,H)]) l::K) .normal (ub tm t w) H):R T Q (.dops base m all pr ri tr (⟨some t,.slice sz x (some y) none,none,sl⟩::l)::K) .normal tm H:=by
 obtain⟨w,h1,h2⟩:=hr.mid hZ hs hz
 exact fF rfl (fX hb hx) (by simp only [aop,Option.map_some,Option.map_none,hx,hy];rw [hr.slice_hi hZ _ hz,h1];rfl) (k w h2)
theorem d_slch {x z:Operand}{sz:Nat}{hi:Int}{ys:List α}(hb:BLow base v)(hx:ev tm x=v)(hw:ev tm z=vi hi)(hr:RdS s Z v xs)(hZ:Z.le (Hp.ph H))(hz:s.sz=sz)(hs:sub xs 0 hi=some ys)
 (k:∀w,RdS s Z w ys→R T Q (.dops base m all pr (ri+1) (tr++ [(tm,H)]) l::K) .normal (ub tm t w) H):R T Q (.dops base m all pr ri tr (⟨some t,.slice sz x none (some z),none,sl⟩::l)::K) .normal tm H:=by
 obtain⟨w,h1,h2⟩:=hr.mid hZ hs hz
 exact fF rfl (fX hb hx) (by simp only [aop,Option.map_some,Option.map_none,hx,hw];rw [hr.slice_lo hZ _ hz,h1];rfl) (k w h2)
end
section
variable {α : Type} {s : Sh α} {Z V : PH} {v : Value} {xs : List α} {L : List It}
theorem cw {x y:Operand}{sz:Nat}{j:Int}{u0 u:α}{p w:Value}{cs:List Value}(n:Nat)(hS:Sat Z V H L)(ht:L[n]? =some (It.sl s v xs))(hl:s.Lt)(hz:s.sz=sz)(hx:ev tm x=p)(hy:ev tm y=w)(hp:vidxs sz v (vi j)=some p)(hj:ix xs j=some u0)
 (hc:w.cells.toList=cs) (hr:s.rd Z cs u) (k:∀H1,Sat Z V H1 (L.set n (It.sl s v (Pu.st xs j u)))→Keeps H H1→R T Q (.dops base m all pr (ri+1) (tr++ [(tm,H)]) l::K) .normal tm H1):R T Q (.dops base m all pr ri tr (⟨none,.store sz x y,none,sl⟩::l)::K) .normal tm H:=by
 obtain⟨H1,h1,h2⟩:=hS.set n ht hl hz hj hp hc hr
 have h3:aop (.store sz x y) tm H=some (undef,H1):=by rw [cS,hx,hy,h1];rfl
 exact iQ rfl rfl h3 (k H1 h2 (cB h3))
theorem fD {x y:Operand}{sz bytes:Nat}{q:Value}{ys zs:List α}{s':Sh α}{W:PH}(n:Nat)(hS:Sat Z V H L)(ht:L[n]? =some (It.sl s v xs))(hl:s.Lt)(hz:s.sz=sz)(hz':s'.sz=sz)(hx:ev tm x=v)(hy:ev tm y=q)
 (hq:RdS s' W q ys) (hW:W.le (Hp.ph H)) (hf:∀{cs:List Value} {x:α},s'.rd W cs x→s.rd Z cs x) (hby:0<bytes) (ha:Pu.app bytes xs ys=some zs)
 (k:∀w H1,Sat Z V H1 (L.set n (It.sl s w zs))→Keeps H H1→R T Q (.dops base m all pr (ri+1) (tr++ [(tm,H)]) l::K) .normal (ub tm t w) H1):R T Q (.dops base m all pr ri tr (⟨some t,.append sz bytes x y,none,sl⟩::l)::K) .normal tm H:=by
 obtain⟨w,H1,h1,h2⟩:=hS.app n ht hl hz hz' hq hW hf hby ha
 have h3:aop (.append sz bytes x y) tm H=some (w,H1):=by rw [dG,hx,hy,h1]
 exact dF rfl rfl h3 (k w H1 h2 (cB h3))
theorem eV {Z V:PH}{H:Hp}{L:List It}{k:Nat}{x:Blk}(hx:x≠ .dead)(hd:H[k]? =some .dead)(h:Sat Z V H L):Sat Z V (H.set k x) (pts k x::L):=
 h.new hx (by simp [Hp.ph,hd]) (hX (bo hd)) fun b hb=>bM hb
theorem d_mks {x y:Operand}{sz bytes:Nat}{z:List Value}{n c:Int}{e:α}(hd:H[base+ri]? =some .dead)(hS:Sat Z V H L)(hl:s.Lt)(hz:s.sz=sz)(hx:ev tm x=vi n)(hy:ev tm y=vi c)(he:s.rd Z z e)(hm:Pu.mk bytes n c e=some xs)
 (k:∀w H1,Sat Z V H1 (It.sl s w xs::L)→(∀b,b≠base+ri→H1[b]? =H[b]?)→R T Q (.dops base m all pr (ri+1) (tr++ [(tm,H)]) l::K) .normal (ub tm t w) H1):R T Q (.dops base m all pr ri tr (⟨some t,.mkslice sz bytes z x y,none,sl⟩::l)::K) .normal tm H:=by
 obtain⟨w,b,h1,h2,h3⟩:=hS.mks hl hz he hm
 exact jp rfl (by simp only [anew,hx,hy];exact h1 (base+ri)) (k _ _ (h3 _ _ (eV h2 hd hS)) fun b hb=>bM hb)
theorem fE {sz n:Nat}{z us:List Value}{ps:List (Nat×Nat×Operand)}{qs:List (Nat×Nat×Value)}(hd:H[base+ri]? =some .dead)(hS:Sat Z V H L)(hl:s.Lt)(hz:s.sz=sz)(hx:(ps.map fun p=>(p.1,p.2.1,ev tm p.2.2))=qs)(hb:bfill z qs=some us)(he:Els s Z us xs)(hn:n=xs.length)(hbd:Nat.ble n 281474976710656=true)
 (k:∀w H1,Sat Z V H1 (It.sl s w xs::L)→(∀b,b≠base+ri→H1[b]? =H[b]?)→R T Q (.dops base m all pr (ri+1) (tr++ [(tm,H)]) l::K) .normal (ub tm t w) H1):R T Q (.dops base m all pr ri tr (⟨some t,.bslice sz n z ps,none,sl⟩::l)::K) .normal tm H:=
 jp rfl (by simp only [anew,hx,hb];rfl) (k _ _ ((eV (by simp) hd hS).conv 0 rfl (fa hl he hn (Nat.le_of_ble_eq_true hbd) hz)) fun b hb=>bM hb)
theorem kb {z:List Value}(hd:H[base+ri]? =some .dead)(hS:Sat Z V H L)(k:∀b H1,Sat Z V H1 (pts b (.rw 0 z)::L)→(∀b,b≠base+ri→H1[b]? =H[b]?)→R T Q (.dops base m all pr (ri+1) (tr++ [(tm,H)]) l::K) .normal (ub tm t (.pointer (some ⟨b,0,none⟩))) H1):R T Q (.dops base m all pr ri tr (⟨some t,.alloc z,none,sl⟩::l)::K) .normal tm H:=
 jp rfl (by simp only [anew]) (k _ _ (eV (by simp) hd hS) fun b hb=>bM hb)
theorem d_box {x:Operand}{w:Value}{z:List Value}(hd:H[base+ri]? =some .dead)(hS:Sat Z V H L)(hx:ev tm x=w)(hz:w.cells.toList=z)(k:∀b H1,Sat Z V H1 (pts b (.rw 0 z)::L)→(∀b,b≠base+ri→H1[b]? =H[b]?)→R T Q (.dops base m all pr (ri+1) (tr++ [(tm,H)]) l::K) .normal (ub tm t (.pointer (some ⟨b,0,none⟩))) H1):R T Q (.dops base m all pr ri tr (⟨some t,.box x,none,sl⟩::l)::K) .normal tm H:=
 jp rfl (by simp only [anew,hx,hz]) (k _ _ (eV (by simp) hd hS) fun b hb=>bM hb)
theorem aZ {x:Operand}{b o n z:Nat}{g:Bool}{us:List Value}{w:Value}(hb:b<base)(a:Nat)(hS:Sat Z V H L)(ht:L[a]? =some (pts b (.rw z us)))(hx:ev tm x= .pointer (some ⟨b,o,none⟩))(hm:Nat.ble (o+n) us.length=true)(hw:mkv g ((us.drop o).take n)=some w)
 (k:R T Q (.dops base m all pr (ri+1) (tr++ [(tm,H)]) l::K) .normal (ub tm t w) H):R T Q (.dops base m all pr ri tr (⟨some t,.load n g x,none,sl⟩::l)::K) .normal tm H:=by
 have hc:=hS.curB a ht
 refine fF rfl (by simp [rdOk,rblk,hx,hb]) ?_ k
 rw [cE,hx]
 simp only [vload,Option.isNone_none,if_true,Hp.load,show Hp.cells H b=some us by rw [bC hc];rfl]
 rw [if_pos (Nat.le_of_ble_eq_true hm),Option.bind_some,hw];rfl
theorem bG {b o n z:Nat}{g:Bool}{us:List Value}{w:Value}(a:Nat)(hS:Sat Z V H L)(ht:L[a]? =some (pts b (.rw z us)))(hm:Nat.ble (o+n) us.length=true)(hw:mkv g ((us.drop o).take n)=some w):vload H n g (.pointer (some ⟨b,o,none⟩))=some w:=by
 have hc:=hS.curB a ht
 simp only [vload,Option.isNone_none,if_true,Hp.load,show Hp.cells H b=some us by rw [bC hc];rfl]
 rw [if_pos (Nat.le_of_ble_eq_true hm),Option.bind_some,hw]
theorem eC {x y:Operand}{b o n z:Nat}{us us':List Value}{w:Value}(a:Nat)(hS:Sat Z V H L)(ht:L[a]? =some (pts b (.rw z us)))(hx:ev tm x= .pointer (some ⟨b,o,none⟩))(hy:ev tm y=w)(hm:Nat.ble (o+n) us.length=true)(hs:Nat.beq w.cells.size n=true)
 (h1:w.cells.toList.all Value.oneCell'=true) (hu:splice us o w.cells.toList=us') (k:∀H1,Sat Z V H1 (L.set a (pts b (.rw z us')))→Keeps H H1→R T Q (.dops base m all pr (ri+1) (tr++ [(tm,H)]) l::K) .normal tm H1):R T Q (.dops base m all pr ri tr (⟨none,.store n x y,none,sl⟩::l)::K) .normal tm H:=by
 have hb:=hS.curB a ht
 subst hu
 have h3:aop (.store n x y) tm H=some (undef,H.set b (.rw z (splice us o w.cells.toList))):=by
  rw [cS,hx,hy]
  simp only [hstore,hb]
  rw [if_pos ⟨Nat.eq_of_beq_eq_true hs,h1,Nat.le_of_ble_eq_true hm⟩];rfl
 exact iQ rfl rfl h3 (k _ (hS.wr a ht (by simp) (bo hb) fun F h _ _ q=>⟨⟨_,q⟩,PH.upd_same ..⟩) (cB h3))
end
theorem ai {dst:Option Nat}{o:AOp}{g:Nat}{b x:Bool}(hg:tm g= .bool x)(hx:x=b)(k:R T Q (.dops base m all pr ri tr (⟨dst,o,none,sl⟩::l)::K) .normal tm H):R T Q (.dops base m all pr ri tr (⟨dst,o,some (g,b),sl⟩::l)::K) .normal tm H:=
 (R_dwant (by simp [want,hg,hx])).2 k
theorem aw {o:AOp}{g:Nat}{b x:Bool}(hg:tm g= .bool x)(hx:x= !b)(k:R T Q (.dops base m all pr (ri+1) (tr++ [(tm,H)]) l::K) .normal (ub tm t undef) H):R T Q (.dops base m all pr ri tr (⟨some t,o,some (g,b),sl⟩::l)::K) .normal tm H:=
 js (by rw [want,hg,hx];cases b<;>rfl) (by rw [cu,db];exact k)
theorem iz {o:AOp}{g:Nat}{b:Bool}(hg:tm g=undef)(k:R T Q (.dops base m all pr (ri+1) (tr++ [(tm,H)]) l::K) .normal (ub tm t undef) H):R T Q (.dops base m all pr ri tr (⟨some t,o,some (g,b),sl⟩::l)::K) .normal tm H:=
 js (w_u hg) (by rw [cu,db];exact k)
end Go.Ab
namespace Go.Ab
open Go Go.Pu
section
variable {α : Type} {Z V : PH} {H : Hp} {L : List It} {s : Sh α} {v w : Value} {xs : List (List α)}
theorem Sat.foc (n:Nat)(ht:L[n]? =some (It.sl s.sl v xs))(h:Sat Z V H L){j:Int}{u:List α}(hj:ix xs j=some u){p:Value}(hp:vidxs 1 v (vi j)=some p):
 ∃w,vload H 1 false p=some w∧Sat Z V H (It.sl s w u::L.set n (It.hole s.sl v xs j.toNat [w])):=by
 obtain⟨cs,h1,h2,h3⟩:=h.focus n ht hj rfl hp
 obtain⟨w,rfl⟩:∃w,cs= [w]:=List.length_eq_one_iff.1 h1
 exact⟨w,h2 false,it_sl h3⟩
theorem Sat.unfoc {j:Int}{u:List α}(n:Nat)(ht:L[n]? =some (It.hole s.sl v xs j.toNat [w]))(h:Sat Z V H (It.sl s w u::L)):Sat Z V H (L.set n (It.sl s.sl v (Pu.st xs j u))):=(sl_it h).unfocus n ht
theorem Sat.hst {j:Int}{u0:List α}{cs:List Value}(n:Nat)(ht:L[n]? =some (It.hole s.sl v xs j.toNat cs))(h:Sat Z V H L)(hj:ix xs j=some u0){p:Value}(hp:vidxs 1 v (vi j)=some p)(hw:w.cells= #[w]∧w.oneCell'=true):
 ∃H1,hstore 1 p w H=some H1∧Sat Z V H1 (L.set n (It.hole s.sl v xs j.toNat [w])):=by
 obtain⟨h1,h2,-⟩:=dL hj
 exact h.hset n ht rfl h1 h2 hp (by rw [hw.1]) rfl (by simp [hw.2])
theorem Sat.stH {j:Int}{u0 u:List α}(n:Nat)(ht:L[n]? =some (It.sl s.sl v xs))(h:Sat Z V H (It.sl s w u::L))(hj:ix xs j=some u0){p:Value}(hp:vidxs 1 v (vi j)=some p):
 ∃H1,hstore 1 p w H=some H1∧Sat Z V H1 (L.set n (It.sl s.sl v (Pu.st xs j u))):=by
 have ho:=(h.curS 0 rfl).one
 obtain⟨w0,-,h2⟩:=h.foc (n+1) (by simpa using ht) hj hp
 have h3:=h2.drop 0
 simp only [List.eraseIdx_cons_zero,List.set_cons_succ] at h3
 have hlt:=(List.getElem?_eq_some_iff.1 ht).1
 obtain⟨H1,h4,h5⟩:=Sat.hst (s:=s) (v:=v) (xs:=xs) (j:=j) (cs:=[w0]) (n+1) (by simp [hlt]) h3 hj hp ho
 refine⟨H1,h4,?_⟩
 simp only [List.set_cons_succ,List.set_set] at h5
 have h6:=Sat.unfoc (s:=s) (v:=v) (xs:=xs) (w:=w) (j:=j) (L:=L.set n (It.hole s.sl v xs j.toNat [w])) n (by simp [hlt]) h5
 simpa [List.set_set] using h6
theorem own1 {u:List α}{k:Nat}(h:Sat Z V H (pts k (.rw 1 [w])::It.sl s w u::L)):Sat Z V H (It.sl s.sl (.slice (some ⟨k,0,none⟩) 1 1) [u]::L):=by
 refine h.join.conv 0 (t:=(pts k (.rw 1 [w])).sep (It.sl s w u)) (u:=It.sl s.sl (.slice (some ⟨k,0,none⟩) 1 1) [u]) rfl fun F q hF ⟨q1,q2,a,b,d,e1,e2⟩=>?_
 have hk:q2 k=none:=by
  cases e:q2 k with
  | none=>rfl
  | some z=>exact absurd (d _ _ _ e1 e) id
 refine .inr ⟨k,0,[w],fun i=>if i=0 then q2 else .emp,rfl,a _ _ e1,⟨by simp [Sh.sl],by simp⟩,fun i=>?_,fun i=>?_,fun i i' e=>?_,fun i y hy=>?_⟩
 ·dsimp only;split
  ·exact b
  ·exact PH.emp_le _
 ·dsimp only;split
  ·exact hk
  ·rfl
 ·dsimp only;split
  ·split
   ·omega
   ·exact PH.dis_emp _
  ·exact PH.emp_dis _
 ·cases i with
  | zero=>simp at hy;subst hy;exact⟨w,rfl,e2⟩
  | succ i=>simp at hy
theorem Sat.set2 {j i2:Int}{u:List α}{e0 e:α}{p p2 val:Value}{cs:List Value}{sz:Nat}(n:Nat)(ht:L[n]? =some (It.sl s.sl v xs))(hlt:s.Lt)(hz:s.sz=sz)(hp:vidxs 1 v (vi j)=some p)(hj:ix xs j=some u)(hl:vload H 1 false p=some w)
 (hp2:vidxs sz w (vi i2)=some p2) (hk:ix u i2=some e0) (hc:val.cells.toList=cs) (hr:s.rd Z cs e) (hS:Sat Z V H L):∃H1,hstore sz p2 val H=some H1∧Sat Z V H1 (L.set n (It.sl s.sl v (Pu.st xs j (Pu.st u i2 e)))):=by
 obtain⟨w',h1,h2⟩:=hS.foc n ht hj hp
 rw [hl] at h1;cases h1
 obtain⟨H1,h3,h4⟩:=h2.set 0 rfl hlt hz hk hp2 hc hr
 simp only [List.set_cons_zero] at h4
 have hlt':=(List.getElem?_eq_some_iff.1 ht).1
 have h5:=Sat.unfoc (s:=s) (v:=v) (xs:=xs) (w:=w) (j:=j) (L:=L.set n (It.hole s.sl v xs j.toNat [w])) n (by simp [hlt']) h4
 rw [List.set_set] at h5
 exact⟨H1,h3,h5⟩
theorem Sat.mksH {sz bytes:Nat}(h:Sat Z V H L){n c:Int}(hm:Pu.mk bytes n c ([]:List α)=some xs)(hz:sz=1):
 ∃(v:Nat→Value) (b:Blk),(∀k,hmks sz bytes [.slice none 0 0] (vi n) (vi c) k=some (v k,b))∧b≠ .dead∧∀(k:Nat) (H':Hp),Sat Z V H' (pts k b::L)→Sat Z V H' (It.sl s.sl (v k) xs::L):=by
 subst hz
 unfold Pu.mk at hm
 split at hm
 case isFalse=>cases hm
 rename_i hc
 cases hm
 have he:Els s.sl Z (madeCells [Value.slice none 0 0].toArray (n.toNat*1)).toList (List.replicate n.toNat ([]:List α)):=Els.made (s:=s.sl) (cR RdS.nil) n.toNat
 refine⟨fun k=>.slice (some ⟨k,0,none⟩) n.toNat n.toNat,.rw 1 (madeCells [Value.slice none 0 0].toArray (n.toNat*1)).toList,fun k=>?_,by simp,fun k H' h'=>h'.conv 0 rfl fun F q hF e=>?_⟩
 ·simp only [hmks]
  rw [if_pos ⟨hc.1,hc.2.1,hc.2.2.1,by omega⟩]
 ·refine .inr ⟨k,0,_,fun _=>.emp,by simp,e,⟨by rw [he.1];show 0+_*1≤_;simp [Sh.sl],by simp;omega⟩,fun _=>PH.emp_le _,fun _=>rfl,fun _ _ _=>PH.emp_dis _,fun i y hy=>?_⟩
  have h1:=he.2 i y hy
  obtain⟨w',e1,e2⟩:=h1
  rw [List.getElem?_replicate] at hy
  split at hy
  ·cases hy
   have hlt:i<n.toNat:=by assumption
   have:=hC [Value.slice none 0 0] n.toNat i hlt
   exact⟨.slice none 0 0,this,.inl ⟨rfl,rfl⟩⟩
  ·cases hy
end
section
variable {α : Type} {Z V : PH} {H : Hp} {L : List It} {s : Sh α} {v q : Value} {xs ys zs : List α}
theorem Sat.appH {sz:Nat}(n:Nat)(ht:L[n]? =some (It.sl s v xs))(h:Sat Z V H (It.sl s q ys::L))(hz:s.sz=sz){bytes:Nat}(hby:0<bytes)(ha:Pu.app bytes xs ys=some zs)(hne:ys≠ []):
 ∃v' H1,aappend sz bytes v q H=some (v',H1)∧Sat Z V H1 (L.set n (It.sl s v' zs)):=by
 subst hz
 have hlim:xs.length+ys.length≤281474976710656:=by
  unfold Pu.app at ha
  split at ha
  ·rename_i hb;have:=Nat.le_mul_of_pos_right (xs.length+ys.length) hby;omega
  ·cases ha
 unfold Pu.app at ha
 split at ha
 case isFalse=>cases ha
 rename_i hb
 cases ha
 have hq:=h.curS 0 rfl
 have h0:ys.length≠0:=fun e=>hne (List.eq_nil_of_length_eq_zero e)
 obtain⟨new,hn1,hn2,hn3,hn4⟩:=dB hq (PH.le.refl _) rfl
 have hlt:=(List.getElem?_eq_some_iff.1 ht).1
 have hg:Sat Z V H (L.set n ((It.sl s q ys).sep (It.sl s v xs))):=h.glue n ht fun F h1 h2 k _ a b d e1 e2=>⟨h1,h2,a,b,d,e1,e2⟩
 have hgn:(L.set n ((It.sl s q ys).sep (It.sl s v xs)))[n]? =some ((It.sl s q ys).sep (It.sl s v xs)):=by simp [hlt]
 have hset:∀u,(L.set n ((It.sl s q ys).sep (It.sl s v xs))).set n u=L.set n u:=fun u=>by simp
 have hel:∀{F h1:PH},Z.le F→h1.le (Hp.ph H)→(It.sl s q ys).P F h1→∃hs:Nat→PH,(∀i,(hs i).le h1)∧(∀i j,i≠j→(hs i).dis (hs j))∧∀(i:Nat) (y:α),ys[i]? =some y→s.ow F (hs i) (chk new 0 s.sz i) y:=by
  intro F h1 hF h1H hp
  rcases hp with⟨rfl,rfl⟩|⟨b,o,us,hs,rfl,q2,q3,q4,q5,q6,q7⟩
  ·exact absurd rfl hne
  ·refine⟨hs,q4,q6,fun i y hy=>?_⟩
   have hcs:slcells H s.sz (.slice (some ⟨b,o,none⟩) ys.length ys.length)=some (ys.length,(us.drop o).take (ys.length*s.sz)):=by
    simp only [slcells,Option.isNone_none,if_true,Hp.load,show Hp.cells H b=some us by rw [bC (bQ h1H q2)];rfl,if_pos q3.1,Option.map_some]
   rw [hcs] at hn1;simp only [Option.some.injEq,Prod.mk.injEq,true_and] at hn1
   rw [←hn1,cL us o s.sz i ys.length (List.getElem?_eq_some_iff.1 hy).1]
   exact q7 i y hy
 have hvc:=(h.curS (n+1) (by simpa using ht):RdS s (Hp.ph H) v xs)
 rcases hvc with⟨rfl,rfl⟩|⟨b,o,us,x,rfl,h4,h5,h6,h7,-⟩
 ·refine⟨.slice (some ⟨H.length,0,none⟩) ys.length ys.length,H++ [.rw s.sz new],?_,?_⟩
  ·simp only [aappend,hn1,if_neg h0]
   rw [if_pos ⟨by simpa using hb,hn3⟩]
  ·rw [←hset]
   refine hg.act n hgn fun F k hF hk ⟨k1,k2,a1,a2,d,e1,e2⟩=>?_
   obtain⟨hs,f1,f2,f3⟩:=hel hF (a1.trans hk) e1
   have hkn:∀{g:PH},g.le k→g H.length=none:=fun {g} hg=>by
    cases e:g H.length with
    | none=>rfl
    | some z=>have:=bo (bQ hk (hg _ _ e));omega
   refine⟨k1.upd H.length (.rw s.sz new),.inr ⟨H.length,0,new,hs,by simp,PH.upd_same ..,⟨by simp [hn2],by simp at hlim ⊢;exact hlim⟩,fun i c y e=>?_,fun i=>hkn ((f1 i).trans a1),f2,fun i y hy=>f3 i y (by simpa using hy)⟩,fun c y e=>?_,fun c y e=>?_,fun c y e _=>iD _ _ _ _ e⟩
   ·have:c≠H.length:=fun e'=>by subst e';rw [hkn ((f1 i).trans a1)] at e;cases e
    rw [PH.upd_ne _ _ this];exact f1 i _ _ e
   ·by_cases hc:c=H.length
    ·subst hc;rw [PH.upd_same] at e;cases e;exact an.2 ⟨fM rfl,by simp⟩
    ·rw [PH.upd_ne _ _ hc] at e;exact iD _ _ _ _ (hk _ _ (a1 _ _ e))
   ·by_cases hc:c=H.length
    ·subst hc;right;simp [Hp.ph]
    ·rw [PH.upd_ne _ _ hc] at e;exact .inl ⟨y,a1 _ _ e⟩
 ·have h7:=h7.1
  have hb1:=(an.1 h4).1
  have hblt:=bo hb1
  have hcs:slcells H s.sz (.slice (some ⟨b,o,none⟩) xs.length xs.length)=some (xs.length,(us.drop o).take (xs.length*s.sz)):=by
   simp only [slcells,Option.isNone_none,if_true,Hp.load,show Hp.cells H b=some us by rw [bC hb1];exact h5,if_pos h7,Option.map_some]
  have hlo:((us.drop o).take (xs.length*s.sz)).length=xs.length*s.sz:=by simp;omega
  have hrw:x= .rw s.sz us:=by
   obtain⟨-,-,N,hs,c,d,e,f,g,k,m⟩:=h
   rcases m (n+1) _ (by simpa using ht) with⟨q,-⟩|⟨b',o',us',hs',q1,q2,-⟩
   ·cases q
   ·cases q1
    have:=e (n+1) _ _ q2
    rw [h4] at this;cases this
    simp at h5;rw [h5]
  subst hrw
  refine⟨.slice (some ⟨H.length,0,none⟩) (xs.length+ys.length) (xs.length+ys.length),List.set H b .dead++ [.rw s.sz ((us.drop o).take (xs.length*s.sz)++new)],?_,?_⟩
  ·simp only [aappend,hn1,hb1,hcs,if_neg h0]
   rw [if_pos ⟨trivial,trivial,hb,hn3⟩]
  ·rw [←hset]
   refine hg.act n hgn fun F k hF hk ⟨k1,k2,a1,a2,d,e1,e2⟩=>?_
   obtain⟨hs,f1,f2,f3⟩:=hel hF (a1.trans hk) e1
   rcases e2 with⟨q,-⟩|⟨b',o',us',hs',q1,q2,q3,q4,q5,q6,q7⟩
   ·cases q
   ·simp only [Value.slice.injEq,Option.some.injEq,Addr.mk.injEq,and_true] at q1
    obtain⟨⟨rfl,rfl⟩,-,-⟩:=q1
    have hus:us'=us:=by
     have:=bQ (a2.trans hk) q2
     rw [hb1] at this;cases this;rfl
    subst hus
    have hkn:∀c y,k c=some y→c≠H.length:=fun c y e e'=>by
     have:=bo (bQ hk e);omega
    have hk1b:k1 b=none:=by
     cases e:k1 b with
     | none=>rfl
     | some z=>exact absurd (d _ _ _ e q2) id
    have hdl:∀{g:PH},g.le k→g b=none→g.le ((k.del b).upd H.length (.rw s.sz ((us'.drop o).take (xs.length*s.sz)++new))):=fun {g} hg hgb c z e=>by
     rw [PH.upd_ne _ _ (hkn c z (hg _ _ e))]
     have:c≠b:=fun e'=>by subst e';rw [hgb] at e;cases e
     unfold PH.del;rw [if_neg this];exact hg _ _ e
    have hnH:∀{g:PH},g.le k→g H.length=none:=fun {g} hg=>by
     cases e:g H.length with
     | none=>rfl
     | some z=>exact absurd rfl (hkn _ _ (hg _ _ e))
    refine⟨(k.del b).upd H.length (.rw s.sz ((us'.drop o).take (xs.length*s.sz)++new)),.inr ⟨H.length,0,(us'.drop o).take (xs.length*s.sz)++new,fun i=>if i<xs.length then hs' i else hs (i-xs.length),by simp,PH.upd_same ..,⟨?_,by simpa using hlim⟩,fun i=>?_,fun i=>?_,fun i i' e=>?_,fun i y hy=>?_⟩,fun c y e=>?_,fun c y e=>?_,fun c y e e'=>?_⟩
    ·simp only [List.length_append,hlo,hn2];rw [Nat.add_mul];omega
    ·dsimp only;split
     ·exact hdl ((q4 i).trans a2) (q5 i)
     ·refine hdl ((f1 _).trans a1) ?_
      cases e:hs (i-xs.length) b with
      | none=>rfl
      | some z=>have:=f1 _ _ _ e;rw [hk1b] at this;cases this
    ·dsimp only;split
     ·exact hnH ((q4 i).trans a2)
     ·exact hnH ((f1 _).trans a1)
    ·dsimp only;split
     ·split
      ·exact q6 i i' e
      ·exact(d.le (f1 _) (q4 _)).symm
     ·split
      ·exact d.le (f1 _) (q4 _)
      ·exact f2 _ _ (by omega)
    ·dsimp only
     rw [List.getElem?_append] at hy
     split at hy
     ·rename_i hi
      rw [if_pos hi,ez _ _ 0 s.sz i xs.length hi (by rw [hlo];omega),cL us' o s.sz i xs.length hi]
      exact q7 i y hy
     ·rename_i hi
      rw [if_neg hi,dm _ _ xs.length s.sz i hlo (by omega)]
      exact f3 _ y hy
    ·by_cases hc:c=H.length
     ·subst hc;rw [PH.upd_same] at e;cases e;exact an.2 ⟨fM (by simp),by simp⟩
     ·rw [PH.upd_ne _ _ hc] at e
      unfold PH.del at e
      split at e
      ·cases e
      ·rename_i hcb
       have h1:=an.1 (hk _ _ e)
       have h2:=bo h1.1
       exact an.2 ⟨by rw [cX (by simpa using h2),bM hcb];exact h1.1,h1.2⟩
    ·by_cases hc:c=H.length
     ·subst hc;right;simp [Hp.ph]
     ·rw [PH.upd_ne _ _ hc] at e
      exact .inl ⟨y,PH.del_le _ _ _ _ e⟩
    ·have hcb:c≠b:=fun e''=>by subst e'';rw [a2 _ _ q2] at e';cases e'
     have h1:=an.1 e
     have h2:=bo h1.1
     exact an.2 ⟨by rw [cX (by simpa using h2),bM hcb];exact h1.1,h1.2⟩
end
section
variable {T : FuncId → Option AFunc} {Q : AX → Tm → Hp → Prop} {K : List Fk} {tm : Tm} {H : Hp} {l : List DOp} {sl : List Nat} {t : Nat} {base m ri : Nat} {all : List DOp} {pr : List (Nat × Nat)} {tr : List St}
variable {α : Type} {Z V : PH} {L : List It} {s : Sh α} {v w : Value} {xs : List (List α)}
theorem kj {x y:Operand}{j:Int}{u0 u:List α}{p:Value}(n:Nat)(hS:Sat Z V H (It.sl s w u::L))(ht:L[n]? =some (It.sl s.sl v xs))(hx:ev tm x=p)(hy:ev tm y=w)(hp:vidxs 1 v (vi j)=some p)(hj:ix xs j=some u0)
 (k:∀H1,Sat Z V H1 (L.set n (It.sl s.sl v (Pu.st xs j u)))→R T Q (.ops l::K) .normal tm H1):R T Q (.ops (⟨none,.store 1 x y,none,sl⟩::l)::K) .normal tm H:=by
 obtain⟨H1,h1,h2⟩:=hS.stH n ht hj hp
 have h3:aop (.store 1 x y) tm H=some (undef,H1):=by rw [cS,hx,hy,h1];rfl
 exact gy rfl h3 (k H1 h2)
theorem gH {x y:Operand}{bytes:Nat}{q:Value}{ys zs:List (List α)}(n:Nat)(hS:Sat Z V H (It.sl s.sl q ys::L))(ht:L[n]? =some (It.sl s.sl v xs))(hx:ev tm x=v)(hy:ev tm y=q)(hby:0<bytes)(ha:Pu.app bytes xs ys=some zs)(hne:ys≠ [])
 (k:∀w H1,Sat Z V H1 (L.set n (It.sl s.sl w zs))→R T Q (.ops l::K) .normal (ub tm t w) H1):R T Q (.ops (⟨some t,.append 1 bytes x y,none,sl⟩::l)::K) .normal tm H:=by
 obtain⟨w,H1,h1,h2⟩:=hS.appH (sz:=1) n ht rfl hby ha hne
 have h3:aop (.append 1 bytes x y) tm H=some (w,H1):=by rw [dG,hx,hy,h1]
 exact bW rfl h3 (k w H1 h2)
theorem fT {x:Operand}{j:Int}{u:List α}{p:Value}(hx:ev tm x=p)(hr:RdS s.sl Z v xs)(hZ:Z.le (Hp.ph H))(hp:vidxs 1 v (vi j)=some p)(hj:ix xs j=some u)
 (k:∀w,RdS s Z w u→vload H 1 false p=some w→R T Q (.ops l::K) .normal (ub tm t w) H):R T Q (.ops (⟨some t,.load 1 false x,none,sl⟩::l)::K) .normal tm H:=by
 obtain⟨cs,h1,h2,h3⟩:=hr.at' hZ hj rfl hp
 obtain⟨w,rfl,h4⟩:=h1
 exact bW rfl (by rw [cE,hx,show vload H 1 false p=some w from h3 false];rfl) (k w h4 (h3 false))
theorem o_st2 {x y:Operand}{j i2:Int}{u:List α}{e0 e:α}{p p2 val:Value}{cs:List Value}{sz:Nat}(n:Nat)(hS:Sat Z V H L)(ht:L[n]? =some (It.sl s.sl v xs))(hlt:s.Lt)(hz:s.sz=sz)(hx:ev tm x=p2)(hy:ev tm y=val)(hp:vidxs 1 v (vi j)=some p)(hj:ix xs j=some u)(hl:vload H 1 false p=some w)
 (hp2:vidxs sz w (vi i2)=some p2) (hk:ix u i2=some e0) (hc:val.cells.toList=cs) (hr:s.rd Z cs e) (k:∀H1,Sat Z V H1 (L.set n (It.sl s.sl v (Pu.st xs j (Pu.st u i2 e))))→R T Q (.ops l::K) .normal tm H1):R T Q (.ops (⟨none,.store sz x y,none,sl⟩::l)::K) .normal tm H:=by
 obtain⟨H1,h1,h2⟩:=hS.set2 n ht hlt hz hp hj hl hp2 hk hc hr
 have h3:aop (.store sz x y) tm H=some (undef,H1):=by rw [cS,hx,hy,h1];rfl
 exact gy rfl h3 (k H1 h2)
theorem iN {x:Operand}{j:Int}{u:List α}{p:Value}(hb:BLow base v)(n:Nat)(hS:Sat Z V H L)(ht:L[n]? =some (It.sl s.sl v xs))(hx:ev tm x=p)(hp:vidxs 1 v (vi j)=some p)(hj:ix xs j=some u)
 (k:∀w,Sat Z V H (It.sl s w u::L.set n (It.hole s.sl v xs j.toNat [w]))→R T Q (.dops base m all pr (ri+1) (tr++ [(tm,H)]) l::K) .normal (ub tm t w) H):R T Q (.dops base m all pr ri tr (⟨some t,.load 1 false x,none,sl⟩::l)::K) .normal tm H:=by
 obtain⟨w,h1,h2⟩:=hS.foc n ht hj hp
 exact fF rfl (ji hb hx hp) (by rw [cE,hx,h1];rfl) (k w h2)
theorem gC {x y:Operand}{j jh:Int}{u:List α}{cs:List Value}(n:Nat)(hS:Sat Z V H L)(ht:L[n]? =some (It.hole s.sl v xs jh.toNat cs))(hx:ev tm x=v)(hy:ev tm y=vi j)(hz:s.sl.sz=1)(hj:ix xs j=some u)(k:∀p,vidxs 1 v (vi j)=some p→R T Q (.dops base m all pr (ri+1) (tr++ [(tm,H)]) l::K) .normal (ub tm t p) H):
 R T Q (.dops base m all pr ri tr (⟨some t,.idxs 1 x y,none,sl⟩::l)::K) .normal tm H:=by
 obtain⟨h1,h2,-⟩:=dL hj
 obtain⟨b,o,hv⟩:∃(b o:Nat),v= .slice (some ⟨b,o,none⟩) xs.length xs.length:=by
  obtain⟨-,-,N,hs,c,d,e,f,g,k,m⟩:=hS
  obtain⟨b,o,us,hs',q1,-⟩:=m n _ ht
  exact⟨b,o,q1⟩
 have hp:vidxs 1 v (vi j)=some (.pointer (some ⟨b,o+j.toNat*1,none⟩)):=by rw [hv,cz,if_pos ⟨h1,h2⟩]
 exact dF rfl rfl (by rw [iy,hx,hy,hp];rfl) (k _ hp)
theorem jC {x y:Operand}{j:Int}{u0:List α}{cs:List Value}{p:Value}(n:Nat)(hS:Sat Z V H L)(ht:L[n]? =some (It.hole s.sl v xs j.toNat cs))(hx:ev tm x=p)(hy:ev tm y=w)(hp:vidxs 1 v (vi j)=some p)(hj:ix xs j=some u0)(hw:w.cells= #[w]∧w.oneCell'=true)
 (k:∀H1,Sat Z V H1 (L.set n (It.hole s.sl v xs j.toNat [w]))→Keeps H H1→R T Q (.dops base m all pr (ri+1) (tr++ [(tm,H)]) l::K) .normal tm H1):R T Q (.dops base m all pr ri tr (⟨none,.store 1 x y,none,sl⟩::l)::K) .normal tm H:=by
 obtain⟨H1,h1,h2⟩:=hS.hst n ht hj hp hw
 have h3:aop (.store 1 x y) tm H=some (undef,H1):=by rw [cS,hx,hy,h1];rfl
 exact iQ rfl rfl h3 (k H1 h2 (cB h3))
theorem jz {x y:Operand}{bytes:Nat}{q:Value}{ys zs:List (List α)}(n:Nat)(hS:Sat Z V H (It.sl s.sl q ys::L))(ht:L[n]? =some (It.sl s.sl v xs))(hx:ev tm x=v)(hy:ev tm y=q)(hby:0<bytes)(ha:Pu.app bytes xs ys=some zs)(hne:ys≠ [])
 (k:∀w H1,Sat Z V H1 (L.set n (It.sl s.sl w zs))→Keeps H H1→R T Q (.dops base m all pr (ri+1) (tr++ [(tm,H)]) l::K) .normal (ub tm t w) H1):R T Q (.dops base m all pr ri tr (⟨some t,.append 1 bytes x y,none,sl⟩::l)::K) .normal tm H:=by
 obtain⟨w,H1,h1,h2⟩:=hS.appH (sz:=1) n ht rfl hby ha hne
 have h3:aop (.append 1 bytes x y) tm H=some (w,H1):=by rw [dG,hx,hy,h1]
 exact dF rfl rfl h3 (k w H1 h2 (cB h3))
theorem dt {x:Operand}{j:Int}{u:List α}{p:Value}(hb:BLow base v)(hx:ev tm x=p)(hr:RdS s.sl Z v xs)(hZ:Z.le (Hp.ph H))(hp:vidxs 1 v (vi j)=some p)(hj:ix xs j=some u)
 (k:∀w,RdS s Z w u→vload H 1 false p=some w→R T Q (.dops base m all pr (ri+1) (tr++ [(tm,H)]) l::K) .normal (ub tm t w) H):R T Q (.dops base m all pr ri tr (⟨some t,.load 1 false x,none,sl⟩::l)::K) .normal tm H:=by
 obtain⟨cs,h1,h2,h3⟩:=hr.at' hZ hj rfl hp
 obtain⟨w,rfl,h4⟩:=h1
 exact fF rfl (ji hb hx hp) (by rw [cE,hx,show vload H 1 false p=some w from h3 false];rfl) (k w h4 (h3 false))
theorem kf {x y:Operand}{j i2:Int}{u:List α}{e0 e:α}{p p2 val:Value}{cs:List Value}{sz:Nat}(n:Nat)(hS:Sat Z V H L)(ht:L[n]? =some (It.sl s.sl v xs))(hlt:s.Lt)(hz:s.sz=sz)(hx:ev tm x=p2)(hy:ev tm y=val)(hp:vidxs 1 v (vi j)=some p)(hj:ix xs j=some u)(hl:vload H 1 false p=some w)
 (hp2:vidxs sz w (vi i2)=some p2) (hk:ix u i2=some e0) (hc:val.cells.toList=cs) (hr:s.rd Z cs e) (k:∀H1,Sat Z V H1 (L.set n (It.sl s.sl v (Pu.st xs j (Pu.st u i2 e))))→Keeps H H1→R T Q (.dops base m all pr (ri+1) (tr++ [(tm,H)]) l::K) .normal tm H1):R T Q (.dops base m all pr ri tr (⟨none,.store sz x y,none,sl⟩::l)::K) .normal tm H:=by
 obtain⟨H1,h1,h2⟩:=hS.set2 n ht hlt hz hp hj hl hp2 hk hc hr
 have h3:aop (.store sz x y) tm H=some (undef,H1):=by rw [cS,hx,hy,h1];rfl
 exact iQ rfl rfl h3 (k H1 h2 (cB h3))
section
variable {β : Type} {s' : Sh β} {v' : Value} {zs : List β}
end
theorem dH {x:Operand}{sz off:Nat}{j:Int}{v p:Value}(hx:ev tm x=p)(hp:vidxs sz v (vi j)=some p)(k:∀p',vfaddr off p=some p'→R T Q (.dops base m all pr (ri+1) (tr++ [(tm,H)]) l::K) .normal (ub tm t p') H):R T Q (.dops base m all pr ri tr (⟨some t,.faddr off x,none,sl⟩::l)::K) .normal tm H:=by
 obtain⟨p',h⟩:=iX (off:=off) hp
 exact dF rfl rfl (by rw [iG,hx,h];rfl) (k p' h)
theorem rd_okF {x:Operand}{j:Int}{sz n off:Nat}{g:Bool}{v p p':Value}(hb:BLow base v)(hx:ev tm x=p')(hp:vidxs sz v (vi j)=some p)(hf:vfaddr off p=some p'):rdOk base m ⟨some t,.load n g x,none,sl⟩ tm=true:=by
 unfold rdOk rblk
 simp only [hx]
 unfold vidxs at hp
 split at hp
 ·split at hp
  ·cases hp
   simp only [vfaddr,Option.some.injEq] at hf
   subst hf
   rename_i a n' c k j' _ _
   have:=hb a n' c rfl
   simp [this]
  ·cases hp
 ·cases hp
theorem fj {β:Type}{s:Sh β}{v:Value}{xs:List β}{x:Operand}{j:Int}{u:β}{sz off n:Nat}{p p':Value}{g:Bool}(hb:BLow base v)(hx:ev tm x=p')(hr:RdS s Z v xs)(hZ:Z.le (Hp.ph H))(hz:s.sz=sz)(hp:vidxs sz v (vi j)=some p)(hf:vfaddr off p=some p')(hj:ix xs j=some u)(ho:Nat.ble (off+n) sz=true)
 (k:∀cs,s.rd Z cs u→∃w,mkv g ((cs.drop off).take n)=some w∧R T Q (.dops base m all pr (ri+1) (tr++ [(tm,H)]) l::K) .normal (ub tm t w) H):R T Q (.dops base m all pr ri tr (⟨some t,.load n g x,none,sl⟩::l)::K) .normal tm H:=by
 obtain⟨cs,h1,h2⟩:=hr.atF hZ hj hz hp (Nat.le_of_ble_eq_true ho) hf
 obtain⟨w,h4,h5⟩:=k cs h1
 exact fF rfl (rd_okF hb hx hp hf) (by rw [cE,hx,h2,h4];rfl) h5
theorem o_mksH {x y:Operand}{bytes:Nat}{n c:Int}(hS:Sat Z V H L)(hx:ev tm x=vi n)(hy:ev tm y=vi c)(hm:Pu.mk bytes n c ([]:List α)=some xs)
 (k:∀w H1,Sat Z V H1 (It.sl s.sl w xs::L)→R T Q (.ops l::K) .normal (ub tm t w) H1):R T Q (.ops (⟨some t,.mkslice 1 bytes [.slice none 0 0] x y,none,sl⟩::l)::K) .normal tm H:=by
 obtain⟨w,b,h1,h2,h3⟩:=Sat.mksH (s:=s) (sz:=1) hS hm rfl
 exact bW rfl (by rw [gc,hx,hy,h1];rfl) (k _ _ (h3 _ _ (hS.new' h2)))
theorem d_mksH {x y:Operand}{bytes:Nat}{n c:Int}(hd:H[base+ri]? =some .dead)(hS:Sat Z V H L)(hx:ev tm x=vi n)(hy:ev tm y=vi c)(hm:Pu.mk bytes n c ([]:List α)=some xs)
 (k:∀w H1,Sat Z V H1 (It.sl s.sl w xs::L)→(∀b,b≠base+ri→H1[b]? =H[b]?)→R T Q (.dops base m all pr (ri+1) (tr++ [(tm,H)]) l::K) .normal (ub tm t w) H1):R T Q (.dops base m all pr ri tr (⟨some t,.mkslice 1 bytes [.slice none 0 0] x y,none,sl⟩::l)::K) .normal tm H:=by
 obtain⟨w,b,h1,h2,h3⟩:=Sat.mksH (s:=s) (sz:=1) hS hm rfl
 exact jp rfl (by simp only [anew,hx,hy];exact h1 (base+ri)) (k _ _ (h3 _ _ (eV h2 hd hS)) fun b hb=>bM hb)
theorem bf1 {z:Value}(hw:w.cells= #[w]):bfill [z] [(0,1,w)]=some [w]:=by simp [bfill,hw,splice]
theorem gI {x:Operand}{z:Value}{u:List α}(hS:Sat Z V H (It.sl s w u::L))(hx:ev tm x=w)(k:∀q H1,Sat Z V H1 (It.sl s.sl q [u]::L)→R T Q (.ops l::K) .normal (ub tm t q) H1):
 R T Q (.ops (⟨some t,.bslice 1 1 [z] [(0,1,x)],none,sl⟩::l)::K) .normal tm H:=by
 have ho:=(hS.curS 0 rfl).one
 exact bW rfl (by rw [fv];simp only [List.map_cons,List.map_nil,hx,hbs,bf1 ho.1];rfl) (k _ _ (own1 (hS.new' (by simp))))
theorem jA {x:Operand}{z:Value}{u:List α}(hd:H[base+ri]? =some .dead)(hS:Sat Z V H (It.sl s w u::L))(hx:ev tm x=w)(k:∀q H1,Sat Z V H1 (It.sl s.sl q [u]::L)→(∀b,b≠base+ri→H1[b]? =H[b]?)→R T Q (.dops base m all pr (ri+1) (tr++ [(tm,H)]) l::K) .normal (ub tm t q) H1):
 R T Q (.dops base m all pr ri tr (⟨some t,.bslice 1 1 [z] [(0,1,x)],none,sl⟩::l)::K) .normal tm H:=by
 have ho:=(hS.curS 0 rfl).one
 exact jp rfl (by simp only [anew,List.map_cons,List.map_nil,hx,bf1 ho.1];rfl) (k _ _ (own1 (eV (by simp) hd hS)) fun b hb=>bM hb)
end
end Go.Ab
namespace Go.Ab
open Go Go.Pu
section
variable {T : FuncId → Option AFunc} {Q : AX → Tm → Hp → Prop} {K : List Fk} {tm : Tm} {H : Hp} {l : List DOp} {sl : List Nat} {t : Nat}
theorem je {x:Operand}{f:FuncId}{xs:List Operand}{P:Value→Hp→Prop}{a0 cs:List Value}{first:Array Value}(hx:ev tm x= .func (.func f) first cs.toArray)(ha:xs.map (ev tm)=a0)(hc:G T f (a0++cs) H P)
 (k:∀v H1,P v H1→R T Q (.ops l::K) .normal (ub tm t v) H1):R T Q (.ops (⟨some t,.callv x xs,none,sl⟩::l)::K) .normal tm H:=
 R_callv hx (by rw [ha]) rfl hc fun v H1 h=>by rw [cu,db];exact k v H1 h
end
section
variable {T : FuncId → Option AFunc} {Q : AX → Tm → Hp → Prop} {K : List Fk} {tm : Tm} {H : Hp} {l : List DOp} {sl : List Nat} {t : Nat} {base m ri : Nat} {all : List DOp} {pr : List (Nat × Nat)} {tr : List St}
end
section
variable {T : FuncId → Option AFunc} {Q : AX → Tm → Hp → Prop} {K : List Fk} {tm : Tm} {H : Hp} {l : List DOp} {sl : List Nat} {t : Nat}
theorem jQ {Z:PH}{x:Operand}{b o m z:Nat}{g:Bool}{us:List Value}{w:Value}(hb:Z b=some (.rw z us))(hZ:Z.le (Hp.ph H))(hx:ev tm x= .pointer (some ⟨b,o,none⟩))(hm:Nat.ble (o+m) us.length=true)(hw:mkv g ((us.drop o).take m)=some w)
 (k:R T Q (.ops l::K) .normal (ub tm t w) H):R T Q (.ops (⟨some t,.load m g x,none,sl⟩::l)::K) .normal tm H:=by
 refine bW rfl ?_ k
 rw [cE,hx]
 simp only [vload,Option.isNone_none,if_true,Hp.load,show Hp.cells H b=some us by rw [bC (bQ hZ hb)];rfl]
 rw [if_pos (Nat.le_of_ble_eq_true hm),Option.bind_some,hw];rfl
theorem RdS.redo {α:Type}{s:Sh α}{W:PH}{v p w:Value}{xs:List (List α)}{j:Int}{u:List α}(h:RdS s.sl W v xs)(hW:W.le (Hp.ph H))(hp:vidxs 1 v (vi j)=some p)(hj:ix xs j=some u)(hl:vload H 1 false p=some w):
 RdS s W w u∧∀H':Hp,W.le (Hp.ph H')→vload H' 1 false p=some w:=by
 obtain⟨cs,⟨w',rfl,h1⟩,h2⟩:=fc h hj rfl hp
 have h3:vload H 1 false p=mkv false [w']:=h2 H false hW
 rw [hl] at h3
 obtain rfl:w=w':=by simpa [mkv] using h3
 exact⟨h1,fun H' h=>(h2 H' false h).trans rfl⟩
end
section
variable {T : FuncId → Option AFunc} {Q : AX → Tm → Hp → Prop} {K : List Fk} {tm : Tm} {H : Hp} {l : List DOp} {sl : List Nat} {t : Nat} {base m ri : Nat} {all : List DOp} {pr : List (Nat × Nat)} {tr : List St}
end
section
variable {H : Hp} {Z : PH}
theorem aH {kd:IntKind}{v p:Value}{xs:List Int}{j u:Int}(hr:RdS (Sh.ik kd) Z v xs)(hZ:Z.le (Hp.ph H))(hp:vidxs 1 v (vi j)=some p)(hj:ix xs j=some u):vload H 1 false p=some (.int kd u):=by
 obtain⟨cs,h1,h2⟩:=fc hr hj rfl hp
 cases h1;exact(h2 H false hZ).trans rfl
theorem gS {v p:Value}{xs:List Bool}{j:Int}{u:Bool}(hr:RdS Sh.bool Z v xs)(hZ:Z.le (Hp.ph H))(hp:vidxs 1 v (vi j)=some p)(hj:ix xs j=some u):vload H 1 false p=some (.bool u):=by
 obtain⟨cs,h1,h2⟩:=fc hr hj rfl hp
 cases h1;exact(h2 H false hZ).trans rfl
theorem iw {α:Type}{s:Sh α}{w:Value}{u:List α}(h:RdS s Z w u):vsame w w=true:=by
 obtain⟨a,rfl⟩:=h.val
 simp [vsame,vsame1]
end
section
variable {α : Type}
def Resl (s:Sh α)(v:Value)(xs:List α)(w:Value)(ys:List α):Prop:=(∀F h:PH,OwS s F h v xs→OwS s F h w ys)∧∀W:PH,RdS s W v xs→RdS s W w ys
theorem RdS.nbl {s:Sh α}{Z:PH}{xs:List α}{H:Hp}{b o:Nat}(h:RdS s Z (.slice (some ⟨b,o,none⟩) xs.length xs.length) xs)(hZ:Z.le (Hp.ph H)):H.blind ⟨b,o,none⟩ (xs.length*s.sz)=false:=by
 rcases h with⟨h,-⟩|⟨b',o',us,x,h,h4,h5,-,h7,-⟩
 ·cases h
 ·cases h
  have hc:Hp.cells H b=some us:=by rw [bC (an.1 (hZ _ _ h4)).1];exact h5
  unfold Hp.blind;simp only [hc];have:=h7.1;simp;omega
theorem gP {s:Sh α}{v w:Value}{xs ys:List α}{H:Hp}{lo hi:Int}{Z:PH}(hr:RdS s Z v xs)(hZ:Z.le (Hp.ph H))(hs:sub xs lo hi=some ys)(ha:aslice H s.sz v (some (vi lo)) (some (vi hi))=some w):Resl s v xs w ys:=by
 refine⟨fun F h q=>?_,fun W q=>?_⟩
 ·unfold sub at hs
  split at hs
  case isFalse=>cases hs
  rename_i hb
  cases hs
  obtain⟨a,rfl⟩:=Int.eq_ofNat_of_zero_le hb.1
  obtain⟨c,rfl⟩:=Int.eq_ofNat_of_zero_le (Int.le_trans hb.1 hb.2.1)
  have hac:a≤c:=by omega
  have hcx:c≤xs.length:=by omega
  simp only [Int.toNat_natCast]
  rcases q with⟨rfl,rfl⟩|⟨b,o,us,hh,rfl,h2,h3,h4,h5,h6,h7⟩
  ·simp at hcx;subst hcx
   obtain rfl:a=0:=by omega
   have:aslice H s.sz (.slice none 0 0) (some (vi (0:Nat))) (some (vi (0:Nat)))=some (.slice none 0 0):=rfl
   rw [this] at ha;cases ha
   exact .inl ⟨rfl,by simp⟩
  ·have hw:w= .slice (some ⟨b,o+a*s.sz,none⟩) (c-a) (c-a):=by
    simp only [aslice,asNat,hr.nbl hZ] at ha
    split at ha
    ·simp [hcx,hac] at ha;exact ha.symm
    ·cases ha
   have hl:((xs.take c).drop a).length=c-a:=by simp;omega
   refine .inr ⟨b,o+a*s.sz,us,fun i=>hh (a+i),by rw [hw,hl],h2,?_,fun i=>h4 _,fun i=>h5 _,fun i j e=>h6 _ _ (by omega),fun i y hy=>?_⟩
   ·rw [hl]
    refine⟨?_,by have:=h3.2;omega⟩
    have h7:=h3.1
    have:a*s.sz+(c-a)*s.sz=c*s.sz:=by rw [←Nat.add_mul];congr 1;omega
    have h9:c*s.sz≤xs.length*s.sz:=Nat.mul_le_mul_right _ hcx
    omega
   ·rw [List.getElem?_drop,List.getElem?_take] at hy
    split at hy
    ·have:=h7 (a+i) y hy
     have e:o+a*s.sz+i*s.sz=o+(a+i)*s.sz:=by rw [Nat.add_mul];omega
     unfold chk at this ⊢
     rw [e];exact this
    ·cases hy
 ·unfold sub at hs
  split at hs
  case isFalse=>cases hs
  rename_i hb
  cases hs
  obtain⟨a,rfl⟩:=Int.eq_ofNat_of_zero_le hb.1
  obtain⟨c,rfl⟩:=Int.eq_ofNat_of_zero_le (Int.le_trans hb.1 hb.2.1)
  have hac:a≤c:=by omega
  have hcx:c≤xs.length:=by omega
  simp only [Int.toNat_natCast]
  rcases q with⟨rfl,rfl⟩|⟨b,o,us,x,rfl,h2,h4,h5,h3,h7⟩
  ·simp at hcx;subst hcx
   obtain rfl:a=0:=by omega
   have:aslice H s.sz (.slice none 0 0) (some (vi (0:Nat))) (some (vi (0:Nat)))=some (.slice none 0 0):=rfl
   rw [this] at ha;cases ha
   exact .inl ⟨rfl,by simp⟩
  ·have hw:w= .slice (some ⟨b,o+a*s.sz,none⟩) (c-a) (c-a):=by
    simp only [aslice,asNat,hr.nbl hZ] at ha
    split at ha
    ·simp [hcx,hac] at ha;exact ha.symm
    ·cases ha
   have hl:((xs.take c).drop a).length=c-a:=by simp;omega
   refine .inr ⟨b,o+a*s.sz,us,x,by rw [hw,hl],h2,h4,h5,?_,fun i y hy=>?_⟩
   ·rw [hl]
    refine⟨?_,by have:=h3.2;omega⟩
    have h7:=h3.1
    have:a*s.sz+(c-a)*s.sz=c*s.sz:=by rw [←Nat.add_mul];congr 1;omega
    have h9:c*s.sz≤xs.length*s.sz:=Nat.mul_le_mul_right _ hcx
    omega
   ·rw [List.getElem?_drop,List.getElem?_take] at hy
    split at hy
    ·have:=h7 (a+i) y hy
     have e:o+a*s.sz+i*s.sz=o+(a+i)*s.sz:=by rw [Nat.add_mul];omega
     unfold chk at this ⊢
     rw [e];exact this
    ·cases hy
end
section
variable {α : Type} {s : Sh α} {Z V : PH} {v : Value} {xs : List α} {L : List It} {T : FuncId → Option AFunc} {Q : AX → Tm → Hp → Prop} {K : List Fk} {tm : Tm} {H : Hp} {l : List DOp} {sl : List Nat} {t : Nat}
theorem o_slclX {x y:Operand}{sz:Nat}{lo:Int}{ys:List α}(hx:ev tm x=v)(hy:ev tm y=vi lo)(hr:RdS s Z v xs)(hZ:Z.le (Hp.ph H))(hz:s.sz=sz)(hs:sub xs lo xs.length=some ys)
 (k:∀w,RdS s Z w ys→Resl s v xs w ys→R T Q (.ops l::K) .normal (ub tm t w) H):R T Q (.ops (⟨some t,.slice sz x (some y) none,none,sl⟩::l)::K) .normal tm H:=by
 obtain⟨w,h1,h2⟩:=hr.mid hZ hs hz
 exact bW rfl (by simp only [aop,Option.map_some,Option.map_none,hx,hy];rw [hr.slice_hi hZ _ hz,h1];rfl) (k w h2 (gP hr hZ hs (by rw [hz];exact h1)))
theorem o_slchX {x z:Operand}{sz:Nat}{hi:Int}{ys:List α}(hx:ev tm x=v)(hw:ev tm z=vi hi)(hr:RdS s Z v xs)(hZ:Z.le (Hp.ph H))(hz:s.sz=sz)(hs:sub xs 0 hi=some ys)
 (k:∀w,RdS s Z w ys→Resl s v xs w ys→R T Q (.ops l::K) .normal (ub tm t w) H):R T Q (.ops (⟨some t,.slice sz x none (some z),none,sl⟩::l)::K) .normal tm H:=by
 obtain⟨w,h1,h2⟩:=hr.mid hZ hs hz
 exact bW rfl (by simp only [aop,Option.map_some,Option.map_none,hx,hw];rw [hr.slice_lo hZ _ hz,h1];rfl) (k w h2 (gP hr hZ hs (by rw [hz];exact h1)))
end
section
variable {α : Type} {s : Sh α} {Z V : PH} {v : Value} {xs : List α} {L : List It} {T : FuncId → Option AFunc} {Q : AX → Tm → Hp → Prop} {K : List Fk} {tm : Tm} {H : Hp} {l : List DOp} {sl : List Nat} {t : Nat} {base m ri : Nat} {all : List DOp} {pr : List (Nat × Nat)} {tr : List St}
theorem d_slchX {x z:Operand}{sz:Nat}{hi:Int}{ys:List α}(hb:BLow base v)(hx:ev tm x=v)(hw:ev tm z=vi hi)(hr:RdS s Z v xs)(hZ:Z.le (Hp.ph H))(hz:s.sz=sz)(hs:sub xs 0 hi=some ys)
 (k:∀w,RdS s Z w ys→Resl s v xs w ys→R T Q (.dops base m all pr (ri+1) (tr++ [(tm,H)]) l::K) .normal (ub tm t w) H):R T Q (.dops base m all pr ri tr (⟨some t,.slice sz x none (some z),none,sl⟩::l)::K) .normal tm H:=by
 obtain⟨w,h1,h2⟩:=hr.mid hZ hs hz
 exact fF rfl (fX hb hx) (by simp only [aop,Option.map_some,Option.map_none,hx,hw];rw [hr.slice_lo hZ _ hz,h1];rfl) (k w h2 (gP hr hZ hs (by rw [hz];exact h1)))
end
section
variable {α : Type} {s : Sh α} {Z V : PH} {H : Hp} {L : List It}
theorem eI {v w p:Value}{xs:List (List α)}{j:Int}{u:List α}(n:Nat)(h:Sat Z V H L)(ht:L[n]? =some (It.hole s.sl v xs j.toNat [w]))(hj:ix xs j=some u)(hp:vidxs 1 v (vi j)=some p):vload H 1 false p=some w:=by
 obtain⟨h1,h2,-⟩:=dL hj
 have hlt:j.toNat<xs.length:=by omega
 obtain⟨-,-,N,hs,c,d,e,f,g,k,m⟩:=h
 obtain⟨b,o,us,hs',rfl,q2,q3,q4,q5,q6,q7,-⟩:=m n _ ht
 have hb:=bQ (e n) q2
 have q3':Fits o xs.length 1 us.length:=q3
 rw [cz,if_pos ⟨h1,h2⟩] at hp
 cases hp
 have q7':chk us o 1 j.toNat= [w]:=q7
 simp only [vload,Option.isNone_none,if_true,Hp.load,show Hp.cells H b=some us by rw [bC hb];rfl]
 rw [if_pos (cJ hlt q3'.1)]
 show(some (chk us o 1 j.toNat)).bind (mkv false)=some w
 rw [q7'];rfl
end
end Go.Ab
namespace Go.Pu
def mget {κ ν:Type} [DecidableEq κ](k:κ):List (κ×ν)→Option ν
 | []=>none
 | e::es=>if k=e.1 then some e.2 else mget k es
def mput {κ ν:Type} [DecidableEq κ](k:κ)(v:ν):List (κ×ν)→List (κ×ν)
 | []=>[(k,v)]
 | e::es=>if k=e.1 then(k,v)::es else e::mput k v es
end Go.Pu
namespace Go.Ab
open Go Go.Pu
section
variable {tr : List St} {n : Nat} {s x1 x2 x3 x4 x5 x6 x7 x8 : St}
theorem ta2 (h:tr[n]? =some s):(tr++ [x1]++ [x2])[n]? =some s:=tra (tra h)
theorem ta4 (h:tr[n]? =some s):(tr++ [x1]++ [x2]++ [x3]++ [x4])[n]? =some s:=ta2 (ta2 h)
theorem ta8 (h:tr[n]? =some s):(tr++ [x1]++ [x2]++ [x3]++ [x4]++ [x5]++ [x6]++ [x7]++ [x8])[n]? =some s:=ta4 (ta4 h)
theorem tl2 (h:tr.length=n):(tr++ [x1]++ [x2]).length=n+1+1:=trl (trl h)
theorem tl4 (h:tr.length=n):(tr++ [x1]++ [x2]++ [x3]++ [x4]).length=n+1+1+1+1:=tl2 (tl2 h)
theorem tl8 (h:tr.length=n):(tr++ [x1]++ [x2]++ [x3]++ [x4]++ [x5]++ [x6]++ [x7]++ [x8]).length=n+1+1+1+1+1+1+1+1:=tl4 (tl4 h)
end
section
variable {tr : List St} {n : Nat} {s x1 x2 x3 x4 x5 x6 x7 x8 y1 y2 y3 y4 y5 y6 y7 y8 : St}
theorem ta16 (h:tr[n]? =some s):(tr++ [x1]++ [x2]++ [x3]++ [x4]++ [x5]++ [x6]++ [x7]++ [x8]++ [y1]++ [y2]++ [y3]++ [y4]++ [y5]++ [y6]++ [y7]++ [y8])[n]? =some s:=ta8 (ta8 h)
theorem tl16 (h:tr.length=n):(tr++ [x1]++ [x2]++ [x3]++ [x4]++ [x5]++ [x6]++ [x7]++ [x8]++ [y1]++ [y2]++ [y3]++ [y4]++ [y5]++ [y6]++ [y7]++ [y8]).length=n+16:=tl8 (tl8 h)
end
abbrev vS {α:Type}(a:Option Addr)(xs:List α):Value:=.slice a xs.length xs.length
abbrev pV (b o:Nat):Value:=.pointer (some ⟨b,o,none⟩)
abbrev Is {α:Type}(s:Sh α)(a:Option Addr)(xs:List α):It:=It.sl s (vS a xs) xs
abbrev vN {α:Type}(xs:List α):Value:=vi (xs.length:Int)
abbrev vJ (i:Nat):Value:=vi (i:Int)
abbrev sB:=Sh.sl Sh.bool
abbrev sI1:=Sh.sl Sh.int
abbrev sI2:=Sh.sl sI1
theorem oJ {α:Type}{a b:α}(h:some a=some b):a=b:=Option.some.inj h
theorem sJ {α:Type}{a b:α}(h:some a=some b):b=a:=(Option.some.inj h).symm
theorem oB {α β:Type}{o:Option α}{f:α→Option β}{b:β}(h:(o.bind f)=some b):∃a,o=some a∧f a=some b:=Pu.bind_some h
theorem pR {Z:PH}:Z.le Z:=PH.le.refl Z
structure Mk {κ:Type} [DecidableEq κ](kk:KK)(ke:κ→Value):Prop where
 form:∀k,kform kk (ke k)=true
 eq:∀a b,kbeq (ke a) (ke b)=decide (a=b)
def kE2 (k:Int×Int):Value:=.agg #[vi k.1,vi k.2]
theorem Mk.i:Mk .int vi:=⟨fun _=>rfl,fun a b=>by simp [kbeq,vi,Bool.beq_eq_decide_eq]⟩
theorem Mk.kE2:Mk (.ints 2) kE2:=⟨fun k=>by simp [kform,Ab.kE2,isi64,vi],fun a b=>by
 obtain⟨a1,a2⟩:=a;obtain⟨b1,b2⟩:=b
 simp only [kbeq,Ab.kE2,vi,List.map_cons,List.map_nil,ival]
 rw [Bool.eq_iff_iff];simp⟩
section
variable {κ ν : Type} [DecidableEq κ] {kk : KK} {ke : κ → Value} {ve : ν → Value}
def menc (ke:κ→Value)(ve:ν→Value)(m:List (κ×ν)):List (Value×Value):=m.map fun e=>(ke e.1,ve e.2)
theorem fQ (h:Mk kk ke)(k:κ):∀m:List (κ×ν),Ab.mget (ke k) (menc ke ve m)=(Pu.mget k m).map ve
 | []=>rfl
 | e::m=>by
   have ih:=fQ h k m
   simp only [menc,List.map_cons,Ab.mget,Pu.mget,h.eq,decide_eq_true_eq] at ih ⊢
   split
   ·rfl
   ·exact ih
theorem ii (h:Mk kk ke)(k:κ)(v:ν):∀m:List (κ×ν),Ab.mput (ke k) (ve v) (menc ke ve m)=menc ke ve (Pu.mput k v m)
 | []=>rfl
 | e::m=>by
   have ih:=ii h k v m
   simp only [menc,List.map_cons,Ab.mput,Pu.mput,h.eq,decide_eq_true_eq] at ih ⊢
   split
   ·simp
   ·simp [ih]
theorem fP (h:Mk kk ke)(m:List (κ×ν)):((menc ke ve m).all fun e=>kform kk e.1)=true:=by
 simp [menc,h.form]
end
def It.mp {κ ν:Type}(ke:κ→Value)(ve:ν→Value)(b:Nat)(m:List (κ×ν)):It:=pts b (.mp (menc ke ve m))
section
variable {κ ν : Type} [DecidableEq κ] {kk : KK} {ke : κ → Value} {ve : ν → Value} {m : List (κ × ν)} {b : Nat} {Z V : PH} {H : Hp} {L : List It} {tm : Tm}
theorem a_mlook (h:Mk kk ke)(n:Nat)(hS:Sat Z V H L)(ht:L[n]? =some (It.mp ke ve b m)){x i:Operand}{k:κ}{z:ν}(hx:ev tm x= .map (some b))(hi:ev tm i=ke k):
 aop (.mlook kk (ve z) true x i) tm H=some (.tuple #[ve ((Pu.mget k m).getD z),.bool (Pu.mget k m).isSome],H):=by
 have hb:=hS.curB n ht
 simp only [aop,hx,hi,hb,h.form,fP h,Bool.and_self,if_true,fQ h]
 cases Pu.mget k m<;>rfl
theorem gU (h:Mk kk ke)(n:Nat)(hS:Sat Z V H L)(ht:L[n]? =some (It.mp ke ve b m)){x i:Operand}{k:κ}{z:ν}(hx:ev tm x= .map (some b))(hi:ev tm i=ke k):
 aop (.mlook kk (ve z) false x i) tm H=some (ve ((Pu.mget k m).getD z),H):=by
 have hb:=hS.curB n ht
 simp only [aop,hx,hi,hb,h.form,fP h,Bool.and_self,if_true,fQ h]
 cases Pu.mget k m<;>rfl
theorem a_mset (h:Mk kk ke)(n:Nat)(hS:Sat Z V H L)(ht:L[n]? =some (It.mp ke ve b m)){x i y:Operand}{k:κ}{v:ν}(hx:ev tm x= .map (some b))(hi:ev tm i=ke k)(hy:ev tm y=ve v):
 ∃H1,aop (.mset kk x i y) tm H=some (undef,H1)∧Sat Z V H1 (L.set n (It.mp ke ve b (Pu.mput k v m))):=by
 have hb:=hS.curB n ht
 refine⟨H.set b (.mp (menc ke ve (Pu.mput k v m))),?_,hS.wr n ht (by simp) (bo hb) fun F h _ _ q=>⟨⟨_,q⟩,PH.upd_same ..⟩⟩
 simp only [aop,hx,hi,hy,hb,h.form,fP h,Bool.and_self,if_true,ii h]
end
section
variable {κ ν : Type} {Z V : PH} {L : List It} {T : FuncId → Option AFunc} {Q : AX → Tm → Hp → Prop} {K : List Fk} {tm : Tm} {H : Hp} {l : List DOp} {sl : List Nat} {t : Nat}
theorem dy (ke:κ→Value)(ve:ν→Value)(hS:Sat Z V H L)(k:∀b H1,Sat Z V H1 (It.mp ke ve b []::L)→R T Q (.ops l::K) .normal (ub tm t (.map (some b))) H1):R T Q (.ops (⟨some t,.mkmap,none,sl⟩::l)::K) .normal tm H:=
 bW rfl (by simp only [aop];rfl) (k _ _ (hS.new' (by simp)))
end
section
variable {κ ν : Type} [DecidableEq κ] {kk : KK} {ke : κ → Value} {ve : ν → Value} {m : List (κ × ν)} {b : Nat} {Z V : PH} {L : List It}
 {T:FuncId→Option AFunc} {Q:AX→Tm→Hp→Prop} {K:List Fk} {tm:Tm} {H:Hp} {l:List DOp} {sl:List Nat} {t:Nat}
theorem gK (h:Mk kk ke)(n:Nat)(hS:Sat Z V H L)(ht:L[n]? =some (It.mp ke ve b m)){x i:Operand}{q:κ}{z:ν}{zv iv:Value}(hz:ve z=zv)(hx:ev tm x= .map (some b))(hi:ev tm i=iv)(hq:ke q=iv)
 (k:R T Q (.ops l::K) .normal (ub tm t (.tuple #[ve ((Pu.mget q m).getD z),.bool (Pu.mget q m).isSome])) H):R T Q (.ops (⟨some t,.mlook kk zv true x i,none,sl⟩::l)::K) .normal tm H:=by
 subst hz;subst hq
 exact bW rfl (a_mlook h n hS ht hx hi) k
theorem ck (h:Mk kk ke)(n:Nat)(hS:Sat Z V H L)(ht:L[n]? =some (It.mp ke ve b m)){x i:Operand}{q:κ}{z:ν}{zv iv:Value}(hz:ve z=zv)(hx:ev tm x= .map (some b))(hi:ev tm i=iv)(hq:ke q=iv)
 (k:R T Q (.ops l::K) .normal (ub tm t (ve ((Pu.mget q m).getD z))) H):R T Q (.ops (⟨some t,.mlook kk zv false x i,none,sl⟩::l)::K) .normal tm H:=by
 subst hz;subst hq
 exact bW rfl (gU h n hS ht hx hi) k
theorem dz (h:Mk kk ke)(n:Nat)(hS:Sat Z V H L)(ht:L[n]? =some (It.mp ke ve b m)){x i y:Operand}{q:κ}{v:ν}{iv yv:Value}(hx:ev tm x= .map (some b))(hi:ev tm i=iv)(hq:ke q=iv)(hy:ev tm y=yv)(hv:ve v=yv)
 (k:∀H1,Sat Z V H1 (L.set n (It.mp ke ve b (Pu.mput q v m)))→R T Q (.ops l::K) .normal tm H1):R T Q (.ops (⟨none,.mset kk x i y,none,sl⟩::l)::K) .normal tm H:=by
 subst hq;subst hv
 obtain⟨H1,h1,h2⟩:=a_mset h n hS ht hx hi hy
 exact gy rfl h1 (k H1 h2)
end
section
variable {κ ν : Type} [DecidableEq κ] {kk : KK} {ke : κ → Value} {ve : ν → Value} {m : List (κ × ν)} {b : Nat} {Z V : PH} {L : List It}
 {T:FuncId→Option AFunc} {Q:AX→Tm→Hp→Prop} {K:List Fk} {tm:Tm} {H:Hp} {l:List DOp} {sl:List Nat} {t:Nat} {base md ri:Nat} {all:List DOp} {pr:List (Nat×Nat)} {tr:List St}
theorem eB (h:Mk kk ke)(n:Nat)(hS:Sat Z V H L)(ht:L[n]? =some (It.mp ke ve b m)){x i:Operand}{q:κ}{z:ν}{zv iv:Value}(hz:ve z=zv)(hx:ev tm x= .map (some b))(hi:ev tm i=iv)(hq:ke q=iv)
 (k:R T Q (.dops base md all pr (ri+1) (tr++ [(tm,H)]) l::K) .normal (ub tm t (ve ((Pu.mget q m).getD z))) H):R T Q (.dops base md all pr ri tr (⟨some t,.mlook kk zv false x i,none,sl⟩::l)::K) .normal tm H:=by
 subst hz;subst hq
 exact dF rfl rfl (gU h n hS ht hx hi) k
end
section
variable {α : Type} {s : Sh α} {Z : PH} {v : Value} {xs : List α} {dst : Option Nat} {tm : Tm} {H H' : Hp} {G : Option (Nat × Bool)} {sl : List Nat}
theorem eO {sz:Nat}{lo hi:Option Value}{w w':Value}(hr:RdS s Z v xs)(hZ:Z.le (Hp.ph H))(hZ':Z.le (Hp.ph H'))(hz:s.sz=sz)(h:aslice H sz v lo hi=some w)(h':aslice H' sz v lo hi=some w'):w=w':=by
 subst hz
 rcases hr with⟨rfl,rfl⟩|⟨b,o,us,x,rfl,h4,h5,h6,h7,-⟩
 ·exact Option.some.inj (h.symm.trans h')
 ·have he:∀{K:Hp},Z.le (Hp.ph K)→Hp.esz K b=some s.sz:=fun hK=>by simp only [Hp.esz,bQ hK h4,Option.bind_some];exact h6
  have hb:∀{K:Hp},Z.le (Hp.ph K)→K.blind ⟨b,o,none⟩ (xs.length*s.sz)=false:=fun {K} hK=>by
   have hc:Hp.cells K b=some us:=by rw [bC (an.1 (hK _ _ h4)).1];exact h5
   unfold Hp.blind;simp only [hc];have:=h7.1;simp;omega
  simp only [aslice,he hZ,hb hZ] at h
  simp only [aslice,he hZ',hb hZ'] at h'
  exact Option.some.inj (h.symm.trans h')
theorem jv {o:AOp}{w w':Value}{H1 H2:Hp}(hg:want tm G=true)(h:aop o tm H=some (w,H1))(h':aop o tm H'=some (w',H2))(e:w=w')(hv:vsame w w=true):again ⟨dst,o,G,sl⟩ (tm,H) H'=true:=by
 subst e
 simp only [again,hg,if_true,h,h',hv]
theorem jw {x y z:Operand}{sz:Nat}{lo hi:Int}{ys:List α}(hg:want tm G=true)(hx:ev tm x=v)(hy:ev tm y=vi lo)(hw:ev tm z=vi hi)(hr:RdS s Z v xs)(hZ:Z.le (Hp.ph H))(hZ':Z.le (Hp.ph H'))(hz:s.sz=sz)(hs:sub xs lo hi=some ys):
 again ⟨dst,.slice sz x (some y) (some z),G,sl⟩ (tm,H) H'=true:=by
 obtain⟨w,h1,h2⟩:=hr.mid hZ hs hz
 obtain⟨w',h3,-⟩:=hr.mid hZ' hs hz
 exact jv hg (w:=w) (w':=w') (H1:=H) (H2:=H') (by simp only [aop,Option.map_some,hx,hy,hw,h1]) (by simp only [aop,Option.map_some,hx,hy,hw,h3]) (eO hr hZ hZ' hz h1 h3) (iw h2)
theorem fp {x y:Operand}{sz:Nat}{lo:Int}{ys:List α}(hg:want tm G=true)(hx:ev tm x=v)(hy:ev tm y=vi lo)(hr:RdS s Z v xs)(hZ:Z.le (Hp.ph H))(hZ':Z.le (Hp.ph H'))(hz:s.sz=sz)(hs:sub xs lo xs.length=some ys):
 again ⟨dst,.slice sz x (some y) none,G,sl⟩ (tm,H) H'=true:=by
 obtain⟨w,h1,h2⟩:=hr.mid hZ hs hz
 obtain⟨w',h3,-⟩:=hr.mid hZ' hs hz
 exact jv hg (w:=w) (w':=w') (by simp only [aop,Option.map_some,Option.map_none,hx,hy];rw [hr.slice_hi hZ _ hz,h1];rfl) (by simp only [aop,Option.map_some,Option.map_none,hx,hy];rw [hr.slice_hi hZ' _ hz,h3];rfl) (eO hr hZ hZ' hz h1 h3) (iw h2)
theorem iJ {x z:Operand}{sz:Nat}{hi:Int}{ys:List α}(hg:want tm G=true)(hx:ev tm x=v)(hw:ev tm z=vi hi)(hr:RdS s Z v xs)(hZ:Z.le (Hp.ph H))(hZ':Z.le (Hp.ph H'))(hz:s.sz=sz)(hs:sub xs 0 hi=some ys):
 again ⟨dst,.slice sz x none (some z),G,sl⟩ (tm,H) H'=true:=by
 obtain⟨w,h1,h2⟩:=hr.mid hZ hs hz
 obtain⟨w',h3,-⟩:=hr.mid hZ' hs hz
 exact jv hg (w:=w) (w':=w') (by simp only [aop,Option.map_some,Option.map_none,hx,hw];rw [hr.slice_lo hZ _ hz,h1];rfl) (by simp only [aop,Option.map_some,Option.map_none,hx,hw];rw [hr.slice_lo hZ' _ hz,h3];rfl) (eO hr hZ hZ' hz h1 h3) (iw h2)
end
section
variable {α : Type} {s : Sh α} {v : Value} {xs : List α} {Z V : PH} {H : Hp} {L : List It} {tm : Tm}
theorem splice_at {us cs:List Value}{o k m:Nat}(h:o+cs.length≤us.length)(hk:k+m≤cs.length):((splice us o cs).drop (o+k)).take m=(cs.drop k).take m:=by
 unfold splice
 rw [List.append_assoc,List.drop_append,List.length_take,Nat.min_eq_left (by omega),List.drop_eq_nil_of_le (by simp;omega),List.nil_append,Nat.add_sub_cancel_left,List.drop_append]
 rw [List.take_append_of_le_length (by simp;omega)]
variable {T : FuncId → Option AFunc} {Q : AX → Tm → Hp → Prop} {K : List Fk} {l : List DOp} {sl : List Nat}
variable {base md ri : Nat} {all : List DOp} {pr : List (Nat × Nat)} {tr : List St}
end
end Go.Ab
namespace Go.Pu
open Go
end Go.Pu
namespace Go.Ab
open Go Go.Pu
section
variable {T : FuncId → Option AFunc} {Q : AX → Tm → Hp → Prop} {K : List Fk} {tm : Tm} {H : Hp} {l : List DOp} {sl : List Nat} {t : Nat} {Z V : PH} {L : List It}
variable {base md ri : Nat} {all : List DOp} {pr : List (Nat × Nat)} {tr : List St}
end
end Go.Ab
namespace Go.Pu
end Go.Pu
namespace Go.Ab
open Go Go.Pu
theorem splice_low {us cs:List Value}{o k m:Nat}(h:o≤us.length)(hk:k+m≤o):((splice us o cs).drop k).take m=(us.drop k).take m:=by
 unfold splice
 rw [List.append_assoc,List.drop_append,List.take_append_of_le_length (by simp;omega),List.drop_take,List.take_take,Nat.min_eq_left (by omega)]
section
variable {α : Type} {s : Sh α} {v : Value} {xs : List α} {Z V : PH} {H : Hp} {L : List It} {tm : Tm}
variable {T : FuncId → Option AFunc} {Q : AX → Tm → Hp → Prop} {K : List Fk} {l : List DOp} {sl : List Nat} {t : Nat}
end
end Go.Ab
namespace Go.Ab
open Go Go.Pu
section
variable {α : Type} {s : Sh α} {Z : PH} {v : Value} {xs : List α} {dst : Option Nat} {tm : Tm} {H H' : Hp} {G : Option (Nat × Bool)} {sl : List Nat}
theorem vload_detF (h:RdS s Z v xs){j:Int}{u:α}(hj:ix xs j=some u){sz:Nat}(hz:s.sz=sz){p:Value}(hp:vidxs sz v (vi j)=some p){off n:Nat}(ho:off+n≤sz){p':Value}(hf:vfaddr off p=some p'):
 ∃cs,s.rd Z cs u∧∀(H:Hp) (agg:Bool),Z.le (Hp.ph H)→vload H n agg p'=mkv agg ((cs.drop off).take n):=by
 obtain⟨h1,h2,h3⟩:=dL hj
 subst hz
 rcases h with⟨rfl,rfl⟩|⟨b,o,us,x,rfl,h4,h5,h6,h7,h8⟩
 ·simp at h2;omega
 ·rw [cz,if_pos ⟨h1,h2⟩] at hp
  cases hp
  simp only [iI,Option.some.injEq] at hf
  subst hf
  have hlt:j.toNat<xs.length:=by omega
  refine⟨_,h8 _ u h3,fun H agg hZ=>?_⟩
  have hb:Hp.cells H b=some us:=by rw [bC (bQ hZ h4)];exact h5
  have hat:=cJ hlt h7.1
  simp only [vload,Option.isNone_none,if_true,Hp.load,hb]
  rw [if_pos (by omega),Option.bind_some]
  congr 1
  unfold chk
  rw [List.drop_take,List.take_take,List.drop_drop]
  congr 1
  omega
theorem ju {x:Operand}{n off sz:Nat}{g:Bool}{j:Int}{u:α}{p p':Value}(hg:want tm G=true)(h:RdS s Z v xs)(hj:ix xs j=some u)(hz:s.sz=sz)(hp:vidxs sz v (vi j)=some p)(hf:vfaddr off p=some p')(ho:Nat.ble (off+n) sz=true)(hx:ev tm x=p')(h1:Z.le (Hp.ph H))(h2:Z.le (Hp.ph H'))
 (hv:∀cs,s.rd Z cs u→∃w,mkv g ((cs.drop off).take n)=some w∧vsame w w=true):again ⟨dst,.load n g x,G,sl⟩ (tm,H) H'=true:=by
 obtain⟨cs,h3,h4⟩:=vload_detF h hj hz hp (Nat.le_of_ble_eq_true ho) hf
 obtain⟨w,h5,h6⟩:=hv cs h3
 simp only [again,hg,if_true,cE,hx,h4 H g h1,h4 H' g h2,h5,Option.map_some,h6]
end
end Go.Ab
namespace Go.Ab
open Go Go.Pu
section
variable {α : Type} {s : Sh α} {v w : Value} {xs ys zs : List α} {Z V : PH} {H : Hp} {L : List It} {tm : Tm}
variable {T : FuncId → Option AFunc} {Q : AX → Tm → Hp → Prop} {K : List Fk} {l : List DOp} {sl : List Nat} {t : Nat}
end
end Go.Ab
namespace Go.Pu
open Go
def sidx (s:ByteArray)(j:Int):Option Int:=if 0≤j then(s[j.toNat]?).map fun b=>(b.toNat:Int) else none
end Go.Pu
namespace Go.Ab
open Go Go.Pu
section
variable {T : FuncId → Option AFunc} {Q : AX → Tm → Hp → Prop} {K : List Fk} {tm : Tm} {H : Hp} {l : List DOp} {sl : List Nat} {t : Nat}
theorem o_sidx {x i:Operand}{s:ByteArray}{kd:IntKind}{j u:Int}(hx:ev tm x= .string s)(hi:ev tm i= .int kd j)(hu:sidx s j=some u)(k:R T Q (.ops l::K) .normal (ub tm t (.int .u8 u)) H):
 R T Q (.ops (⟨some t,.idxstr x i,none,sl⟩::l)::K) .normal tm H:=by
 refine bW rfl ?_ k
 unfold sidx at hu
 split at hu
 ·rename_i h
  obtain⟨b,hb,rfl⟩:=Option.map_eq_some_iff.1 hu
  simp only [aop,hx,hi,if_pos h,hb,Option.map_some]
 ·cases hu
end
end Go.Ab
namespace Go.Pu
open Go
end Go.Pu
namespace Go.Ab
open Go Go.Pu
section
variable {κ σ : Type} {ke : κ → Value} {mp : List (κ × Int)} {Z V : PH} {H : Hp} {L : List It} {tm : Tm} {b : Nat}
variable {T : FuncId → Option AFunc} {Q : AX → Tm → Hp → Prop} {K : List Fk} {l : List DOp} {sl : List Nat} {t : Nat}
theorem o_lenm {x:Operand}{ν:Type}{ve:ν→Value}{mq:List (κ×ν)}(n:Nat)(hS:Sat Z V H L)(ht:L[n]? =some (It.mp ke ve b mq))(hx:ev tm x= .map (some b))(k:R T Q (.ops l::K) .normal (ub tm t (vi (mq.length:Int))) H):
 R T Q (.ops (⟨some t,.lenm x,none,sl⟩::l)::K) .normal tm H:=by
 have hb:H[b]? =some (.mp (mq.map fun e=>(ke e.1,ve e.2))):=hS.curB n ht
 refine bW rfl ?_ k
 simp only [aop,hx,hb,List.length_map]
end
end Go.Ab
namespace Go.Pu
open Go
section
variable {α : Type}
def cpn (xs:List α)(i:Int)(ys:List α):Int:=((min ys.length (xs.length-i.toNat):Nat):Int)
def cpy (xs:List α)(i:Int)(ys:List α):List α:=xs.take i.toNat++(ys.take (xs.length-i.toNat)++xs.drop (i.toNat+min ys.length (xs.length-i.toNat)))
theorem cpy_len {xs ys:List α}{i:Int}(h:i.toNat≤xs.length):(cpy xs i ys).length=xs.length:=by
 simp only [cpy,List.length_append,List.length_take,List.length_drop];omega
theorem iM {xs ys:List α}{i j:Nat}(h:i≤xs.length)(hj:j<xs.length):(cpy xs (i:Int) ys)[j]? =if i≤j∧j<i+min ys.length (xs.length-i) then ys[j-i]? else xs[j]? :=by
 unfold cpy
 rw [Int.toNat_natCast]
 have hl:(xs.take i).length=i:=by simp;omega
 by_cases h1:j<i
 ·rw [List.getElem?_append_left (by omega),List.getElem?_take,if_pos h1,if_neg (by omega)]
 ·rw [List.getElem?_append_right (by omega),hl]
  have hm:(ys.take (xs.length-i)).length=min ys.length (xs.length-i):=by simp;omega
  by_cases h2:j-i<min ys.length (xs.length-i)
  ·rw [List.getElem?_append_left (by omega),List.getElem?_take,if_pos (by omega),if_pos (by omega)]
  ·rw [List.getElem?_append_right (by omega),hm,List.getElem?_drop,if_neg (by omega)]
   congr 1;omega
end
end Go.Pu
namespace Go.Ab
open Go Go.Pu
theorem splice_high {us cs:List Value}{o k m:Nat}(h:o+cs.length≤us.length)(hk:o+cs.length≤k):((splice us o cs).drop k).take m=(us.drop k).take m:=by
 unfold splice
 rw [List.drop_append,List.drop_eq_nil_of_le (by simp;omega),List.nil_append,List.drop_drop]
 congr 2
 simp;omega
section
variable {v : Value} {xs ys : List Int} {Z V W : PH} {H : Hp} {L : List It} {tm : Tm}
variable {T : FuncId → Option AFunc} {Q : AX → Tm → Hp → Prop} {K : List Fk} {l : List DOp} {sl : List Nat} {t : Nat}
theorem Sat.cpyI (n:Nat)(ht:L[n]? =some (It.sl Sh.int v xs))(h:Sat Z V H L){i:Int}{w q:Value}(h0:0≤i)(hi:i≤xs.length)
 (ha:(i=0∧w=v)∨aslice H 1 v (some (vi i)) (some (vi xs.length))=some w) (hq:RdS Sh.int W q ys) (hW:W.le (Hp.ph H)) {d x:Operand} (hd:ev tm d=w) (hx:ev tm x=q):
 ∃H1,aop (.copy 1 d x) tm H=some (vi (cpn xs i ys),H1)∧Sat Z V H1 (L.set n (It.sl Sh.int v (Pu.cpy xs i ys))):=by
 obtain⟨i,rfl⟩:=Int.eq_ofNat_of_zero_le h0
 have hi':i≤xs.length:=by omega
 obtain⟨new,hn1,hn2,hn3,hn4⟩:=dB hq hW (sz:=1) rfl
 have hcur:=h.curS n ht
 have hcur2:=hcur
 rcases hcur with⟨rfl,rfl⟩|⟨b,o,us,y,rfl,h4,h5,h6,h7,-⟩
 ·simp at hi';subst hi'
  have hw:w= .slice none 0 0:=by
   rcases ha with⟨-,e⟩|e
   ·exact e
   ·have:aslice H 1 (.slice none 0 0) (some (vi ((0:Nat):Int))) (some (vi ((0:Nat):Int)))=some (.slice none 0 0):=rfl
    simp only [List.length_nil] at e
    rw [this] at e;cases e;rfl
  subst hw
  exact⟨H,by simp only [aop,hd,hx,hn1];simp [Pu.cpn],h.conv n ht fun F k _ q=>by simpa [Pu.cpy] using q⟩
 have hb:=(an.1 h4).1
 have hrw:y= .rw 1 us:=by
  obtain⟨-,-,N,hs,c,d,e,f,g,k,m⟩:=h
  rcases m n _ ht with⟨q,-⟩|⟨b',o',us',hs',q1,q2,-⟩
  ·cases q
  ·cases q1
   have:=e n _ _ q2
   rw [h4] at this;cases this
   simp at h5;rw [h5];rfl
 subst hrw
 have hw:w= .slice (some ⟨b,o+i,none⟩) (xs.length-i) (xs.length-i):=by
  rcases ha with⟨e1,e⟩|e
  ·have:i=0:=by omega
   subst this;exact e
  ·have he:Hp.esz H b=some 1:=by simp [Hp.esz,hb,Blk.esz]
   have hbl:=hcur2.nbl (PH.le.refl _)
   simp only [show Sh.int.sz=1 from rfl] at hbl
   simp only [aslice,asNat,hbl,he] at e
   simp [hi'] at e;exact e.symm
 subst hw
 have hbd:=h7.2
 have h7:o+xs.length*1≤us.length:=h7.1
 have hm:min ys.length (xs.length-i)≤ys.length:=Nat.min_le_left _ _
 have hm2:min ys.length (xs.length-i)≤xs.length-i:=Nat.min_le_right _ _
 have hnt:(new.take (min ys.length (xs.length-i)*1)).length=min ys.length (xs.length-i):=by rw [List.length_take];omega
 have hlc:(Pu.cpy xs (i:Int) ys).length=xs.length:=cpy_len (by simpa using hi')
 by_cases h00:min ys.length (xs.length-i)=0
 ·refine⟨H,by simp only [aop,hd,hx,hn1];rw [if_pos h00];simp [Pu.cpn,h00],h.conv n ht fun F k _ q=>?_⟩
  have:Pu.cpy xs (i:Int) ys=xs:=by
   refine List.ext_getElem? fun j=>?_
   by_cases hj:j<xs.length
   ·rw [iM hi' hj,if_neg (by omega)]
   ·rw [List.getElem?_eq_none (by omega),List.getElem?_eq_none (by omega)]
  rw [this];exact q
 have hfit:(o+i)+(new.take (min ys.length (xs.length-i)*1)).length≤us.length:=by rw [hnt];omega
 refine⟨H.set b (.rw 1 (splice us (o+i) (new.take (min ys.length (xs.length-i)*1)))),?_,?_⟩
 ·simp only [aop,hd,hx,hn1,hb]
  rw [if_neg h00,if_pos ⟨List.all_eq_true.2 fun u hu=>List.all_eq_true.1 hn3 u (List.mem_of_mem_take hu),by omega⟩]
  simp [Pu.cpn]
 ·refine h.wr n ht (by simp) (bo hb) fun F k hF hk q=>?_
  rcases q with⟨q,-⟩|⟨b',o',us',hs',q1,q2,q3,q4,q5,q6,q7⟩
  ·cases q
  ·simp only [Value.slice.injEq,Option.some.injEq,Addr.mk.injEq,and_true] at q1
   obtain⟨⟨rfl,rfl⟩,-,-⟩:=q1
   have hus:us'=us:=by
    have:=bQ hk q2
    rw [hb] at this;cases this;rfl
   subst hus
   refine⟨⟨_,q2⟩,.inr ⟨b,o,splice us' (o+i) (new.take (min ys.length (xs.length-i)*1)),fun _=>.emp,by rw [hlc],PH.upd_same ..,⟨by rw [cm _ _ _ hfit,hlc];exact h7,by rw [hlc];exact hbd⟩,fun j=>PH.emp_le _,fun j=>rfl,fun j j' e=>PH.emp_dis _,fun j y hy=>?_⟩⟩
   have hj:j<xs.length:=by have:=(List.getElem?_eq_some_iff.1 hy).1;omega
   rw [iM hi' hj] at hy
   show chk _ o 1 j= [vi y]
   split at hy
   ·rename_i hc
    have h8:chk new 0 1 (j-i)= [vi y]:=hn4 (j-i) y hy
    unfold chk at h8 ⊢
    have e1:o+j*1=(o+i)+(j-i):=by omega
    rw [e1,splice_at hfit (by rw [hnt];omega),List.drop_take,List.take_take,Nat.min_eq_left (by omega)]
    rw [←h8];congr 2;omega
   ·rename_i hc
    have h8:chk us' o 1 j= [vi y]:=q7 j y hy
    unfold chk at h8 ⊢
    rw [←h8]
    by_cases h9:j<i
    ·rw [splice_low (by omega) (by omega)]
    ·rw [splice_high hfit (by rw [hnt];omega)]
theorem o_cpy {d x:Operand}{q:Value}(n:Nat)(hS:Sat Z V H L)(ht:L[n]? =some (It.sl Sh.int v xs))(hd:ev tm d=v)(hx:ev tm x=q)(hq:RdS Sh.int W q ys)(hW:W.le (Hp.ph H))
 (k:∀H1,Sat Z V H1 (L.set n (It.sl Sh.int v (Pu.cpy xs 0 ys)))→R T Q (.ops l::K) .normal (ub tm t (vi (Pu.cpn xs 0 ys))) H1):R T Q (.ops (⟨some t,.copy 1 d x,none,sl⟩::l)::K) .normal tm H:=by
 obtain⟨H1,h1,h2⟩:=hS.cpyI n ht (i:=0) (Int.le_refl _) (by omega) (.inl ⟨rfl,rfl⟩) hq hW hd hx
 exact bW rfl h1 (k H1 h2)
variable {base m ri : Nat} {all : List DOp} {pr : List (Nat × Nat)} {tr : List St}
theorem d_slclY {xs ys:List Int}{x y:Operand}{lo:Int}(hb:BLow base v)(hx:ev tm x=v)(hy:ev tm y=vi lo)(hr:RdS Sh.int Z v xs)(hZ:Z.le (Hp.ph H))(hs:sub xs lo xs.length=some ys)
 (k:∀w,RdS Sh.int Z w ys→aslice H 1 v (some (vi lo)) (some (vi xs.length))=some w→R T Q (.dops base m all pr (ri+1) (tr++ [(tm,H)]) l::K) .normal (ub tm t w) H):R T Q (.dops base m all pr ri tr (⟨some t,.slice 1 x (some y) none,none,sl⟩::l)::K) .normal tm H:=by
 obtain⟨w,h1,h2⟩:=hr.mid hZ hs (sz:=1) rfl
 exact fF rfl (fX hb hx) (by simp only [aop,Option.map_some,Option.map_none,hx,hy];rw [hr.slice_hi hZ _ (by rfl),h1];rfl) (k w h2 h1)
theorem d_cpyP {d x:Operand}{i:Int}{w q:Value}{zs:List Int}(n:Nat)(hS:Sat Z V H L)(ht:L[n]? =some (It.sl Sh.int v xs))(hs:sub xs i xs.length=some zs)(ha:aslice H 1 v (some (vi i)) (some (vi xs.length))=some w)(hd:ev tm d=w)(hx:ev tm x=q)(hq:RdS Sh.int W q ys)(hW:W.le (Hp.ph H))
 (k:∀H1,Sat Z V H1 (L.set n (It.sl Sh.int v (Pu.cpy xs i ys)))→Keeps H H1→R T Q (.dops base m all pr (ri+1) (tr++ [(tm,H)]) l::K) .normal (ub tm t (vi (Pu.cpn xs i ys))) H1):R T Q (.dops base m all pr ri tr (⟨some t,.copy 1 d x,none,sl⟩::l)::K) .normal tm H:=by
 have hb:0≤i∧i≤xs.length:=by
  unfold sub at hs;split at hs
  ·rename_i q;omega
  ·cases hs
 obtain⟨H1,h1,h2⟩:=hS.cpyI n ht hb.1 hb.2 (.inr ha) hq hW hd hx
 exact dF rfl rfl h1 (k H1 h2 (cB h1))
end
end Go.Ab
namespace Go.Ab
open Go Go.Pu
section
variable {α : Type} {s : Sh α} {v q v' w : Value} {xs : List (List α)} {Z V W : PH} {H H1 : Hp} {L : List It} {tm : Tm}
variable {T : FuncId → Option AFunc} {Q : AX → Tm → Hp → Prop} {K : List Fk} {l : List DOp} {sl : List Nat} {t : Nat}
theorem app_el {bytes:Nat}(hv:RdS s.sl W v xs)(hW:W.le (Hp.ph H))(hq:slcells H 1 q=some (1,[w]))(h:aappend 1 bytes v q H=some (v',H1)):
 ∃p,vidxs 1 v' (vi (xs.length:Int))=some p∧vload H1 1 false p=some w:=by
 obtain⟨old,ho1,ho2,-,-⟩:=dB hv hW (sz:=1) rfl
 unfold aappend at h
 rw [hq] at h
 simp only at h
 rcases hv with⟨rfl,rfl⟩|⟨b,o,us,x,rfl,h4,h5,-,-,-⟩
 ·simp only [Nat.one_ne_zero,if_false] at h
  split at h
  ·cases h
   refine⟨_,by rw [cz,if_pos (by simp)],?_⟩
   simp [vload,Hp.load,Hp.cells,Blk.cells,mkv]
  ·cases h
 ·simp only [Nat.one_ne_zero,if_false,ho1] at h
  split at h
  ·rename_i c1 c2 z0 vs0 n0 old0 e1 e2
   cases e2
   have hl:old.length=xs.length:=by omega
   have key:vload (List.set H b Blk.dead++ [Blk.rw 1 (old++ [w])]) 1 false (.pointer (some ⟨H.length,0+((xs.length:Nat):Int).toNat*1,none⟩))=some w:=by
    have hc:Hp.cells (List.set H b Blk.dead++ [Blk.rw 1 (old++ [w])]) H.length=some (old++ [w]):=by
     unfold Hp.cells
     rw [List.getElem?_append_right (by simp)]
     simp [Blk.cells]
    simp only [vload,Option.isNone_none,if_true,Hp.load,hc]
    rw [if_pos (by simp;omega)]
    simp only [Int.toNat_natCast,Nat.zero_add,Nat.mul_one,Option.bind_some]
    rw [List.drop_append_of_le_length (by omega),List.drop_eq_nil_of_le (by omega)]
    rfl
   split at h
   ·cases h
    exact⟨_,by rw [cz,if_pos (by omega)],key⟩
   ·split at h
    ·cases h
     exact⟨_,by rw [cz,if_pos (by omega)],key⟩
    ·cases h
  ·cases h
theorem o_bslHE {x:Operand}{z:Value}{u:List α}(hS:Sat Z V H (It.sl s w u::L))(hx:ev tm x=w)(k:∀q H1,slcells H1 1 q=some (1,[w])→Sat Z V H1 (It.sl s.sl q [u]::L)→R T Q (.ops l::K) .normal (ub tm t q) H1):
 R T Q (.ops (⟨some t,.bslice 1 1 [z] [(0,1,x)],none,sl⟩::l)::K) .normal tm H:=by
 have ho:=(hS.curS 0 rfl).one
 refine bW rfl (v:=.slice (some ⟨H.length,0,none⟩) 1 1) (H1:=H++ [.rw 1 [w]]) (by rw [fv];simp only [List.map_cons,List.map_nil,hx,hbs,bf1 ho.1];rfl) (k _ _ ?_ (own1 (hS.new' (by simp))))
 have hc:Hp.cells (H++ [Blk.rw 1 [w]]) H.length=some [w]:=by
  unfold Hp.cells
  rw [List.getElem?_append_right (by simp)]
  simp [Blk.cells]
 simp only [slcells,Option.isNone_none,if_true,Hp.load,hc]
 simp
theorem o_appHE {x y:Operand}{bytes:Nat}{q:Value}{u:List α}{zs:List (List α)}(n:Nat)(hq:slcells H 1 q=some (1,[w]))(hS:Sat Z V H (It.sl s.sl q [u]::L))(ht:L[n]? =some (It.sl s.sl v xs))(hx:ev tm x=v)(hy:ev tm y=q)(hby:0<bytes)(ha:Pu.app bytes xs [u]=some zs)
 (k:∀v' H1 p,Sat Z V H1 (L.set n (It.sl s.sl v' zs))→vidxs 1 v' (vi (xs.length:Int))=some p→ix zs (xs.length:Int)=some u→vload H1 1 false p=some w→RdS s (Hp.ph H1) w u→R T Q (.ops l::K) .normal (ub tm t v') H1):R T Q (.ops (⟨some t,.append 1 bytes x y,none,sl⟩::l)::K) .normal tm H:=by
 obtain⟨v',H1,h1,h2⟩:=hS.appH (sz:=1) n ht rfl hby ha (List.cons_ne_nil _ _)
 have h3:aop (.append 1 bytes x y) tm H=some (v',H1):=by rw [dG,hx,hy,h1]
 obtain⟨p,hp,hl⟩:=app_el (hS.curS (n+1) (by simpa using ht)) (PH.le.refl _) hq h1
 have hz:ix zs (xs.length:Int)=some u:=by
  unfold Pu.app at ha
  split at ha
  ·cases ha
   unfold ix
   rw [if_pos (by omega)]
   simp
  ·cases ha
 have hcur:RdS s.sl (Hp.ph H1) v' zs:=h2.curS n (by rw [List.getElem?_set_self (List.getElem?_eq_some_iff.1 ht).1])
 exact bW rfl h3 (k v' H1 p h2 hp hz hl (hcur.redo (PH.le.refl _) hp hz hl).1)
theorem vl_frame {s:Sh α}{v p w:Value}{xs:List (List α)}{j:Int}{b:Nat}{x:Blk}(n m:Nat)(hS:Sat Z V H L)(hn:L[n]? =some (pts b x))(hm:L[m]? =some (It.sl s.sl v xs))(hnm:Nat.beq n m=false)(hp:vidxs 1 v (vi j)=some p)(hl:vload H 1 false p=some w)
 (hf:∀c,c≠b→H1[c]? =H[c]?):vload H1 1 false p=some w:=by
 obtain⟨-,-,N,hs,c,d,e,f,g,k,m'⟩:=hS
 have h1:hs n b=some x:=m' n _ hn
 rcases m' m _ hm with⟨rfl,-⟩|⟨b',o,us,hs',rfl,q2,-⟩
 ·cases hp
 ·have hne:b'≠b:=fun q=>by
   subst q
   exact k n m (fun q=>by subst q;simp at hnm) _ _ _ h1 q2
  rw [cz] at hp
  split at hp
  ·cases hp
   have hc:Hp.cells H1 b'=Hp.cells H b':=by unfold Hp.cells;rw [hf b' hne]
   simp only [vload,Option.isNone_none,if_true,Hp.load,hc] at hl ⊢
   exact hl
  ·cases hp
theorem o_stBE {x y:Operand}{b o m z:Nat}{us us':List Value}{w:Value}(n:Nat)(hS:Sat Z V H L)(ht:L[n]? =some (pts b (.rw z us)))(hx:ev tm x= .pointer (some ⟨b,o,none⟩))(hy:ev tm y=w)(hm:Nat.ble (o+m) us.length=true)(hs:Nat.beq w.cells.size m=true)
 (h1:w.cells.toList.all Value.oneCell'=true) (hu:splice us o w.cells.toList=us') (k:∀H1,(∀c,c≠b→H1[c]? =H[c]?)→Sat Z V H1 (L.set n (pts b (.rw z us')))→R T Q (.ops l::K) .normal tm H1):R T Q (.ops (⟨none,.store m x y,none,sl⟩::l)::K) .normal tm H:=by
 have hb:=hS.curB n ht
 subst hu
 refine gy (H1:=H.set b (.rw z (splice us o w.cells.toList))) (v:=undef) rfl ?_ (k _ (fun c hc=>bM hc) (hS.wr n ht (by simp) (bo hb) fun F h _ _ q=>⟨⟨_,q⟩,PH.upd_same ..⟩))
 rw [cS,hx,hy]
 simp only [hstore,hb]
 rw [if_pos ⟨Nat.eq_of_beq_eq_true hs,h1,Nat.le_of_ble_eq_true hm⟩];rfl
variable {base m ri : Nat} {all : List DOp} {pr : List (Nat × Nat)} {tr : List St}
theorem d_ldh {x:Operand}{j:Int}{u:List α}{p:Value}(hb:BLow base v)(n:Nat)(hS:Sat Z V H L)(ht:L[n]? =some (It.hole s.sl v xs j.toNat [w]))(hx:ev tm x=p)(hp:vidxs 1 v (vi j)=some p)(hj:ix xs j=some u)
 (k:R T Q (.dops base m all pr (ri+1) (tr++ [(tm,H)]) l::K) .normal (ub tm t w) H):R T Q (.dops base m all pr ri tr (⟨some t,.load 1 false x,none,sl⟩::l)::K) .normal tm H:=
 fF rfl (ji hb hx hp) (by rw [cE,hx,eI n hS ht hj hp];rfl) k
end
end Go.Ab
namespace Go.Ab
open Go Go.Pu
def Sh.arr2:Sh (Int×Int):=Sh.flat (fun x=>[.int .i64 x.1,.int .i64 x.2]) 2 (fun _=>rfl) (fun _=>rfl)
section
variable {tm : Tm} {T : FuncId → Option AFunc} {Q : AX → Tm → Hp → Prop} {K : List Fk} {l : List DOp} {sl : List Nat} {t : Nat} {H : Hp}
theorem jO {x y:Operand}{kd:IntKind}{b o o' len sz:Nat}{j:Int}(hx:ev tm x= .pointer (some ⟨b,o,none⟩))(hy:ev tm y= .int kd j)(hj:decide (0≤j∧j<(len:Int))=true)(ho:o+j.toNat*sz=o')
 (k:R T Q (.ops l::K) .normal (ub tm t (.pointer (some ⟨b,o',none⟩))) H):R T Q (.ops (⟨some t,.idxa len sz x y,none,sl⟩::l)::K) .normal tm H:=by
 subst ho
 exact bW rfl (by simp only [aop,hx,hy];rw [if_pos (of_decide_eq_true hj)]) k
variable {base m ri : Nat} {all : List DOp} {pr : List (Nat × Nat)} {tr : List St}
theorem iA {x y:Operand}{kd:IntKind}{b o o' len sz:Nat}{j:Int}(hx:ev tm x= .pointer (some ⟨b,o,none⟩))(hy:ev tm y= .int kd j)(hj:decide (0≤j∧j<(len:Int))=true)(ho:o+j.toNat*sz=o')
 (k:R T Q (.dops base m all pr (ri+1) (tr++ [(tm,H)]) l::K) .normal (ub tm t (.pointer (some ⟨b,o',none⟩))) H):R T Q (.dops base m all pr ri tr (⟨some t,.idxa len sz x y,none,sl⟩::l)::K) .normal tm H:=by
 subst ho
 exact dF rfl rfl (by simp only [aop,hx,hy];rw [if_pos (of_decide_eq_true hj)]) k
end
end Go.Ab
namespace Go.Ab
open Go Go.Pu
end Go.Ab
