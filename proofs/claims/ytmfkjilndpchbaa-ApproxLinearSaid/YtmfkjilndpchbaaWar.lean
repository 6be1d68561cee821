import Derived.Test.YtmfkjilndpchbaaGr1
namespace Go.Pu
open Go
def war2 (a b:Int)(_:Int)(c:Int)(M:List (List Bool)):Option (List (List Bool)):=
 (Pu.ix M b).bind fun x20=>
 (Pu.ix M b).bind fun x21=>
 (Pu.ix x21 c).bind fun x22=>
 (if x22 then
     some true
   else
    (Pu.ix M b).bind fun x23=>
    (Pu.ix x23 a).bind fun x24=>
    (if x24 then
        (Pu.ix M a).bind fun x25=>
        (Pu.ix x25 c).bind fun x26=>
        some x26
      else
       some false).bind fun y11=>
    some y11).bind fun y10=>
 (Pu.ix x20 c).bind fun _=>
 some (Pu.st M b (Pu.st x20 c y10))
def war1 (a:Int)(_:Int)(b:Int)(M:List (List Bool)):Option (List (List Bool)):=
 (Pu.ranO (M.length:Int)).bind fun x19=>
 (Pu.forP (war2 a b) 0 x19 M).bind fun y9=>
 some y9
def war0 (_:Int)(a:Int)(M:List (List Bool)):Option (List (List Bool)):=
 (Pu.ranO (M.length:Int)).bind fun x17=>
 (Pu.forP (war1 a) 0 x17 M).bind fun y8=>
 some y8
def Pth (E:Nat→Nat→Prop):Nat→Nat→Nat→Prop
 | 0,b,c=>E b c
 | m+1,b,c=>Pth E m b c∨(Pth E m b m∧Pth E m m c)
variable {E : Nat → Nat → Prop}
theorem Pth.to {m b:Nat}:Pth E (m+1) b m↔Pth E m b m:=⟨fun h=>by rcases h with h|⟨h,-⟩<;>exact h,.inl⟩
theorem Pth.fro {m c:Nat}:Pth E (m+1) m c↔Pth E m m c:=⟨fun h=>by rcases h with h|⟨-,h⟩<;>exact h,.inl⟩
theorem Pth.of {m b c:Nat}(h:E b c):Pth E m b c:=by
 induction m with
 | zero=>exact h
 | succ m ih=>exact .inl ih
theorem Pth.trans {m:Nat}:∀{b x c:Nat},x<m→Pth E m b x→Pth E m x c→Pth E m b c:=by
 induction m with
 | zero=>intro b x c h;omega
 | succ m ih=>
   intro b x c hx h1 h2
   rcases Nat.lt_succ_iff_lt_or_eq.1 hx with h|rfl
   ·rcases h1 with h1|⟨h1,h3⟩<;>rcases h2 with h2|⟨h2,h4⟩
    ·exact .inl (ih h h1 h2)
    ·exact .inr ⟨ih h h1 h2,h4⟩
    ·exact .inr ⟨h1,ih h h3 h2⟩
    ·exact .inr ⟨h1,h4⟩
   ·exact .inr ⟨Pth.to.1 h1,Pth.fro.1 h2⟩
theorem Pth.tg {m b c:Nat}(h:Pth E m b c):Relation.TransGen E b c:=by
 induction m generalizing b c with
 | zero=>exact .single h
 | succ m ih=>
   rcases h with h|⟨h,k⟩
   ·exact ih h
   ·exact Go.Proofs.Ytmfkjilndpchbaa.Gr.tg_trans (ih h) (ih k)
theorem Pth.iff {m b c:Nat}(hE:∀b c,E b c→b<m∧c<m):Pth E m b c↔Relation.TransGen E b c:=by
 refine⟨Pth.tg,fun h=>?_⟩
 induction h with
 | single w=>exact .of w
 | tail _ w ih=>exact ih.trans (hE _ _ w).1 (.of w)
theorem war2_ok {n:Nat}(hn:n≤1000){M:List (List Bool)}(hM:Dim M n n){a b c:Nat}{i:Int}(ha:a<n)(hb:b<n)(hc:c<n):
 war2 a b i c M=some (st2 M b c (el2 M b c ||(el2 M b a&&el2 M a c))):=by
 unfold war2
 rw [hM.ix (i:=b) (by omega) (by omega),Option.bind_some,Option.bind_some,hM.ix2 (i:=b) (k:=c) (by omega) (by omega) (by omega) (by omega),Option.bind_some]
 cases h:el2 M (b:Int) (c:Int) with
 | true=>rfl
 | false=>
   simp only [Bool.false_eq_true,if_false,Option.bind_some]
   rw [hM.ix2 (i:=b) (k:=a) (by omega) (by omega) (by omega) (by omega),Option.bind_some]
   cases h2:el2 M (b:Int) (a:Int) with
   | true=>
     simp only [if_true]
     rw [hM.ix (i:=a) (by omega) (by omega),Option.bind_some,hM.ix2 (i:=a) (k:=c) (by omega) (by omega) (by omega) (by omega)]
     simp [st2]
   | false=>simp [st2]
theorem war_ok {n:Nat}(hn:n≤1000){M0:List (List Bool)}(hM:Dim M0 n n):
 Ok (forP war0 0 (ran (n:Int)) M0) fun M=>Dim M n n∧∀b c:Nat,b<n→c<n→(el2 M (b:Int) (c:Int)=true↔Relation.TransGen (fun x y:Nat=>x<n∧y<n∧el2 M0 (x:Int) (y:Int)=true) b c):=by
 generalize hE:(fun x y:Nat=>x<n∧y<n∧el2 M0 (x:Int) (y:Int)=true)=E
 have hE1:∀b c,E b c→b<n∧c<n:=by subst hE;intro b c h;exact⟨h.1,h.2.1⟩
 refine aM (fun m M=>Dim M n n∧∀b c:Nat,b<n→c<n→(el2 M (b:Int) (c:Int)=true↔Pth E m b c)) ⟨hM,fun b c hb hc=>by subst hE;simp [Pth,hb,hc]⟩ ?_ ?_
 ·intro m x M hx ⟨h1,h2⟩
  obtain⟨rfl,hm⟩:=ce hx
  have hm':m<n:=by omega
  unfold war0
  rw [h1.1,bN (by omega),Option.bind_some]
  refine Ok.bind (aM (fun(i:Nat) M=>Dim M n n∧∀b c:Nat,b<n→c<n→(el2 M (b:Int) (c:Int)=true↔Pth E (if b<i then m+1 else m) b c)) ⟨h1,fun b c hb hc=>by simpa using h2 b c hb hc⟩ ?_ fun s h=>h) ?_
  ·intro i x M hx ⟨h3,h4⟩
   obtain⟨rfl,hi⟩:=ce hx
   have hi':i<n:=by omega
   unfold war1
   rw [h3.1,bN (by omega),Option.bind_some]
   refine Ok.bind (aM (fun(j:Nat) M=>Dim M n n∧∀b c:Nat,b<n→c<n→(el2 M (b:Int) (c:Int)=true↔Pth E (if b<i∨(b=i∧c<j) then m+1 else m) b c)) ⟨h3,fun b c hb hc=>by simpa using h4 b c hb hc⟩ ?_ fun s h=>h) ?_
   ·intro j x M hx ⟨h5,h6⟩
    obtain⟨rfl,hj⟩:=ce hx
    have hj':j<n:=by omega
    rw [war2_ok hn h5 hm' hi' hj']
    refine .some ⟨h5.st2 (by omega) (by omega),fun b c hb hc=>?_⟩
    rw [h5.el_st2 (by omega) (by omega) (by omega) (by omega) (by omega) (by omega)]
    split
    ·rename_i e
     obtain⟨e1,e2⟩:=e
     obtain rfl:b=i:=by omega
     obtain rfl:c=j:=by omega
     rw [if_pos (by omega),Bool.or_eq_true,Bool.and_eq_true,h6 b c hb hc,h6 b m hb hm',h6 m c hm' hc,if_neg (by omega)]
     have e1:Pth E (if b<b∨b=b∧m<c then m+1 else m) b m↔Pth E m b m:=by
      split
      ·exact Pth.to
      ·exact Iff.rfl
     have e2:Pth E (if m<b∨m=b∧c<c then m+1 else m) m c↔Pth E m m c:=by
      split
      ·exact Pth.fro
      ·exact Iff.rfl
     rw [e1,e2];rfl
    ·rename_i e
     rw [h6 b c hb hc]
     have:(b<i∨b=i∧c<j)↔(b<i∨b=i∧c<j+1):=by omega
     simp only [this]
   ·intro M ⟨h5,h6⟩
    refine .some ⟨h5,fun b c hb hc=>?_⟩
    rw [h6 b c hb hc,ba]
    have:(b<i∨b=i∧c<Int.toNat n)↔b<i+1:=by omega
    simp only [this]
  ·intro M ⟨h3,h4⟩
   refine .some ⟨h3,fun b c hb hc=>?_⟩
   rw [h4 b c hb hc,ba,if_pos (by omega)]
 ·intro M ⟨h1,h2⟩
  refine⟨h1,fun b c hb hc=>?_⟩
  rw [h2 b c hb hc,ba,Int.toNat_natCast,Pth.iff hE1]
end Go.Pu
