import Derived.Test.YtibidnaedddfdaaGreatDCore7
import Derived.StillTail
namespace Go.Proofs.YtibidnaedddfdaaGreat
set_option linter.all false
open Go.RowKit
def qz (o:Oper):Oper:={ o with dst:=none,op:= .move (.const undef),guard:=none}
def Kr (ops:Array Oper):Bool:=(List.range ops.size).all λi=>((ops[i]?).map λo=>o.after.all λe=> !Region.binds .any e||decide (e.on<i)).getD true
def V6 (ops:Array Oper) (n:Nat):Bool:=(List.range ops.size).all λi=>((ops[i]?).map λo=>match o.guard with|some (j,_)=> !Nat.beq j n|none=>true).getD true
def Tn (ops:Array Oper) (n:Nat):Bool:=
 match ops[n]? with
 |some on=>Nat.beq (n+1) ops.size&&Region.sinkB .any ops n&&Region.chainB .any ops n&&Kr ops&&V6 ops n&&Region.lexB .any (ops.setIfInBounds n (qz on))
 |none=>false
section
variable {P:Program}{ops:Array Oper}{C:World→Prop}{n:Nat}{on:Oper}
def Qw (b:ops[n]? =some on) (i:Nat):(ops.setIfInBounds n (qz on))[i]? =if i=n then some (qz on) else ops[i]? :=by
 have a:n<ops.size:=(jM.1 b).1
 rw[jX]
 by_cases h:n=i
 ·subst h;simp [a]
 ·rw[iP h,iP (λe=>h e.symm)]
def PK (b:ops[n]? =some on) (a:Array Bool):Region.ready .any (ops.setIfInBounds n (qz on)) a=Region.ready .any ops a:=by
 unfold Region.ready
 simp only[Array.size_setIfInBounds]
 congr 1
 funext i
 rw[Qw b]
 by_cases h:i=n
 ·subst h;simp [b,qz]
 ·rw[iP h]
def PJ (b:ops[n]? =some on) {j:Nat}(h:j≠n) (a:Array Value):yielded (ops.setIfInBounds n (qz on)) a j=yielded ops a j:=by
 unfold yielded
 rw[Qw b,iP h]
def Jp {p:Nat→Bool}:∀k,p k=false→∃i,i≤k∧p i=false∧∀j,j<i→p j=true:=by
 intro k
 induction k using Nat.strongRecOn with
 |_ k c=>
  intro d
  by_cases h:∃j,j<k∧p j=false
  ·obtain⟨j,a,b⟩:=h
   obtain⟨i,m,g,l⟩:=c j a b
   exact⟨i,by omega,g,l⟩
  ·refine⟨k,jB _,d,λj a=>?_⟩
   cases b:p j with
   |true=>rfl
   |false=>exact absurd ⟨j,a,b⟩ h
def Rr {Q':Exit→Act→World→Prop}(y:ops[n]? =some on) (ac:n+1=ops.size) (hs:Region.sinkB .any ops n=true) (hc:Region.chainB .any ops n=true) (hb:Kr ops=true) (hg:V6 ops n=true):
  ∀(d:Nat) (c:Array Bool) (a:Act) (w:World),HeadInv .any ops n c→C w→
   wpAnyQ P .any (ops.setIfInBounds n (qz on)) C (λa=>∀w,C w→wpList P ops Q' [on] a w) d c a→wpAny P .any ops Q' d c a w:=by
 have z:n<ops.size:=by omega
 have o:∀c,HeadInv .any ops n c→Region.ready .any ops c≠[]:=by
  intro c k h0
  have H:c.getD n true=false:=k.tail n (jB _) z
  obtain⟨i,t,U,B⟩:=Jp (p:=λi=>c.getD i true) n H
  have m:i<ops.size:=by omega
  have D:i∈Region.ready .any ops c:=by
   refine mem_ready.2 ⟨U,ops[i],by simp [m],λe he V=>?_⟩
   have u:=iT.1 hb i (jJ.2 m)
   have F:ops[i]? =some ops[i]:=by simp [m]
   rw[F] at u
   simp only[lA,jO,lB] at u
   have h6:=u e he
   simp only[V,jV,kU,jG] at h6
   have h7:=B e.on h6
   have h8:e.on<c.size:=by rw[k.size];omega
   simp only[kC,lN h8,jO] at h7 ⊢
   exact h7
  rw[h0] at D
  cases D
 intro d
 induction d with
 |zero=>
  intro c a w k _ h
  have t:=h.1
  rw[PK y] at t
  exact absurd t (o c k)
 |succ d ih=>
  intro c a w k hw h
  refine⟨λh0=>absurd h0 (o c k),λi D=>?_⟩
  have W:i∈Region.ready .any (ops.setIfInBounds n (qz on)) c:=by rw[PK y];exact D
  have t:=h.2 i W
  obtain⟨H,oi,x,_⟩:=mem_ready.1 D
  have m:i<ops.size:=(jM.1 x).1
  by_cases I:i=n
  ·subst I
   have X:oi=on:=jH (x.symm.trans y)
   subst X
   have J:∀j,j<i→c.getD j true=true:=by
    intro j A
    cases hl:c.getD j true with
    |true=>rfl
    |false=>exact absurd D (tail_waits hs hc z k _ j rfl A hl i (jB _))
   have l:Region.ready .any ops (c.setIfInBounds i true)=[]:=by
    apply List.eq_nil_iff_forall_not_mem.2
    intro j A
    obtain⟨q,oj,Y,_⟩:=mem_ready.1 A
    have ab:j<ops.size:=(jM.1 Y).1
    have Z:i<c.size:=by rw[k.size];omega
    have ad:j<c.size:=by rw[k.size];omega
    simp only[kC,jX] at q
    by_cases e:i=j
    ·subst e;simp [Z] at q
    ·rw[iP e] at q
     have:=J j (by omega)
     simp only[kC] at this
     rw[this] at q
     cases q
   unfold qOp at t
   rw[Qw y,iR rfl] at t
   simp only at t
   rw[iR (by simp [Region.wanted,qz])] at t
   obtain⟨v,_,U⟩:=t
   have hk:∀w,C w→wpList P ops Q' [oi] a w:=by
    cases d with
    |zero=>exact U.2
    |succ f=>exact U.1 (by rw[PK y];exact l)
   have B:=hk w hw
   unfold wpOp
   simp only[y]
   unfold wpList at B
   have hQ:∀K M,wpList P ops Q' [] K M→wpAny P .any ops Q' d (c.setIfInBounds i true) K M:=by
    intro K M hq
    cases d with
    |zero=>exact⟨l,hq⟩
    |succ f=>exact⟨λ_=>hq,λj A=>by rw[l] at A;cases A⟩
   split
   ·rename_i s
    rw[iR s] at B
    exact B.imp (Oper.wp_mono hQ) id
   ·rename_i s
    rw[iP s] at B
    exact hQ _ _ B
  ·have Q:i<n:=by omega
   have u:=wpOp_of_qOp (Q':=Q') hw (K':=wpAny P .any ops Q' d (c.setIfInBounds i true)) (λK M s h'=>ih _ K M (k.set D Q) s h') t
   unfold wpOp at u ⊢
   rw[Qw y,iP I] at u
   simp only[x] at u ⊢
   have G:Region.wanted oi (yielded (ops.setIfInBounds n (qz on)) a.tmps)=Region.wanted oi (yielded ops a.tmps):=by
    have F:=iT.1 hg i (jJ.2 m)
    rw[x] at F
    simp only[lA,jO] at F
    unfold Region.wanted
    cases aa:oi.guard with
    |none=>rfl
    |some g=>
     obtain⟨j,b⟩:=g
     rw[aa] at F
     simp only[jI] at F
     have A:j≠n:=λe=>by subst e;simp at F
     simp only[PJ y A]
   rw[G] at u
   exact u
def Lk {c:Array Oper}{Q:Act→Prop}(i:∀(j:Nat) (d:Array Value),j<n→yielded c d j=yielded ops d j):
  ∀(l:List Oper) (a:Act),(∀o∈l,∀j b,o.guard=some (j,b)→j<n)→wpQuiet P ops C Q l a→wpQuiet P c C Q l a
 |[],_,_,h=>h
 |o::l,a,k,h=>by
  have s:Region.wanted o (yielded c a.tmps)=Region.wanted o (yielded ops a.tmps):=by
   unfold Region.wanted
   cases m:o.guard with
   |none=>rfl
   |some w=>obtain⟨j,b⟩:=w;simp only;rw[i j _ (k o (by simp) j b m)]
  unfold wpQuiet at h ⊢
  rw[s]
  split
  ·rename_i p
   rw[iR p] at h
   obtain⟨v,t,u⟩:=h
   exact⟨v,t,Lk i l _ (λo q=>k o (by simp [q])) u⟩
  ·rename_i p
   rw[iP p] at h
   exact Lk i l _ (λo q=>k o (by simp [q])) h
def V7 (l:List Oper) (n:Nat):Bool:=l.all λo=>match o.guard with|some (j,_)=>Nat.blt j n|none=>true
def Lj {l:List Oper}{id:Nat}{Q':Exit→Act→World→Prop}{a:Act}{w:World}{D:Option Nat}(v:RD D (.region id l.toArray true)) (H:∀a w,¬Q' .outgrown a w) (n:Nat) (I:P.follows .mixedOrders=true) (m:Tn l.toArray n=true) (x:V7 (l.take n) n=true) (J:C { w with drawn:=w.drawn+1})
  (h:wpQuiet P l.toArray C (λa=>∀w,C w→wpList P l.toArray Q' (l.drop n) a w) (l.take n) a):(Code.region id l.toArray true).wpIn (FF D) 0 P Q' a w:=by
 unfold Tn at m
 split at m
 ·rename_i on y
  simp only[iQ] at m
  obtain⟨⟨⟨⟨⟨K,M⟩,Q⟩,U⟩,V⟩,z⟩:=m
  have p:=iX K
  have F:n+1=l.length:=by simpa using p
  have k:l.drop n=[on]:=by
   have A:l[n]? =some on:=by simpa using y
   have d:n<l.length:=by omega
   rw[mT d,lG (by omega)]
   have:=jE d
   rw[A] at this
   rw[←jH this]
  rw[k] at h
  have q:(l.toArray.setIfInBounds n (qz on)).toList=l.take n++[qz on]:=by
   have d:n<l.length:=by omega
   rw[List.setIfInBounds_toArray,List.set_eq_take_append_cons_drop,iR d,lG (by omega)]
  have W:wpQuiet P (l.toArray.setIfInBounds n (qz on)) C (λa=>∀w,C w→wpList P l.toArray Q' [on] a w) (l.take n++[qz on]) a:=by
   refine Tw n (λa=>∀w,C w→wpList P l.toArray Q' [on] a w) ?_ λa' X=>?_
   ·have e:(l.take n++[qz on]).take n=l.take n:=by
     have:(l.take n).length=n:=by simp;omega
     rw[mE (by omega),lP,Nat.min_self]
    rw[e]
    refine Lk (n:=n) (λj s hj=>PJ y (by omega) s) _ _ (λo Y j b B=>?_) h
    have:=iT.1 x o Y
    rw[B] at this
    have h8:j+1≤n:=by simpa [Nat.blt] using this
    omega
   ·have e:(l.take n++[qz on]).drop n=[qz on]:=by
     have:(l.take n).length=n:=by simp;omega
     rw[List.drop_append_of_le_length (by omega),lG (by omega),kF]
    rw[e]
    unfold wpQuiet
    rw[iR (by simp [Region.wanted,qz])]
    exact⟨undef,λw _=>by unfold Oper.quietAt;simp [execOp,qz,Act.eval,Oper.quietUpon],X⟩
  simp only[Region.lexB,iQ] at z
  refine M3 v H I ?_
  have g:(l.toArray.setIfInBounds n (qz on)).size=l.toArray.size:=by simp
  have c:(l.take n++[qz on]).length=l.toArray.size:=by rw[←q,Array.length_toList,g]
  have u:HeadInv .any l.toArray n (Array.replicate l.toArray.size false):=
   ⟨by simp,λj oj _ G=>(by rw[getD_replicate_false] at G;cases G),λt _ Z=>getD_in (by simpa using Z) (getD_replicate_false _ _)⟩
  have i:=wpAnyQ_lex (P:=P) (C:=C) (md:= .any) z.1 (l.take n++[qz on]) 0 (Array.replicate l.toArray.size false) a (λj=>by rw[←q];simp) (by rw[c,←g];exact z.2) W
  rw[c] at i
  exact Rr y p M Q U V _ _ _ _ u J i
 ·cases m
end
section
variable {P:Program}{ex:List (Nat×AP)}{R N:AP}{cs:List Code}{B:World}{h:BB}{n:FN}{m:SM}{S:Nat→Prop}{L:List HP}
def Po {l:List Oper}{id:Nat}(j:Nat) (c:P.follows .mixedOrders=true) (d:Tn l.toArray j=true) (b:V7 (l.take j) j=true)
  (k:QF P l.toArray (Wd B h) (λa=>∀w,Wd B h w→wpList P l.toArray (Qx ex R (W P ex R cs N)) (l.drop j) a w) (l.take j) n m):WF P ex R (.region id l.toArray true::cs) N B h n m:=
 λa _ g i _ hd=>Lj hd Kb j c d b i.drew (k a g)
def F6 {l:List Oper}{id:Nat}(j:Nat) (g:P.follows .mixedOrders=true) (i:Tn l.toArray j=true) (b:V7 (l.take j) j=true) (c:St S L h)
  (k:QF P l.toArray (Cl B h) (λa=>∀w h',Wd B h' w→St S L h'→Cm S h S h'→wpList P l.toArray (Qx ex R (W P ex R cs N)) (l.drop j) a w) (l.take j) n m):WF P ex R (.region id l.toArray true::cs) N B h n m:=by
 intro a w o p u hd
 refine Lj hd Kb (C:=Cl B h) j g i b ⟨h,p.drew,FW.refl h⟩ ?_
 refine Tw j (λa=>∀w h',Wd B h' w→St S L h'→Cm S h S h'→wpList P l.toArray (Qx ex R (W P ex R cs N)) (l.drop j) a w) (by rw[lP,Nat.min_self];exact k a o) λv q=>?_
 have e:(l.take j).drop j=[]:=by rw[lG];simp;omega
 rw[e]
 exact λs ⟨h',t,d⟩=>q s h' t (d.st c) (d.ext c.1)
def E0 {ops:Array Oper}{C}{Q:Exit→Act→World→Prop}{l:List Oper}(k:∀h',St S L h'→Cm S h S h'→LF P ops Q l B h' n m):QF P ops C (λa=>∀w h',Wd B h' w→St S L h'→Cm S h S h'→wpList P ops Q l a w) [] n m:=
 λa b w h' c s e=>k h' s e a w b c
end
end Go.Proofs.YtibidnaedddfdaaGreat
