import Derived.Test.YtblcgjadhemlbaaGreatWPureAsk
import Derived.Test.YtblcgjadhemlbaaGreatWPureSlope
namespace Go.Proofs.YtblcgjadhemlbaaGreat
set_option linter.all false
open Go.RowKit
def qD (s:A7) (k:Nat):BG:=s.P.getD k default
end Go.Proofs.YtblcgjadhemlbaaGreat
namespace Go.Proofs.YtblcgjadhemlbaaGreat
set_option linter.all false
open Go.RowKit
def kV (N:Nat) (l:BL):Prop:=(0≤l.R∧l.R≤64)∧0≤l.Ab∧l.Ab≤l.R
def iT.pos {N:Nat}{b:AU}{l:BL}(c:iT N b l):kV N l:=by
 by_cases h0:l.B=0
 ·have:=c.gate h0;exact⟨this.2.2.1,this.2.2.2.1⟩
 ·by_cases a:l.B=2
  ·have:=c.pump a;exact⟨⟨by omega,this.2.1.2⟩,this.2.2⟩
  ·have:=c.none_ h0 a;exact⟨by omega,by omega⟩
def aB:Hf BN=some true:=by decide +kernel
end Go.Proofs.YtblcgjadhemlbaaGreat
namespace Go.Proofs.YtblcgjadhemlbaaGreat
set_option linter.all false
open Go.RowKit
def Fw (p q:List Int):List Int:=List.zipWith (· + ·) p q
def JJ (p q:List Int):List Int:=List.zipWith (· - ·) p q
def OY {p q:List Int}{W:Nat}(a:p.length=W) (b:q.length=W):(Fw p q).length=W:=by simp [Fw,a,b]
def Xt {p q:List Int}{W:Nat}(a:p.length=W) (b:q.length=W):(JJ p q).length=W:=by simp [JJ,a,b]
def I1:∀{p q:List Int},p.length=q.length→(Fw p q).sum=p.sum+q.sum
 |[],[],_=>rfl
 |a::p,b::q,c=>by
  have:=I1 (p:=p) (q:=q) (by simpa using c)
  simp only[Fw,List.zipWith_cons_cons,sU] at this ⊢
  omega
def Tl:∀{p q:List Int},p.length=q.length→(JJ p q).sum=p.sum-q.sum
 |[],[],_=>rfl
 |a::p,b::q,c=>by
  have:=Tl (p:=p) (q:=q) (by simpa using c)
  simp only[JJ,List.zipWith_cons_cons,sU] at this ⊢
  omega
structure PX (W:Nat) (p:List Int):Prop where
 len:p.length=W
 nn:∀x∈p,0≤x
 mv:p.sum≤1125899906842624
def IW:∀{p:List Int},(∀x∈p,0≤x)→∀x∈p,x≤p.sum
 |a::p,g,x,b=>by
  have h0:=J5 (l:=p) λy c=>g y (sE _ c)
  have d:=g a (rV ..)
  rw[sU]
  rcases rG.1 b with rfl|b
  ·omega
  ·have:=IW (p:=p) (λy c=>g y (sE _ c)) x b
   omega
def PX.mem {W:Nat}{p:List Int}(b:PX W p) {x:Int}(a:x∈p):0≤x∧x≤1125899906842624:=⟨b.nn x a,Int.le_trans (IW b.nn x a) b.mv⟩
def PX.sum0 {W:Nat}{p:List Int}(a:PX W p):0≤p.sum:=J5 a.nn
def SU {p q:List Int}(d:∀x∈p,0≤x) (g:∀x∈q,0≤x):∀x∈Fw p q,0≤x:=λx j=>by
 obtain⟨i,c⟩:=tL.1 j
 rw[Fw,tT] at c
 split at c
 ·rename_i a b k l
  have:=d a (sC k)
  have:=g b (sC l)
  cases c
  omega
 ·cases c
def PX.add {W:Nat}{p q:List Int}(a:PX W p) (b:PX W q) (c:p.sum+q.sum≤1125899906842624):PX W (Fw p q):=
 ⟨OY a.len b.len,SU a.nn b.nn,by rw[I1 (a.len.trans b.len.symm)];exact c⟩
def PX.zero (W:Nat):PX W (List.replicate W 0):=⟨by simp,λx a=>by rw[(List.mem_replicate.1 a).2];exact rN 0,by simp⟩
def V4 (W:Nat):(List.replicate W (0:Int)).sum=0:=by simp
structure Uv (t p:List Int):Prop where
 len:t.length=p.length
 le:∀(i:Nat) (x y:Int),t[i]? =some x→p[i]? =some y→0≤x∧x≤y
def Uv.sub {W:Nat}{t p:List Int}(z:Uv t p) (j:PX W p):PX W (JJ p t)∧(JJ p t).sum=p.sum-t.sum∧PX W t:=by
 have n:t.length=W:=z.len.trans j.len
 have d:∀x∈t,0≤x:=λx k=>by
  obtain⟨i,c⟩:=tL.1 k
  have l:=(rB.1 c).1
  have m:i<p.length:=by rw[←z.len];exact l
  exact(z.le i x _ c (rC m)).1
 have o:=Tl (p:=p) (q:=t) z.len.symm
 have g:∀x∈JJ p t,0≤x:=λx k=>by
  obtain⟨i,c⟩:=tL.1 k
  rw[JJ,tT] at c
  split at c
  ·rename_i a b s u
   have:=z.le i b a u s
   cases c
   omega
  ·cases c
 have v:=J5 g
 have w:=J5 d
 have y:=j.mv
 exact⟨⟨Xt j.len n,g,by omega⟩,o,n,d,by omega⟩
def W5 {W:Nat}{p t:List Int}(d:p.length=W) (g:t.length=W) (j:∀x∈t,x=0):JJ p t=p:=by
 apply sK
 intro i
 rw[JJ,tT]
 rcases rL i W with b|b
 ·have c:i<p.length:=by omega
  have a:i<t.length:=by omega
  rw[rC c,rC a]
  have:=j _ (rH a)
  simp [this]
 ·rw[rU (show p.length≤i by omega)]
def Ti:∀{t:List Int},(∀x∈t,0≤x)→t.sum≤0→∀x∈t,x=0:=λ{t} g b x a=>by
 have c:=IW g x a
 have d:=g x a
 omega
def Tp {N:Nat}(j:1000000<N) {p:List Int}(l:p.length≤1000) (h0:∀x∈p,0≤x) (m:p.sum≤2305843009213693952):Ef N p=some p.sum:=by
 unfold Ef
 obtain⟨s,⟨b,c⟩,e⟩:=Ee p.length (λn i s=>Gt N p (IJ N) n s i) (IJ N) (λk s=>s=(p.take k).sum∧0≤s) (λn k s a=>by
  simp only[Gt];rw[E4 a];rfl) (λn k s d a=>by
  obtain⟨b,c⟩:=d
  have g:=IP h0 (k+1)
  have o:=IP h0 k
  have q:=h0 _ (rH a)
  rw[I2 a] at g
  simp only[Gt]
  rw[En a,qO,BR a,qN,PU N (by omega) (by omega) (by omega) (by omega),qN,BT (by omega)]
  exact⟨_,⟨by rw[I2 a,b],by omega⟩,rfl⟩) N 0 0 ⟨rfl,rN _⟩ (by omega) (qW _)
 rw[rY] at b
 subst b
 exact e
def aJ {N:Nat}(y:1000000<N) {p q:List Int}(t:p.length≤1000) (z:q.length=p.length) (u:∀x∈p, -2305843009213693952≤x∧x≤2305843009213693952) (v:∀x∈q, -2305843009213693952≤x∧x≤2305843009213693952):G2 N p q=some (Fw p q):=by
 unfold G2
 have w:max (p.length:Int) (q.length:Int)=(p.length:Int):=by omega
 rw[w,Jj t _ (by decide),TM]
 obtain⟨s,⟨o,j,l⟩,e⟩:=Ee q.length (λn i s=>F9 N q (Hq N) n i s) (Hq N) (λk s=>s.length=p.length∧(∀i,k≤i→s[i]? =p[i]?)∧∀i,i<k→s[i]? =(Fw p q)[i]?) (λn k s c=>by
  simp only[F9];rw[E4 c];rfl) (λn k s g c=>by
  obtain⟨o,j,l⟩:=g
  simp only[F9]
  have a:k<s.length:=by omega
  have b:k<p.length:=by omega
  have m:s[k]=p[k]:=by
   have:=j k (qX _)
   rw[rC a,rC b] at this
   exact qS this
  have A:=u _ (rH b)
  have B:=v _ (rH c)
  rw[En c,qO,BR c,qN,BR a,qN,qN,m,PU N (by omega) (by omega) (by omega) (by omega),qN,qN,qN,BT (by omega)]
  refine⟨_,⟨by rw[LH];exact o,λi g=>by rw[Hb (by omega)];exact j i (by omega),λi g=>?_⟩,rfl⟩
  by_cases d:k=i
  ·subst d
   rw[F5 a,Fw,tT,rC b,rC c]
  ·rw[Hb d];exact l i (by omega)) N 0 p ⟨rfl,λi _=>rfl,λi g=>by omega⟩ (by omega) (qW _)
 have:s=Fw p q:=sK λi=>by
  rcases rL i q.length with C|C
  ·exact l i C
  ·rw[rU (by omega),rU (by simp [Fw];omega)]
 subst this
 exact e
def Ux {N:Nat}(w:1000000<N) {p t:List Int}(q:p.length≤1000) (y:t.length=p.length) (u:∀x∈p, -2305843009213693952≤x∧x≤2305843009213693952) (v:∀x∈t, -2305843009213693952≤x∧x≤2305843009213693952):H5 N p t=some (JJ p t):=by
 unfold H5
 rw[Jj q _ (by decide),TM]
 obtain⟨s,⟨o,j,l⟩,e⟩:=Ee t.length (λn i s=>Fs N t (HU N) n i s) (HU N) (λk s=>s.length=p.length∧(∀i,k≤i→s[i]? =p[i]?)∧∀i,i<k→s[i]? =(JJ p t)[i]?) (λn k s c=>by
  simp only[Fs];rw[E4 c];rfl) (λn k s g c=>by
  obtain⟨o,j,l⟩:=g
  simp only[Fs]
  have a:k<s.length:=by omega
  have b:k<p.length:=by omega
  have m:s[k]=p[k]:=by
   have:=j k (qX _)
   rw[rC a,rC b] at this
   exact qS this
  have z:=u _ (rH b)
  have A:=v _ (rH c)
  rw[En c,qO,BR c,qN,BR a,qN,qN,qN,qN,m,Cx (n:=p[k]-t[k]) (by omega) (by omega),BT (by omega)]
  refine⟨_,⟨by rw[LH];exact o,λi g=>by rw[Hb (by omega)];exact j i (by omega),λi g=>?_⟩,rfl⟩
  by_cases d:k=i
  ·subst d
   rw[F5 a,JJ,tT,rC b,rC c]
  ·rw[Hb d];exact l i (by omega)) N 0 p ⟨rfl,λi _=>rfl,λi g=>by omega⟩ (by omega) (qW _)
 have:s=JJ p t:=sK λi=>by
  rcases rL i t.length with B|B
  ·exact l i B
  ·rw[rU (by omega),rU (by simp [JJ];omega)]
 subst this
 exact e
def PX.big {W:Nat}{p:List Int}(b:PX W p):∀x∈p, -2305843009213693952≤x∧x≤2305843009213693952:=λx a=>by
 have:=b.mem a;omega
def PX.total {N W:Nat}(a:1000000<N) (b:W≤1000) {p:List Int}(c:PX W p):Ef N p=some p.sum:=Tp a (by rw[c.len];exact b) c.nn (by have:=c.mv;omega)
def PX.padd {N W:Nat}(c:1000000<N) (d:W≤1000) {p q:List Int}(a:PX W p) (b:PX W q):G2 N p q=some (Fw p q):=aJ c (by rw[a.len];exact d) (b.len.trans a.len.symm) a.big b.big
def PX.wo {N W:Nat}(c:1000000<N) (d:W≤1000) {p t:List Int}(a:PX W p) (b:PX W t):H5 N p t=some (JJ p t):=Ux c (by rw[a.len];exact d) (b.len.trans a.len.symm) a.big b.big
def Nd:∀{l:List Int}{i:Nat}(b:i<l.length) (x:Int),(l.set i x).sum=l.sum-l[i]+x
 |a::l,0,_,x=>by simp;omega
 |a::l,i+1,b,x=>by
  have:=Nd (l:=l) (i:=i) (by simpa using b) x
  simp only[List.set_cons_succ,sU,List.getElem_cons_succ,this]
  omega
def aW {N W:Nat}(A:1000000<N) (v:W≤1000) {p:List Int}(a:PX W p) (o n:Int):∃t,K0 N p o n=some (t,JJ p t)∧Uv t p∧(t=List.replicate W 0∨∃i:Nat,o=(i:Int)∧i<W∧0<n∧0<p.getD i 0∧t=(List.replicate W 0).set i (min n (p.getD i 0)))∧((∃i:Nat,o=(i:Int)∧i<W∧0<n)→t=(List.replicate W 0).set o.toNat (min n (p.getD o.toNat 0))):=by
 have d:Uv (List.replicate W 0) p:=⟨by simp [a.len],λi x y b g=>by
  rw[tU] at b
  split at b
  ·cases b;exact⟨rN _,a.nn y (sC g)⟩
  ·cases b⟩
 have q:∀t,Uv t p→Im N p t=some (t,JJ p t):=λt B=>by
  unfold Im
  rw[a.wo A v (B.sub a).2.2,qN]
 have C:List.replicate ((p.length:Int)).toNat (0:Int)=List.replicate W 0:=by rw[a.len];rfl
 unfold K0 J8
 rw[Jj (by rw[a.len];exact v) _ (by decide),C]
 by_cases D:0≤o∧o<W
 ·obtain⟨i,rfl⟩:∃i:Nat,o=i:=⟨o.toNat,by omega⟩
  have c:i<p.length:=by rw[a.len];omega
  have s:p.getD i 0=p[i]:=by simp [rR,c]
  have h0:=a.nn _ (rH c)
  rw[rD (show ¬(i:Int)<0 by omega),rD (show ¬(p.length:Int)≤(i:Int) by omega),Bool.or_self,qQ,BR c,qN,qN,rD (show ¬p[i]<0 by omega),qQ,qN,qN]
  rw[sF,s]
  by_cases w:0<min n p[i]
  ·rw[rF w,qO,BR (show i<(List.replicate W (0:Int)).length by simp;omega),qN,qN]
   have z:Uv ((List.replicate W (0:Int)).set i (min n p[i])) p:=⟨by simp [a.len],λj x y b g=>by
    by_cases l:i=j
    ·subst l
     rw[tV (by simp;omega)] at b
     rw[rC c] at g
     cases b;cases g
     omega
    ·rw[tM l] at b
     exact d.le j x y b g⟩
   exact⟨_,q _ z,z,.inr ⟨i,rfl,by omega,by omega,by rw[s];omega,by rw[s];rfl⟩,λ_=>rfl⟩
  ·rw[rD w,qQ]
   refine⟨_,q _ d,d,.inl rfl,λ⟨j,F,u,H⟩=>?_⟩
   have:min n p[i]=0:=by omega
   rw[this]
   apply sK
   intro k
   by_cases m:i=k
   ·subst m;rw[tV (by simp;omega),tU,qR (by omega)]
   ·rw[tM m]
 ·have G:(decide (o<0)||decide ((p.length:Int)≤o))=true:=by
   rw[a.len]
   simp only[rI,rJ]
   omega
  rw[G,qO,qN,qO,qN,rD (show ¬0<min n 0 by omega),qQ]
  exact⟨_,q _ d,d,.inl rfl,λ⟨j,F,u,_⟩=>absurd ⟨by omega,by omega⟩ D⟩
end Go.Proofs.YtblcgjadhemlbaaGreat
namespace Go.Proofs.YtblcgjadhemlbaaGreat
set_option linter.all false
open Go.RowKit
def YZ:∀{a b:List Int},a.Perm b→a.sum=b.sum:=λi=>by
 induction i with
 |nil=>rfl
 |cons x _ c=>simp only[sU,c]
 |swap x y l=>simp only[sU];omega
 |trans _ _ d g=>exact d.trans g
def Kc:∀{l:List Int}{c:Int},(∀x∈l,x≤c)→l.sum≤l.length*c
 |[],c,_=>by simp
 |a::l,c,i=>by
  have d:=i a (rV ..)
  have g:=Kc (l:=l) (c:=c) λx b=>i x (sE _ b)
  rw[sU,uP,Int.natCast_succ,Int.add_mul,Int.one_mul]
  omega
def WN {lt:Int→Int→Bool}(R:Int→Int) (g:∀x y,lt x y=true→R y≤R x) (d:∀x y,lt x y=false→R x≤R y) (x:Int):∀l:List Int,l.Pairwise (λa b=>R b≤R a)→(RY lt x l).Pairwise λa b=>R b≤R a
 |[],_=>by simp [RY]
 |y::l,k=>by
  have j:∀z,z∈l→R z≤R y:=λz c=>List.rel_of_pairwise_cons k c
  unfold RY
  cases i:lt y x with
  |true=>
   refine List.Pairwise.cons (λz c=>?_) (WN R g d x l k.of_cons)
   rcases rG.1 ((Nm lt x l).mem_iff.1 c) with rfl|c
   ·exact g _ _ i
   ·exact j z c
  |false=>
   refine List.Pairwise.cons (λz c=>?_) k
   rcases rG.1 c with rfl|c
   ·exact d _ _ i
   ·exact Int.le_trans (j z c) (d _ _ i)
def UO {lt:Int→Int→Bool}(R:Int→Int) (c:∀x y,lt x y=true→R y≤R x) (d:∀x y,lt x y=false→R x≤R y):∀l:List Int,(MK lt l).Pairwise λa b=>R b≤R a
 |[]=> .nil
 |x::l=>WN R c d x _ (UO R c d l)
def YO (c:List Int) (x y:Int):(Pe c x y=true→c.getD y.toNat 0≤c.getD x.toNat 0)∧(Pe c x y=false→c.getD x.toNat 0≤c.getD y.toNat 0):=by
 show(cond (!decide (c.getD x.toNat 0=c.getD y.toNat 0)) (decide (c.getD y.toNat 0<c.getD x.toNat 0)) (decide (x.toNat<y.toNat))=true→_)∧(cond (!decide (c.getD x.toNat 0=c.getD y.toNat 0)) (decide (c.getD y.toNat 0<c.getD x.toNat 0)) (decide (x.toNat<y.toNat))=false→_)
 generalize c.getD x.toNat 0=a
 generalize c.getD y.toNat 0=b
 by_cases d:a=b
 ·subst d;exact⟨λ_=>rN _,λ_=>rN _⟩
 ·rw[rD d,Bool.not_false,qO]
  exact⟨λd=>by have:=tK d;omega,λd=>by have:=of_decide_eq_false d;omega⟩
def X7 {n:Nat}{S:Int}(X:0<S) {b a:List Int}(H:b.length=n) (s:∀i,i<n→b[i]? =some (i:Int)) (I:a.length=n) (J:∀x∈a,0≤x∧x≤S-1) {p:Nat}(t:a.sum=p*S):∀x∈(MK (Pe a) b).take p,0<a.getD x.toNat 0:=by
 intro x K
 have M:=Le (Pe a) b
 have u:=UO (lt:=Pe a) (λx=>a.getD x.toNat 0) (λx y h=>(YO a x y).1 h) (λx y h=>(YO a x y).2 h) b
 have m:b.map (λx=>a.getD x.toNat 0)=a:=sK λi=>by
  rcases rL i n with h|h
  ·rw[sQ,s i h]
   have:i<a.length:=by omega
   simp [rR,this]
  ·rw[rU (by simp;omega),rU (by omega)]
 have C:((MK (Pe a) b).map λx=>a.getD x.toNat 0).sum=p*S:=by
  rw[YZ (M.map _),m,t]
 have v:∀y:Int,0≤a.getD y.toNat 0∧a.getD y.toNat 0≤S-1:=λy=>by
  rw[rR]
  cases h:a[y.toNat]? with
  |none=>exact⟨rN _,by show(0:Int)≤S-1;omega⟩
  |some z=>exact J z (sC h)
 generalize MK (Pe a) b=l at*
 obtain⟨j,o⟩:=tL.1 K
 rw[vB] at o
 split at o
 ·rename_i Q
  apply tR
  intro Y
  have g:a.getD x.toNat 0=0:=by have:=(v x).1;omega
  have d:∀y∈l.drop j,a.getD y.toNat 0=0:=λy q=>by
   obtain⟨k,w⟩:=tL.1 q
   rw[uF] at w
   have U:=(rB.1 o).1
   have V:=(rB.1 w).1
   have D:=(rB.1 o).2
   have F:=(rB.1 w).2
   rcases vF k with h0|h0
   ·subst h0
    have:y=x:=by rw[←D,←F];rfl
    rw[this];exact g
   ·have:=vC.1 u j (j+k) U V (by omega)
    rw[D,F,g] at this
    have:=(v y).1
    omega
  have W:((l.drop j).map λx=>a.getD x.toNat 0).sum≤0:=by
   have:=Kc (l:=(l.drop j).map λx=>a.getD x.toNat 0) (c:=0) λz g=>by
    obtain⟨y,q,rfl⟩:=rX.1 g
    exact Int.le_of_eq (d y q)
   omega
  have A:((l.take j).map λx=>a.getD x.toNat 0).sum≤(j:Int)*(S-1):=by
   have:=Kc (l:=(l.take j).map λx=>a.getD x.toNat 0) (c:=S-1) λz g=>by
    obtain⟨y,q,rfl⟩:=rX.1 g
    exact(v y).2
   have Z:((l.take j).map λx=>a.getD x.toNat 0).length≤j:=by simp;omega
   have:(((l.take j).map λx=>a.getD x.toNat 0).length:Int)*(S-1)≤(j:Int)*(S-1):=tF (by omega) (by omega)
   omega
  have G:(l.map λx=>a.getD x.toNat 0).sum=((l.take j).map λx=>a.getD x.toNat 0).sum+((l.drop j).map λx=>a.getD x.toNat 0).sum:=by
   rw[←sT,←tS,List.take_append_drop]
  have B:((j:Int)+1)*S≤p*S:=tF (by omega) (by omega)
  rw[Int.add_mul,Int.one_mul] at B
  rw[Int.mul_sub,Int.mul_one] at A
  omega
 ·cases o
def W9 {N:Nat}(M:1000000<N) (l:List Int) (Q:l.length≤1000) (y:l.Nodup) {n:Nat}(c:∀x∈l,0≤x∧x<n) (a:List Int) (D:a.length=n) (F:∀x∈a, -4611686018427387904≤x∧x≤4611686018427387000):
  ∃r,FV N l (G3 N) N 0 a=some (r,true)∧r.length=n∧r.sum=a.sum+l.length∧∀(i:Nat) x,a[i]? =some x→r[i]? =some (x+if (i:Int)∈l then 1 else 0):=by
 obtain⟨s,⟨z,A,p⟩,e⟩:=Ee l.length (λm i s=>FV N l (G3 N) m i s) (G3 N) (λk s=>s.length=n∧s.sum=a.sum+k∧∀(i:Nat) x,a[i]? =some x→s[i]? =some (x+if (i:Int)∈l.take k then 1 else 0)) (λm k s d=>by
  simp only[FV];rw[E4 d];rfl) (λm k s G d=>by
  obtain⟨z,A,p⟩:=G
  simp only[FV]
  obtain⟨H,U⟩:=c _ (rH d)
  obtain⟨j,B,b⟩:=dG (l:=s) H (by omega)
  have g:j<a.length:=by omega
  have t:(j:Int)∉l.take k:=λI=>by
   obtain⟨q,w⟩:=tL.1 I
   rw[vB] at w
   split at w
   ·rename_i C
    have J:=(rB.1 w).2
    exact vC.1 y q k (by omega) d C (by rw[J,B])
   ·cases w
  have u:s[j]=a[j]:=by
   have:=p j _ (rC g)
   rw[qP t,rC b] at this
   have:=qS this
   omega
  have K:=F _ (rH g)
  rw[En d,qO,BR d,qN,B,BR b,qN,qN,qN,qN,u,Cx (n:=a[j]+1) (by omega) (by omega),BT (by omega)]
  refine⟨_,⟨by rw[LH];exact z,?_,λi x c=>?_⟩,rfl⟩
  ·show(s.set (j:Int).toNat _).sum=_
   rw[sF,Nd b,A,u]
   omega
  ·have v:l.take (k+1)=l.take k++[(j:Int)]:=by rw[tG d,B]
   by_cases o:j=i
   ·subst o
    rw[F5 b,v,qR (by simp)]
    rw[rC g] at c
    cases c
    rfl
   ·rw[Hb o,p i x c,v]
    have:(i:Int)≠(j:Int):=λV=>o (by omega)
    simp [this]) N 0 a ⟨D,by simp,λi x c=>by simp [c]⟩ (by omega) (qW _)
 rw[rY] at p
 exact⟨s,e,z,A,p⟩
structure ShX (t S:Int) (w:List Int) (k:Nat) (s:Int×List Int×List Int×List Int):Prop where
 l1:s.2.1.length=w.length
 l2:s.2.2.1.length=w.length
 l3:s.2.2.2.length=w.length
 or_:∀i,i<k→s.2.1[i]? =some (i:Int)
 rm:∀i x,i<k→w[i]? =some x→s.2.2.1[i]? =some (t*x%S)
 qt:∀i x,i<k→w[i]? =some x→s.2.2.2[i]? =some (t*x/S)
 ex:s.1=t-((w.take k).map λx=>t*x/S).sum
def V7 {t S:Int}(b:0<S):∀w:List Int,S*(w.map λx=>t*x/S).sum+(w.map λx=>t*x%S).sum=t*w.sum
 |[]=>by simp
 |a::w=>by
  have c:=V7 (t:=t) b w
  have d:=Int.mul_ediv_add_emod (t*a) S
  simp only[sM,sU]
  rw[Int.mul_add,Int.mul_add]
  omega
def YM {N W:Nat}(hN:18446744073709551616<N) (hW:W≤64) {w:List Int}(o:PX W w) {t:Int}(C:0≤t∧t≤w.sum):∃q,Jr N t w=some (q,true)∧Uv q w∧q.sum=t:=by
 have ar:=o.len
 have ag:=o.mv
 unfold Jr
 rw[rD (show ¬64<(w.length:Int) by omega),qQ]
 obtain⟨s,⟨i1,i2⟩,e⟩:=Ee w.length (λn i s=>FX N w (FZ N t w) n s i) (FZ N t w) (λk s=>s=(w.take k).sum∧0≤s) (λn k s g=>by
  simp only[FX];rw[E4 g];rfl) (λn k s p g=>by
  obtain⟨i1,i2⟩:=p
  have h1:=IP o.nn (k+1)
  have B:=IP o.nn k
  have G:=o.nn _ (rH g)
  rw[I2 g] at h1
  simp only[FX]
  rw[En g,qO,BR g,qN,Cx (n:=1125899906842624-s) (by omega) (by omega),rD (show ¬w[k]<0 by omega),rD (show ¬1125899906842624-s<w[k] by omega),Bool.or_self,qQ,BT (by omega),Cx (n:=s+w[k]) (by omega) (by omega)]
  exact⟨_,⟨by rw[I2 g,i1],by omega⟩,rfl⟩) N 0 0 ⟨rfl,rN _⟩ (by omega) (qW _)
 rw[show FX N w (FZ N t w) N 0 0=FZ N t w s from e]
 rw[rY] at i1
 subst i1
 unfold FZ
 rw[rD (show ¬t<0 by omega),rD (show ¬w.sum<t by omega),Bool.or_self,qQ,Jj (by omega) _ (by decide)]
 by_cases U:w.sum=0
 ·rw[rF U,qO]
  refine⟨_,rfl,⟨Md _ _,λi x y a D=>?_⟩,by simp;omega⟩
  rw[tU] at a
  split at a
  ·cases a;exact⟨rN _,o.nn y (sC D)⟩
  ·cases a
 rw[rD U,qQ,Jj (by omega) _ (by decide),Jj (by omega) _ (by decide)]
 have u:0<w.sum:=by have:=o.sum0;omega
 have h1:1≤w.length:=by
  cases w with
  |nil=>exact absurd rfl U
  |cons _ _=>simp
 obtain⟨⟨v,A,b,q⟩,⟨K,M,V,F,X,Y,Q⟩,e3⟩:=Ee w.length (λn i (s:Int×List Int×List Int×List Int)=>FW N t w w.sum (FY N) n s.1 i s.2.1 s.2.2.1 s.2.2.2) (λs=>FY N s.1 s.2.1 s.2.2.1 s.2.2.2) (λk s=>ShX t w.sum w k s) (λn k s g=>by
  simp only[FW];rw[E4 g];rfl) (λn k s p g=>by
  obtain⟨v,A,b,q⟩:=s
  obtain⟨K,M,V,F,X,Y,Q⟩:=p
  simp only at K M V F X Y Q
  have w0:=o.nn _ (rH g)
  have wS:=IW o.nn _ (rH g)
  have hq:=Qw (t:=t) (n:=w[k]) (d:=w.sum) (by omega) wS C.1
  have au:=Ot (t:=t) (n:=w[k]) (d:=w.sum) (by omega) w0 C.1
  have ah:v≤t∧ -(k:Int)*1125899906842624≤v:=by
   have h1:0≤((w.take k).map λx=>t*x/w.sum).sum:=Ni λx a=>Ot (by omega) (o.nn x (vG a)) C.1
   have B:((w.take k).map λx=>t*x/w.sum).sum≤(((w.take k).map λx=>t*x/w.sum).length:Int)*1125899906842624:=Kc λz U=>by
    obtain⟨x,a,rfl⟩:=rX.1 U
    have:=Qw (t:=t) (n:=x) (d:=w.sum) (by omega) (IW o.nn x (vG a)) C.1
    omega
   have G:((w.take k).map λx=>t*x/w.sum).length=k:=by simp;omega
   rw[G] at B
   rw[Int.neg_mul]
   omega
  have aq:(k:Int)*1125899906842624≤64*1125899906842624:=tF (by omega) (by decide)
  rw[Int.neg_mul] at ah
  simp only[FW]
  rw[En g,qO,BR g,qN,KH hN,VB ⟨C.1,by omega⟩ ⟨w0,by omega⟩ ⟨by omega,ag⟩ (by omega)]
  simp only[qN,BR (show k<A.length by omega),BR (show k<b.length by omega),BR (show k<q.length by omega)]
  rw[BT (by omega),Cx (n:=v-t*w[k]/w.sum) (by omega) (by omega)]
  refine⟨⟨_,_,_,_⟩,⟨by show(upd A _ _).length=_;rw[LH];exact K,by show(upd b _ _).length=_;rw[LH];exact M,by show(upd q _ _).length=_;rw[LH];exact V,λi p=>?_,λi x p a=>?_,λi x p a=>?_,?_⟩,rfl⟩
  ·show(upd A (k:Int) (k:Int))[i]? =_
   by_cases m:k=i
   ·subst m;exact F5 (by omega) _
   ·rw[Hb m];exact F i (by omega)
  ·show(upd b (k:Int) _)[i]? =_
   by_cases m:k=i
   ·subst m
    rw[rC g] at a
    cases a
    exact F5 (by omega) _
   ·rw[Hb m];exact X i x (by omega) a
  ·show(upd q (k:Int) _)[i]? =_
   by_cases m:k=i
   ·subst m
    rw[rC g] at a
    cases a
    exact F5 (by omega) _
   ·rw[Hb m];exact Y i x (by omega) a
  ·show v-t*w[k]/w.sum=_
   rw[LS g,Q]
   omega) N 0 (t,List.replicate ((w.length:Int)).toNat 0,List.replicate ((w.length:Int)).toNat 0,List.replicate ((w.length:Int)).toNat 0) ⟨Md _ _,Md _ _,Md _ _,λi p=>by omega,λi x p=>by omega,λi x p=>by omega,by simp⟩ (by omega) (qW _)
 simp only at K M V F X Y Q
 rw[show FW N t w w.sum (FY N) N t 0 _ _ _=FY N v A b q from e3]
 have H:b=w.map λx=>t*x%w.sum:=sK λi=>by
  rcases rL i w.length with h|h
  ·rw[X i _ h (rC h),sQ,rC h];rfl
  ·rw[rU (by omega),rU (by simp;omega)]
 have I:q=w.map λx=>t*x/w.sum:=sK λi=>by
  rcases rL i w.length with h|h
  ·rw[Y i _ h (rC h),sQ,rC h];rfl
  ·rw[rU (by omega),rU (by simp;omega)]
 rw[rY] at Q
 have av:=V7 (t:=t) u w
 have J:∀x∈b,0≤x∧x≤w.sum-1:=λx a=>by
  rw[H] at a
  obtain⟨y,_,rfl⟩:=rX.1 a
  have B:=Int.emod_nonneg (t*y) (show w.sum≠0 by omega)
  have G:=Int.emod_lt_of_pos (t*y) u
  omega
 have Z:b.sum=v*w.sum:=by
  have hc:=Int.mul_comm w.sum (w.map λx=>t*x/w.sum).sum
  rw[H,Q,Int.sub_mul,←hc]
  omega
 have aw:0≤b.sum:=J5 λx a=>(J x a).1
 have ai:b.sum≤(w.length:Int)*w.sum:=by
  have B:=Kc (l:=b) (c:=w.sum-1) λx a=>(J x a).2
  rw[M,Int.mul_sub,Int.mul_one] at B
  omega
 have x0:0≤v:=by
  by_cases aa:v<0
  ·have:v*w.sum<0:=Int.mul_neg_of_neg_of_pos aa u
   omega
  ·omega
 have x1:v≤w.length:=vO (by rw[←Z];exact ai) u
 obtain⟨en,rfl⟩:∃en:Nat,v=en:=⟨v.toNat,by omega⟩
 have hp:=Le (Pe b) A
 have ab:∀x∈A,0≤x∧x<(w.length:Int):=λx a=>by
  obtain⟨i,p⟩:=tL.1 a
  have ax:=(rB.1 p).1
  have B:=F i (by omega)
  rw[p] at B
  cases B
  omega
 have aj:A.Nodup:=vC.2 λi j p hj ay h=>by
  have B:=F i (by omega)
  have G:=F j (by omega)
  rw[rC p] at B
  rw[rC hj] at G
  have B:=qS B
  have G:=qS G
  omega
 have ac:=X7 u K F M J Z
 have hs:Qj A b=some (MK (Pe b) A):=by
  unfold Qj
  rw[qR ⟨by omega,by omega,by omega,qV.2 λx a=>by
   have:=ab x a
   simp only[qT,rJ]
   omega⟩]
 have ad:(MK (Pe b) A).length=w.length:=by rw[hp.length_eq];exact K
 have ae:((MK (Pe b) A).take en).Nodup:=List.Nodup.sublist (List.take_sublist _ _) (hp.nodup_iff.2 aj)
 have ak:∀x∈q,0≤x∧x≤t:=λx a=>by
  rw[I] at a
  obtain⟨y,D,rfl⟩:=rX.1 a
  exact⟨Ot (by omega) (o.nn y D) C.1,Qw (by omega) (IW o.nn y D) C.1⟩
 unfold FY oI
 rw[hs,qN,qR ⟨x0,by omega,by omega⟩,qN,sF]
 obtain⟨r,er,r1,r2,r3⟩:=W9 (N:=N) (by omega) ((MK (Pe b) A).take en) (by rw[sV];omega) ae (n:=w.length) (λx a=>ab x (hp.mem_iff.1 (vG a))) q V (λx a=>by have:=ak x a;omega)
 refine⟨r,er,⟨r1,λi x y a D=>?_⟩,?_⟩
 ·have al:q[i]? =some (t*y/w.sum):=by rw[I,sQ,D];rfl
  have am:b[i]? =some (t*y%w.sum):=by rw[H,sQ,D];rfl
  rw[r3 i _ al] at a
  have a:=qS a
  have af:=o.nn y (sC D)
  have az:=IW o.nn y (sC D)
  have g0:=Ot (t:=t) (n:=y) (d:=w.sum) (by omega) af C.1
  have a0:=Int.mul_ediv_add_emod (t*y) w.sum
  have a1:t*y≤w.sum*y:=tF C.2 af
  split at a
  ·rename_i hm
   have an:=ac _ hm
   rw[sF,rR,am,rZ] at an
   have ao:w.sum*(t*y/w.sum)<w.sum*y:=by omega
   have:=Int.lt_of_mul_lt_mul_left ao (by omega)
   omega
  ·have ap:w.sum*(t*y/w.sum)≤w.sum*y:=by
    have:=Int.emod_nonneg (t*y) (show w.sum≠0 by omega)
    omega
   have:=Int.le_of_mul_le_mul_left ap u
   omega
 ·rw[r2,sV,ad,I,uQ (by omega)]
  omega
def Z5 {N W:Nat}(v:18446744073709551616<N) (w:W≤64) {p:List Int}(a:PX W p) (n:Int):∃t,Ky N p n=some (t,JJ p t)∧Uv t p∧t.sum=max 0 (min n p.sum):=by
 have z:=a.len
 have m:Uv (List.replicate W 0) p:=⟨by simp [a.len],λi x y g A=>by
  rw[tU] at g
  split at g
  ·cases g;exact⟨rN _,a.nn y (sC A)⟩
  ·cases g⟩
 have o:∀t,Uv t p→HI N p t=some (t,JJ p t):=λt B=>by
  unfold HI
  rw[a.wo (by omega) (by omega) (B.sub a).2.2,qN]
 have C:List.replicate ((p.length:Int)).toNat (0:Int)=List.replicate W 0:=by rw[a.len];rfl
 have D:=a.sum0
 unfold Ky
 rw[Jj (by omega) _ (by decide),C]
 by_cases q:0<n
 ·rw[rF q,rF (show(p.length:Int)≤64 by omega)]
  have b:IR N p=some true:=by
   unfold IR
   obtain⟨s,⟨u,F⟩,e⟩:=Ee p.length (λn i s=>Eo N p (Gs N) n s i) (λ_=>Gs N) (λk s=>s=(p.take k).sum∧0≤s) (λn k s c=>by
    simp only[Eo];rw[E4 c];rfl) (λn k s G c=>by
    obtain⟨u,F⟩:=G
    have H:=IP a.nn (k+1)
    have J:=IP a.nn k
    have K:=a.nn _ (rH c)
    have M:=a.mv
    rw[I2 c] at H
    simp only[Eo]
    rw[En c,qO,BR c,qN,Cx (n:=1125899906842624-s) (by omega) (by omega),rD (show ¬p[k]<0 by omega),rD (show ¬1125899906842624-s<p[k] by omega),Bool.or_self,qQ,BT (by omega),Cx (n:=s+p[k]) (by omega) (by omega)]
    exact⟨_,⟨by rw[I2 c,u],by omega⟩,rfl⟩) N 0 0 ⟨rfl,rN _⟩ (by omega) (qW _)
   exact e
  obtain⟨j,e,l,d⟩:=YM v w a (t:=min n p.sum) ⟨by omega,by omega⟩
  rw[Bool.and_self,qO,b,qN,qN,qO,a.total (by omega) (by omega),qN,e,qN,qO]
  unfold JP
  have I:Ns (List.replicate W (0:Int)) j=j:=ZV (by rw[l.len,z];simp)
  rw[I]
  exact⟨j,o j l,l,by rw[d];omega⟩
 ·rw[rD q,Bool.false_and,qQ,qN,qQ]
  exact⟨_,o _ m,m,by rw[V4];omega⟩
end Go.Proofs.YtblcgjadhemlbaaGreat
