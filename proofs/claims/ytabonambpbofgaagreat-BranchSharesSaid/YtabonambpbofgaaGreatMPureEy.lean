import Derived.Test.YtabonambpbofgaaGreatMPureEx
namespace Go.Proofs.YtabonambpbofgaaGreat
set_option linter.all false
open Go.RowKit
def Of (N:Nat) (n a b:Int):Ge N n a b=some (if n<a then a else if b<n then b else n):=by
 unfold Ge;by_cases c:n<a
 ·rw[Aba c,Aav c];rfl
 ·rw[Aaz c,Aas c];by_cases d:b<n
  ·rw[Aba d,Aav d];rfl
  ·rw[Aaz d,Aas d];rfl
def NQ (N:Nat) (i n:Int):G8 N i n=some (decide (0≤i)&&decide (i<n)):=rfl
def cX (N:Nat) (l:A8) (g:A0) (k:Int):∃a,IA N l g k=some a∧a.Z=g.Z∧a.Aa=g.Aa:=by
 have b:∀c:Bool,∃a,HQ N l g k (Gq N g) c=some a∧a.Z=g.Z∧a.Aa=g.Aa:=λc=>by
  unfold HQ;cases c
  ·exact⟨_,rfl,rfl,rfl⟩
  ·cases decide (l.F=5)<;>exact⟨_,rfl,rfl,rfl⟩
 unfold IA;cases decide (k=0)
 ·cases decide (k=1)
  ·cases decide (k=2)
   ·exact b (decide (k=3))
   ·exact b true
  ·exact⟨_,rfl,rfl,rfl⟩
 ·exact⟨_,rfl,rfl,rfl⟩
def eV (N:Nat) (l:A8) (g:A0) (t:Int):∃a,Je N l g t=some a∧a.Z=g.Z∧a.Ax=g.Ax∧(0≤l.V→0≤g.Aa→g.Aa≤l.V→0≤a.Aa∧a.Aa≤l.V):=by
 unfold Je;cases decide (l.V≠0)
 ·exact⟨_,rfl,rfl,rfl,λ_ b c=>⟨b,c⟩⟩
 ·rw[Aaq,Of,Aap];refine⟨_,rfl,rfl,rfl,λh0 b c=>?_⟩;show 0≤(if t<0 then 0 else if l.V<t then l.V else t)∧_≤l.V
  split
  ·exact⟨Abo _,h0⟩
  ·split
   ·exact⟨h0,Abo _⟩
   ·exact⟨by omega,show t≤_ by omega⟩
def hJ (N:Nat) (l:A8) (g:A0):Df (II N l g):=by
 unfold II;cases g.Ax
 ·obtain⟨a,d⟩:=SP N g.Aa g.Z;obtain⟨b,i⟩:=SP N 0 l.Ag;rw[Aar,d,Aap,i,Aap,Of,Aap];obtain⟨c,j⟩:=W8 N g.Z (if a<b then b else if l.Ag<a then l.Ag else a);rw[j];exact⟨_,rfl⟩
 ·exact⟨_,rfl⟩
def Yx (N:Nat) (l:A8) (g:A0) (v:Int):∃b,Hh N l g v=some b∧b.Z=g.Z∧(l.F≠3→b=g):=by
 unfold Hh;by_cases a:l.F=3
 ·rw[show decide (l.F≠3)=false by simp [a],Aar];cases decide (l.Ay≤v)
  ·cases decide (v≤l.Az)<;>exact⟨_,rfl,rfl,λc=>absurd a c⟩
  ·exact⟨_,rfl,rfl,λc=>absurd a c⟩
 ·rw[show decide (l.F≠3)=true by simp [a],Aaq];exact⟨g,rfl,rfl,λ_=>rfl⟩
def gF (N:Nat) (l:A8) (g:A0) (k:Int):A0:=(IA N l g k).getD g
def gA (N:Nat) (l:A8) (g:A0) (k:Int):A0:=(Je N l g k).getD g
def gM (N:Nat) (l:A8) (g:A0):A0:=(II N l g).getD g
def gS (N:Nat) (l:A8) (g:A0) (v:Int):A0:=(Hh N l g v).getD g
def vH (N:Nat) (l:A8) (g:A0) (k:Int):IA N l g k=some (gF N l g k)∧(gF N l g k).Z=g.Z∧(gF N l g k).Aa=g.Aa:=by
 obtain⟨a,e,b⟩:=cX N l g k;unfold gF;rw[e];exact⟨rfl,b⟩
def vJ (N:Nat) (l:A8) (g:A0) (k:Int):Je N l g k=some (gA N l g k)∧(gA N l g k).Z=g.Z∧(gA N l g k).Ax=g.Ax∧(0≤l.V→0≤g.Aa→g.Aa≤l.V→0≤(gA N l g k).Aa∧(gA N l g k).Aa≤l.V):=by
 obtain⟨a,e,b⟩:=eV N l g k;unfold gA;rw[e];exact⟨rfl,b⟩
def cT (N:Nat) (l:A8) (g:A0):II N l g=some (gM N l g):=by
 obtain⟨a,e⟩:=hJ N l g;unfold gM;rw[e];rfl
def vG (N:Nat) (l:A8) (g:A0) (v:Int):Hh N l g v=some (gS N l g v)∧(gS N l g v).Z=g.Z∧(l.F≠3→gS N l g v=g):=by
 obtain⟨a,e,b⟩:=Yx N l g v;unfold gS;rw[e];exact⟨rfl,b⟩
def pM (N:Nat) (l:A8) (g:A0) (k:l.V≤64) (m:0≤l.Ag∧l.Ag≤l.V) (d:0≤g.Z∧g.Z≤l.V) (n:0≤g.Aa∧g.Aa≤l.V):(0≤(gM N l g).Z∧(gM N l g).Z≤l.V)∧(gM N l g).Z-g.Z≤l.Ag∧ -l.Ag≤(gM N l g).Z-g.Z∧(g.Ax=true→gM N l g=g):=by
 have e:=cT N l g;unfold II at e;cases a:g.Ax with
 |true=>
  rw[a,Aaq] at e;have e:=Aat e;rw[←e];exact⟨d,by omega,by omega,λ_=>rfl⟩
 |false=>
  rw[a,Aar,aO N (by omega) (by omega) (by omega) (by omega),Aap,aO N (by omega) (by omega) (by omega) (by omega),Aap,Of,Aap] at e;have b:∃c,(if g.Aa-g.Z<0-l.Ag then 0-l.Ag else if l.Ag<g.Aa-g.Z then l.Ag else g.Aa-g.Z)=c∧ -l.Ag≤c∧c≤l.Ag∧0≤g.Z+c∧g.Z+c≤l.V:=by
   refine⟨_,rfl,?_⟩;split
   ·omega
   ·split<;>omega
  obtain⟨c,b,o,p,i,j⟩:=b;rw[b,Uw N (by omega) (by omega) (by omega) (by omega),Aap] at e;have e:=Aat e;rw[←e];exact⟨⟨i,j⟩,by show g.Z+c-g.Z≤_;omega,by show _≤g.Z+c-g.Z;omega,λq=>by cases q⟩
def gP (N:Nat) (l:A8) (k:Nat) (a:List Gj) (g:A0):A0:=a.foldl (λg f=>if f.Ar=(k:Int) then gF N l g f.F else g) g
def stA (N:Nat) (l:A8) (k:Nat) (cs:List Kt) (g:A0):A0:=cs.foldl (λg c=>if c.Ar=(k:Int) then gA N l g c.Aa else g) g
def ST {N:Nat}{l:A8}{k:Nat}{a:List Gj}{g:A0}{i:Nat}(b:i<a.length):gP N l k (a.take (i+1)) g=if a[i].Ar=(k:Int) then gF N l (gP N l k (a.take i) g) a[i].F else gP N l k (a.take i) g:=by
 unfold gP;rw[Ab9 b,Adq];rfl
def SU {N:Nat}{l:A8}{k:Nat}{cs:List Kt}{g:A0}{i:Nat}(a:i<cs.length):stA N l k (cs.take (i+1)) g=if cs[i].Ar=(k:Int) then gA N l (stA N l k (cs.take i) g) cs[i].Aa else stA N l k (cs.take i) g:=by
 unfold stA;rw[Ab9 a,Adq];rfl
def Yl (L:Nat) (a:List A0) (g:Nat→A0):Prop:=a.length=L∧∀k,k<L→a[k]? =some (g k)
def Yl.ix {L:Nat}{a:List A0}{g:Nat→A0}(c:Yl L a g) {k:Nat}(b:k<L):ix a (k:Int)=some (g k):=by
 have:=c.2 k b;simp [Go.Proofs.YtabonambpbofgaaGreat.ix,this]
def Yl.upd {L:Nat}{b:List A0}{g a:Nat→A0}(m:Yl L b g) {j:Nat}(d:j<L) (x:A0) (i:a j=x) (l:∀k,k<L→k≠j→a k=g k):Yl L (upd b (j:Int) x) a:=
 ⟨by rw[Ma];exact m.1,λk c=>by
  by_cases e:j=k
  ·subst e;rw[HS (by rw[m.1];exact d),i]
  ·rw[JL e,m.2 k c,l k c λm=>e m.symm]⟩
def Yl.congr {L:Nat}{a:List A0}{g b:Nat→A0}(d:Yl L a g) (e:∀k,k<L→b k=g k):Yl L a b:=⟨d.1,λk c=>by rw[d.2 k c,e k c]⟩
def Xt (b:AF) (k:Nat):A8:=b.C.getD k default
def So {b:AF}{k:Nat}(a:k<b.C.length):Xt b k=b.C[k]:=by unfold Xt;simp [Ab1,a]
def lX {α}{l:List α}{i:Int}(h0:0≤i) (a:i<l.length):∃n:Nat,i=(n:Int)∧n<l.length:=⟨i.toNat,by omega,by omega⟩
def Qa {i:Int}{n:Nat}:(decide (0≤i)&&decide (i<(n:Int)))=true↔0≤i∧i<n:=by simp
def cA {N:Nat}(I:8000000000000<N) {w:AK}{b:AF}(q:w.b=b) (J:b.C.length≤1000) (K:w.in_.Ab.length≤1000) (M:w.in_.Ac.length≤1000) {o:Nat→A0}(h0:Yl b.C.length w.s.R o):
  ∃x,G9 N w=some x∧Yl b.C.length x (λk=>gM N (Xt b k) (stA N (Xt b k) k w.in_.Ac (gP N (Xt b k) k w.in_.Ab (o k)))):=by
 subst q;unfold G9;obtain⟨t,y,B⟩:=GO w.in_.Ab.length (λn i s=>C0 N w (DV N w) n i s) (DV N w) (λi s=>Yl w.b.C.length s (λk=>gP N (Xt w.b k) k (w.in_.Ab.take i) (o k))) (λn k s a=>by
  simp only[C0];rw[Ft a];rfl) (λn i s g a=>by
  simp only[C0,Gx];rw[FW a,Aaq,BB a,Aap,NQ,Aap,A9 (by omega)];cases l:(decide (0≤w.in_.Ab[i].Ar)&&decide (w.in_.Ab[i].Ar<(w.b.C.length:Int)))
  ·refine⟨s,g.congr λk d=>?_,rfl⟩;rw[ST a,Aas];intro e;rw[e] at l;simp [d] at l
  ·obtain⟨u,v⟩:=Qa.1 l;obtain⟨j,m,c⟩:=lX u v;rw[Aaq,m,BB c];simp only[g.ix c,Aap];rw[(vH N _ _ _).1,Aap];refine⟨_,g.upd c _ ?_ λk d p=>?_,rfl⟩
   ·rw[ST a,Aav m,So c]
   ·rw[ST a,Aas (by rw[m];omega)]) N 0 w.s.R h0 (by omega) (Aaw _)
 rw[show C0 N w (DV N w) N 0 w.s.R=DV N w t from B];rw[Abu] at y;unfold DV;obtain⟨z,A,D⟩:=GO w.in_.Ac.length (λn i s=>Cz N w (DU N w) n i s) (DU N w) (λi s=>Yl w.b.C.length s (λk=>stA N (Xt w.b k) k (w.in_.Ac.take i) (gP N (Xt w.b k) k w.in_.Ab (o k)))) (λn k s a=>by
  simp only[Cz];rw[Ft a];rfl) (λn i s g a=>by
  simp only[Cz,Gw];rw[FW a,Aaq,BB a,Aap,NQ,Aap,A9 (by omega)];cases l:(decide (0≤w.in_.Ac[i].Ar)&&decide (w.in_.Ac[i].Ar<(w.b.C.length:Int)))
  ·refine⟨s,g.congr λk d=>?_,rfl⟩;rw[SU a,Aas];intro e;rw[e] at l;simp [d] at l
  ·obtain⟨u,v⟩:=Qa.1 l;obtain⟨j,m,c⟩:=lX u v;rw[Aaq,m,BB c];simp only[g.ix c,Aap];rw[(vJ N _ _ _).1,Aap];refine⟨_,g.upd c _ ?_ λk d p=>?_,rfl⟩
   ·rw[SU a,Aav m,So c]
   ·rw[SU a,Aas (by rw[m];omega)]) N 0 t y (by omega) (Aaw _)
 rw[show Cz N w (DU N w) N 0 t=DU N w z from D];rw[Abu] at A;unfold DU;obtain⟨F,G,H⟩:=GO w.b.C.length (λn i s=>Dm N w n i s) (λs=>some s) (λi s=>Yl w.b.C.length s (λk=>if k<i then gM N (Xt w.b k) (stA N (Xt w.b k) k w.in_.Ac (gP N (Xt w.b k) k w.in_.Ab (o k))) else stA N (Xt w.b k) k w.in_.Ac (gP N (Xt w.b k) k w.in_.Ab (o k)))) (λn k s a=>by
  simp only[Dm];rw[Ft a];rfl) (λn i s g a=>by
  simp only[Dm];rw[FW a,Aaq,BB a];simp only[g.ix a,Aap];rw[cT,Aap,A9 (by omega),Aas (Nat.lt_irrefl i)];refine⟨_,g.upd a _ ?_ λk d p=>?_,rfl⟩
  ·rw[Aav (Nat.lt_succ_self i),So a]
  ·by_cases Q:k<i
   ·rw[Aav Q,Aav (by omega)]
   ·rw[Aas Q,Aas (by omega)]) N 0 z (A.congr λk _=>by rw[Aas (Nat.not_lt_zero k)]) (by omega) (Aaw _)
 exact⟨F,H,G.congr λk a=>by rw[Aav a]⟩
def bQ:∀{a b:List Int},a.Perm b→a.sum=b.sum:=λi=>by
 induction i with
 |nil=>rfl
 |cons x _ c=>simp only[Ab4,c]
 |swap x y l=>simp only[Ab4];omega
 |trans _ _ d g=>exact d.trans g
def Kj:∀{l:List Int}{c:Int},(∀x∈l,x≤c)→l.sum≤l.length*c
 |[],c,_=>by simp
 |a::l,c,i=>by
  have d:=i a (Abf ..);have g:=Kj (l:=l) (c:=c) λx b=>i x (Abs _ b);rw[Ab4,Ac3,Int.natCast_succ,Int.add_mul,Int.one_mul];omega
def X0 {lt:Int→Int→Bool}(R:Int→Int) (g:∀x y,lt x y=true→R y≤R x) (d:∀x y,lt x y=false→R x≤R y) (x:Int):∀l:List Int,l.Pairwise (λa b=>R b≤R a)→(Tc lt x l).Pairwise λa b=>R b≤R a
 |[],_=>by simp [Tc]
 |y::l,k=>by
  have j:∀z,z∈l→R z≤R y:=λz c=>List.rel_of_pairwise_cons k c;unfold Tc;cases i:lt y x with
  |true=>
   refine List.Pairwise.cons (λz c=>?_) (X0 R g d x l k.of_cons);rcases Aay.1 ((PG lt x l).mem_iff.1 c) with rfl|c
   ·exact g _ _ i
   ·exact j z c
  |false=>
   refine List.Pairwise.cons (λz c=>?_) k;rcases Aay.1 c with rfl|c
   ·exact d _ _ i
   ·exact Int.le_trans (j z c) (d _ _ i)
def Vz {lt:Int→Int→Bool}(R:Int→Int) (c:∀x y,lt x y=true→R y≤R x) (d:∀x y,lt x y=false→R x≤R y):∀l:List Int,(NU lt l).Pairwise λa b=>R b≤R a
 |[]=> .nil
 |x::l=>X0 R c d x _ (Vz R c d l)
def bF (c:List Int) (x y:Int):(RO c x y=true→c.getD y.toNat 0≤c.getD x.toNat 0)∧(RO c x y=false→c.getD x.toNat 0≤c.getD y.toNat 0):=by
 show(cond (!decide (c.getD x.toNat 0=c.getD y.toNat 0)) (decide (c.getD y.toNat 0<c.getD x.toNat 0)) (decide (x.toNat<y.toNat))=true→_)∧(cond (!decide (c.getD x.toNat 0=c.getD y.toNat 0)) (decide (c.getD y.toNat 0<c.getD x.toNat 0)) (decide (x.toNat<y.toNat))=false→_)
 generalize c.getD x.toNat 0=a
 generalize c.getD y.toNat 0=b
 by_cases d:a=b
 ·subst d;exact⟨λ_=>Abo _,λ_=>Abo _⟩
 ·rw[Aaz d,Bool.not_false,Aaq];exact⟨λd=>by have:=Acf d;omega,λd=>by have:=Ad1 d;omega⟩
def aJ {n:Nat}{S:Int}(X:0<S) {b a:List Int}(H:b.length=n) (s:∀i,i<n→b[i]? =some (i:Int)) (I:a.length=n) (J:∀x∈a,0≤x∧x≤S-1) {p:Nat}(t:a.sum=p*S):∀x∈(NU (RO a) b).take p,0<a.getD x.toNat 0:=by
 intro x K;have M:=Mk (RO a) b;have u:=Vz (lt:=RO a) (λx=>a.getD x.toNat 0) (λx y h=>(bF a x y).1 h) (λx y h=>(bF a x y).2 h) b;have m:b.map (λx=>a.getD x.toNat 0)=a:=Abw λi=>by
  rcases Abb i n with h|h
  ·rw[Acd,s i h];have:i<a.length:=by omega
   simp [Ab1,this]
  ·rw[Abj (by simp;omega),Abj (by omega)]
 have C:((NU (RO a) b).map λx=>a.getD x.toNat 0).sum=p*S:=by
  rw[bQ (M.map _),m,t]
 have v:∀y:Int,0≤a.getD y.toNat 0∧a.getD y.toNat 0≤S-1:=λy=>by
  rw[Ab1];cases h:a[y.toNat]? with
  |none=>exact⟨Abo _,by show(0:Int)≤S-1;omega⟩
  |some z=>exact J z (Ab3 h)
 generalize NU (RO a) b=l at*
 obtain⟨j,o⟩:=Acv.1 K;rw[Aea] at o;split at o
 ·rename_i Q;apply Ado;intro Y;have g:a.getD x.toNat 0=0:=by have:=(v x).1;omega
  have d:∀y∈l.drop j,a.getD y.toNat 0=0:=λy q=>by
   obtain⟨k,w⟩:=Acv.1 q;rw[Ac2] at w;have U:=(Aa4.1 o).1;have V:=(Aa4.1 w).1;have D:=(Aa4.1 o).2;have F:=(Aa4.1 w).2;rcases Aee k with h0|h0
   ·subst h0;have:y=x:=by rw[←D,←F];rfl
    rw[this];exact g
   ·have:=Aec.1 u j (j+k) U V (by omega);rw[D,F,g] at this;have:=(v y).1;omega
  have W:((l.drop j).map λx=>a.getD x.toNat 0).sum≤0:=by
   have:=Kj (l:=(l.drop j).map λx=>a.getD x.toNat 0) (c:=0) λz g=>by
    obtain⟨y,q,rfl⟩:=Abm.1 g;exact Int.le_of_eq (d y q)
   omega
  have A:((l.take j).map λx=>a.getD x.toNat 0).sum≤(j:Int)*(S-1):=by
   have:=Kj (l:=(l.take j).map λx=>a.getD x.toNat 0) (c:=S-1) λz g=>by
    obtain⟨y,q,rfl⟩:=Abm.1 g;exact(v y).2
   have Z:((l.take j).map λx=>a.getD x.toNat 0).length≤j:=by simp;omega
   have:(((l.take j).map λx=>a.getD x.toNat 0).length:Int)*(S-1)≤(j:Int)*(S-1):=Adi (by omega) (by omega);omega
  have G:(l.map λx=>a.getD x.toNat 0).sum=((l.take j).map λx=>a.getD x.toNat 0).sum+((l.drop j).map λx=>a.getD x.toNat 0).sum:=by
   rw[←Acm,←Ach,List.take_append_drop]
  have B:((j:Int)+1)*S≤p*S:=Adi (by omega) (by omega);rw[Int.add_mul,Int.one_mul] at B;rw[Int.mul_sub,Int.mul_one] at A;omega
 ·cases o
def Y0 {N:Nat}(M:8000000000000<N) (l:List Int) (Q:l.length≤1000) (y:l.Nodup) {n:Nat}(c:∀x∈l,0≤x∧x<n) (a:List Int) (D:a.length=n) (F:∀x∈a, -4611686018427387904≤x∧x≤4611686018427387000):
  ∃r,F6 N l (HZ N) N 0 a=some (r,true)∧r.length=n∧r.sum=a.sum+l.length∧∀(i:Nat) x,a[i]? =some x→r[i]? =some (x+if (i:Int)∈l then 1 else 0):=by
 obtain⟨s,⟨z,A,p⟩,e⟩:=GO l.length (λm i s=>F6 N l (HZ N) m i s) (HZ N) (λk s=>s.length=n∧s.sum=a.sum+k∧∀(i:Nat) x,a[i]? =some x→s[i]? =some (x+if (i:Int)∈l.take k then 1 else 0)) (λm k s d=>by
  simp only[F6];rw[Ft d];rfl) (λm k s G d=>by
  obtain⟨z,A,p⟩:=G;simp only[F6];obtain⟨H,U⟩:=c _ (Aa9 d);obtain⟨j,B,b⟩:=lX (l:=s) H (by omega);have g:j<a.length:=by omega
  have t:(j:Int)∉l.take k:=λI=>by
   obtain⟨q,w⟩:=Acv.1 I;rw[Aea] at w;split at w
   ·rename_i C;have J:=(Aa4.1 w).2;exact Aec.1 y q k (by omega) d C (by rw[J,B])
   ·cases w
  have u:s[j]=a[j]:=by
   have:=p j _ (Aa1 g);rw[Aas t,Aa1 b] at this;have:=Aat this;omega
  have K:=F _ (Aa9 g);rw[FW d,Aaq,BB d,Aap,B,BB b,Aap,Aap,Aap,Aap,u,D5 (n:=a[j]+1) (by omega) (by omega),A9 (by omega)];refine⟨_,⟨by rw[Ma];exact z,?_,λi x c=>?_⟩,rfl⟩
  ·show(s.set (j:Int).toNat _).sum=_
   rw[Abx,Nh b,A,u];omega
  ·have v:l.take (k+1)=l.take k++[(j:Int)]:=by rw[Ab9 d,B]
   by_cases o:j=i
   ·subst o;rw[HS b,v,Aav (by simp)];rw[Aa1 g] at c;cases c;rfl
   ·rw[JL o,p i x c,v];have:(i:Int)≠(j:Int):=λV=>o (by omega);simp [this]) N 0 a ⟨D,by simp,λi x c=>by simp [c]⟩ (by omega) (Aaw _)
 rw[Abu] at p;exact⟨s,e,z,A,p⟩
structure ShX (t S:Int) (w:List Int) (k:Nat) (s:Int×List Int×List Int×List Int):Prop where
 l1:s.2.1.length=w.length
 l2:s.2.2.1.length=w.length
 l3:s.2.2.2.length=w.length
 or_:∀i,i<k→s.2.1[i]? =some (i:Int)
 rm:∀i x,i<k→w[i]? =some x→s.2.2.1[i]? =some (t*x%S)
 qt:∀i x,i<k→w[i]? =some x→s.2.2.2[i]? =some (t*x/S)
 ex:s.1=t-((w.take k).map λx=>t*x/S).sum
def Xk {t S:Int}(b:0<S):∀w:List Int,S*(w.map λx=>t*x/S).sum+(w.map λx=>t*x%S).sum=t*w.sum
 |[]=>by simp
 |a::w=>by
  have c:=Xk (t:=t) b w;have d:=Int.mul_ediv_add_emod (t*a) S;simp only[Abg,Ab4];rw[Int.mul_add,Int.mul_add];omega
def bD {N W:Nat}(hN:18446744073709551616<N) (hW:W≤64) {w:List Int}(o:PX W w) {t:Int}(C:0≤t∧t≤w.sum):∃q,KX N t w=some (q,true)∧WW q w∧q.sum=t:=by
 have ar:=o.len;have ag:=o.mv;unfold KX;rw[Aaz (show ¬64<(w.length:Int) by omega),Aar];obtain⟨s,⟨i1,i2⟩,e⟩:=GO w.length (λn i s=>F8 N w (GA N t w) n s i) (GA N t w) (λk s=>s=(w.take k).sum∧0≤s) (λn k s g=>by
  simp only[F8];rw[Ft g];rfl) (λn k s p g=>by
  obtain⟨i1,i2⟩:=p;have h1:=Jb o.nn (k+1);have B:=Jb o.nn k;have G:=o.nn _ (Aa9 g);rw[KR g] at h1;simp only[F8];rw[FW g,Aaq,BB g,Aap,D5 (n:=1125899906842624-s) (by omega) (by omega),Aaz (show ¬w[k]<0 by omega),Aaz (show ¬1125899906842624-s<w[k] by omega),Bool.or_self,Aar,A9 (by omega),D5 (n:=s+w[k]) (by omega) (by omega)];exact⟨_,⟨by rw[KR g,i1],by omega⟩,rfl⟩) N 0 0 ⟨rfl,Abo _⟩ (by omega) (Aaw _)
 rw[show F8 N w (GA N t w) N 0 0=GA N t w s from e];rw[Abu] at i1;subst i1;unfold GA;rw[Aaz (show ¬t<0 by omega),Aaz (show ¬w.sum<t by omega),Bool.or_self,Aar,K2 (by omega) _ (by decide)];by_cases U:w.sum=0
 ·rw[Aba U,Aaq];refine⟨_,rfl,⟨Nk _ _,λi x y a D=>?_⟩,by simp;omega⟩;rw[Ac8] at a;split at a
  ·cases a;exact⟨Abo _,o.nn y (Ab3 D)⟩
  ·cases a
 rw[Aaz U,Aar,K2 (by omega) _ (by decide),K2 (by omega) _ (by decide)];have u:0<w.sum:=by have:=o.sum0;omega
 have h1:1≤w.length:=by
  cases w with
  |nil=>exact absurd rfl U
  |cons _ _=>simp
 obtain⟨⟨v,A,b,q⟩,⟨K,M,V,F,X,Y,Q⟩,e3⟩:=GO w.length (λn i (s:Int×List Int×List Int×List Int)=>F7 N t w w.sum (F9 N) n s.1 i s.2.1 s.2.2.1 s.2.2.2) (λs=>F9 N s.1 s.2.1 s.2.2.1 s.2.2.2) (λk s=>ShX t w.sum w k s) (λn k s g=>by
  simp only[F7];rw[Ft g];rfl) (λn k s p g=>by
  obtain⟨v,A,b,q⟩:=s;obtain⟨K,M,V,F,X,Y,Q⟩:=p;simp only at K M V F X Y Q;have w0:=o.nn _ (Aa9 g);have wS:=JH o.nn _ (Aa9 g);have hq:=cW (t:=t) (n:=w[k]) (d:=w.sum) (by omega) wS C.1;have au:=V0 (t:=t) (n:=w[k]) (d:=w.sum) (by omega) w0 C.1;have ah:v≤t∧ -(k:Int)*1125899906842624≤v:=by
   have h1:0≤((w.take k).map λx=>t*x/w.sum).sum:=R4 λx a=>V0 (by omega) (o.nn x (Aeg a)) C.1;have B:((w.take k).map λx=>t*x/w.sum).sum≤(((w.take k).map λx=>t*x/w.sum).length:Int)*1125899906842624:=Kj λz U=>by
    obtain⟨x,a,rfl⟩:=Abm.1 U;have:=cW (t:=t) (n:=x) (d:=w.sum) (by omega) (JH o.nn x (Aeg a)) C.1;omega
   have G:((w.take k).map λx=>t*x/w.sum).length=k:=by simp;omega
   rw[G] at B;rw[Int.neg_mul];omega
  have aq:(k:Int)*1125899906842624≤64*1125899906842624:=Adi (by omega) (by decide);rw[Int.neg_mul] at ah;simp only[F7];rw[FW g,Aaq,BB g,Aap,OV hN,oN ⟨C.1,by omega⟩ ⟨w0,by omega⟩ ⟨by omega,ag⟩ (by omega)];simp only[Aap,BB (show k<A.length by omega),BB (show k<b.length by omega),BB (show k<q.length by omega)];rw[A9 (by omega),D5 (n:=v-t*w[k]/w.sum) (by omega) (by omega)];refine⟨⟨_,_,_,_⟩,⟨by show(upd A _ _).length=_;rw[Ma];exact K,by show(upd b _ _).length=_;rw[Ma];exact M,by show(upd q _ _).length=_;rw[Ma];exact V,λi p=>?_,λi x p a=>?_,λi x p a=>?_,?_⟩,rfl⟩
  ·show(upd A (k:Int) (k:Int))[i]? =_
   by_cases m:k=i
   ·subst m;exact HS (by omega) _
   ·rw[JL m];exact F i (by omega)
  ·show(upd b (k:Int) _)[i]? =_
   by_cases m:k=i
   ·subst m;rw[Aa1 g] at a;cases a;exact HS (by omega) _
   ·rw[JL m];exact X i x (by omega) a
  ·show(upd q (k:Int) _)[i]? =_
   by_cases m:k=i
   ·subst m;rw[Aa1 g] at a;cases a;exact HS (by omega) _
   ·rw[JL m];exact Y i x (by omega) a
  ·show v-t*w[k]/w.sum=_
   rw[Q0 g,Q];omega) N 0 (t,List.replicate ((w.length:Int)).toNat 0,List.replicate ((w.length:Int)).toNat 0,List.replicate ((w.length:Int)).toNat 0) ⟨Nk _ _,Nk _ _,Nk _ _,λi p=>by omega,λi x p=>by omega,λi x p=>by omega,by simp⟩ (by omega) (Aaw _)
 simp only at K M V F X Y Q;rw[show F7 N t w w.sum (F9 N) N t 0 _ _ _=F9 N v A b q from e3];have H:b=w.map λx=>t*x%w.sum:=Abw λi=>by
  rcases Abb i w.length with h|h
  ·rw[X i _ h (Aa1 h),Acd,Aa1 h];rfl
  ·rw[Abj (by omega),Abj (by simp;omega)]
 have I:q=w.map λx=>t*x/w.sum:=Abw λi=>by
  rcases Abb i w.length with h|h
  ·rw[Y i _ h (Aa1 h),Acd,Aa1 h];rfl
  ·rw[Abj (by omega),Abj (by simp;omega)]
 rw[Abu] at Q;have av:=Xk (t:=t) u w;have J:∀x∈b,0≤x∧x≤w.sum-1:=λx a=>by
  rw[H] at a;obtain⟨y,_,rfl⟩:=Abm.1 a;have B:=Int.emod_nonneg (t*y) (show w.sum≠0 by omega);have G:=Int.emod_lt_of_pos (t*y) u;omega
 have Z:b.sum=v*w.sum:=by
  have hc:=Int.mul_comm w.sum (w.map λx=>t*x/w.sum).sum;rw[H,Q,Int.sub_mul,←hc];omega
 have aw:0≤b.sum:=KN λx a=>(J x a).1;have ai:b.sum≤(w.length:Int)*w.sum:=by
  have B:=Kj (l:=b) (c:=w.sum-1) λx a=>(J x a).2;rw[M,Int.mul_sub,Int.mul_one] at B;omega
 have x0:0≤v:=by
  by_cases aa:v<0
  ·have:v*w.sum<0:=Int.mul_neg_of_neg_of_pos aa u;omega
  ·omega
 have x1:v≤w.length:=Int.le_of_mul_le_mul_right (by rw[←Z];exact ai) u;obtain⟨en,rfl⟩:∃en:Nat,v=en:=⟨v.toNat,by omega⟩
 have hp:=Mk (RO b) A;have ab:∀x∈A,0≤x∧x<(w.length:Int):=λx a=>by
  obtain⟨i,p⟩:=Acv.1 a;have ax:=(Aa4.1 p).1;have B:=F i (by omega);rw[p] at B;cases B;omega
 have aj:A.Nodup:=Aec.2 λi j p hj ay h=>by
  have B:=F i (by omega);have G:=F j (by omega);rw[Aa1 p] at B;rw[Aa1 hj] at G;have B:=Aat B;have G:=Aat G;omega
 have ac:=aJ u K F M J Z;have hs:SY A b=some (NU (RO b) A):=by
  unfold SY;rw[Aav ⟨by omega,by omega,by omega,Aa0.2 λx a=>by
   have:=ab x a;simp only[Aax,Abd];omega⟩]
 have ad:(NU (RO b) A).length=w.length:=by rw[hp.length_eq];exact K
 have ae:((NU (RO b) A).take en).Nodup:=List.Nodup.sublist (List.take_sublist _ _) (hp.nodup_iff.2 aj);have ak:∀x∈q,0≤x∧x≤t:=λx a=>by
  rw[I] at a;obtain⟨y,D,rfl⟩:=Abm.1 a;exact⟨V0 (by omega) (o.nn y D) C.1,cW (by omega) (JH o.nn y D) C.1⟩
 unfold F9 xT;rw[hs,Aap,Aav ⟨x0,by omega,by omega⟩,Aap,Abx];obtain⟨r,er,r1,r2,r3⟩:=Y0 (N:=N) (by omega) ((NU (RO b) A).take en) (by rw[Ab6];omega) ae (n:=w.length) (λx a=>ab x (hp.mem_iff.1 (Aeg a))) q V (λx a=>by have:=ak x a;omega);refine⟨r,er,⟨r1,λi x y a D=>?_⟩,?_⟩
 ·have al:q[i]? =some (t*y/w.sum):=by rw[I,Acd,D];rfl
  have am:b[i]? =some (t*y%w.sum):=by rw[H,Acd,D];rfl
  rw[r3 i _ al] at a;have a:=Aat a;have af:=o.nn y (Ab3 D);have az:=JH o.nn y (Ab3 D);have g0:=V0 (t:=t) (n:=y) (d:=w.sum) (by omega) af C.1;have a0:=Int.mul_ediv_add_emod (t*y) w.sum;have a1:t*y≤w.sum*y:=Adi C.2 af;split at a
  ·rename_i hm;have an:=ac _ hm;rw[Abx,Ab1,am,Acc] at an;have ao:w.sum*(t*y/w.sum)<w.sum*y:=by omega
   have:=Int.lt_of_mul_lt_mul_left ao (by omega);omega
  ·have ap:w.sum*(t*y/w.sum)≤w.sum*y:=by
    have:=Int.emod_nonneg (t*y) (show w.sum≠0 by omega);omega
   have:=Int.le_of_mul_le_mul_left ap u;omega
 ·rw[r2,Ab6,ad,I,Adf (by omega)];omega
def gI {N W:Nat}(v:18446744073709551616<N) (w:W≤64) {p:List Int}(a:PX W p) (n:Int):∃t,Lw N p n=some (t,Ja p t)∧WW t p∧t.sum=max 0 (min n p.sum):=by
 have z:=a.len;have m:WW (List.replicate W 0) p:=⟨by simp [a.len],λi x y g A=>by
  rw[Ac8] at g;split at g
  ·cases g;exact⟨Abo _,a.nn y (Ab3 A)⟩
  ·cases g⟩
 have o:∀t,WW t p→Hm N p t=some (t,Ja p t):=λt B=>by
  unfold Hm;rw[a.wo (by omega) (by omega) (B.sub a).2.2,Aap]
 have C:List.replicate ((p.length:Int)).toNat (0:Int)=List.replicate W 0:=by rw[a.len];rfl
 have D:=a.sum0;unfold Lw;rw[K2 (by omega) _ (by decide),C];by_cases q:0<n
 ·rw[Aba q,Aba (show(p.length:Int)≤64 by omega)];have b:I5 N p=some true:=by
   unfold I5;obtain⟨s,⟨u,F⟩,e⟩:=GO p.length (λn i s=>E9 N p (HN N) n s i) (λ_=>HN N) (λk s=>s=(p.take k).sum∧0≤s) (λn k s c=>by
    simp only[E9];rw[Ft c];rfl) (λn k s G c=>by
    obtain⟨u,F⟩:=G;have H:=Jb a.nn (k+1);have J:=Jb a.nn k;have K:=a.nn _ (Aa9 c);have M:=a.mv;rw[KR c] at H;simp only[E9];rw[FW c,Aaq,BB c,Aap,D5 (n:=1125899906842624-s) (by omega) (by omega),Aaz (show ¬p[k]<0 by omega),Aaz (show ¬1125899906842624-s<p[k] by omega),Bool.or_self,Aar,A9 (by omega),D5 (n:=s+p[k]) (by omega) (by omega)];exact⟨_,⟨by rw[KR c,u],by omega⟩,rfl⟩) N 0 0 ⟨rfl,Abo _⟩ (by omega) (Aaw _)
   exact e
  obtain⟨j,e,l,d⟩:=bD v w a (t:=min n p.sum) ⟨by omega,by omega⟩;rw[Bool.and_self,Aaq,b,Aap,Aap,Aaq,a.total (by omega) (by omega),Aap,e,Aap,Aaq];unfold J3;have I:PI (List.replicate W (0:Int)) j=j:=dN (by rw[l.len,z];simp);rw[I];exact⟨j,o j l,l,by rw[d];omega⟩
 ·rw[Aaz q,Bool.false_and,Aar,Aap,Aar];exact⟨_,o _ m,m,by rw[Xh];omega⟩
end Go.Proofs.YtabonambpbofgaaGreat
