import Derived.Test.YtabonambpbofgaaGreatNPureEx
namespace Go.Proofs.YtabonambpbofgaaGreat
set_option linter.all false
open Go.RowKit
def PG (N:Nat) (n a b:Int):Ic N n a b=some (if n<a then a else if b<n then b else n):=by
 unfold Ic;by_cases c:n<a
 ·rw[Acx c,Acf c];rfl
 ·rw[Ack c,Ace c];by_cases d:b<n
  ·rw[Acx d,Acf d];rfl
  ·rw[Ack d,Ace d];rfl
def Nw (N:Nat) (i n:Int):HR N i n=some (decide (0≤i)&&decide (i<n)):=rfl
def eT (N:Nat) (l:BC) (g:A3) (k:Int):∃a,IS N l g k=some a∧a.Ab=g.Ab∧a.Ac=g.Ac:=by
 have b:∀c:Bool,∃a,Hj N l g k (G4 N g) c=some a∧a.Ab=g.Ab∧a.Ac=g.Ac:=λc=>by
  unfold Hj;cases c
  ·exact⟨_,rfl,rfl,rfl⟩
  ·cases decide (l.G=5)<;>exact⟨_,rfl,rfl,rfl⟩
 unfold IS;cases decide (k=0)
 ·cases decide (k=1)
  ·cases decide (k=2)
   ·exact b (decide (k=3))
   ·exact b true
  ·exact⟨_,rfl,rfl,rfl⟩
 ·exact⟨_,rfl,rfl,rfl⟩
def gT (N:Nat) (l:BC) (g:A3) (t:Int):∃a,J2 N l g t=some a∧a.Ab=g.Ab∧a.Ay=g.Ay∧(0≤l.W→0≤g.Ac→g.Ac≤l.W→0≤a.Ac∧a.Ac≤l.W):=by
 unfold J2;cases decide (l.W≠0)
 ·exact⟨_,rfl,rfl,rfl,λ_ b c=>⟨b,c⟩⟩
 ·rw[Acc,PG,Acb];refine⟨_,rfl,rfl,rfl,λh0 b c=>?_⟩;show 0≤(if t<0 then 0 else if l.W<t then l.W else t)∧_≤l.W
  split
  ·exact⟨Add _,h0⟩
  ·split
   ·exact⟨h0,Add _⟩
   ·exact⟨by omega,show t≤_ by omega⟩
def jS (N:Nat) (l:BC) (g:A3):Df (Ib N l g):=by
 unfold Ib;cases g.Ay
 ·obtain⟨a,d⟩:=Sx N g.Ac g.Ab;obtain⟨b,i⟩:=Sx N 0 l.Ag;rw[Acd,d,Acb,i,Acb,PG,Acb];obtain⟨c,j⟩:=Xj N g.Ab (if a<b then b else if l.Ag<a then l.Ag else a);rw[j];exact⟨_,rfl⟩
 ·exact⟨_,rfl⟩
def ZY (N:Nat) (l:BC) (g:A3) (v:Int):∃b,Hz N l g v=some b∧b.Ab=g.Ab∧(l.G≠3→b=g):=by
 unfold Hz;by_cases a:l.G=3
 ·rw[show decide (l.G≠3)=false by simp [a],Acd];cases decide (l.Az≤v)
  ·cases decide (v≤l.Ba)<;>exact⟨_,rfl,rfl,λc=>absurd a c⟩
  ·exact⟨_,rfl,rfl,λc=>absurd a c⟩
 ·rw[show decide (l.G≠3)=true by simp [a],Acc];exact⟨g,rfl,rfl,λ_=>rfl⟩
def gF (N:Nat) (l:BC) (g:A3) (k:Int):A3:=(IS N l g k).getD g
def gA (N:Nat) (l:BC) (g:A3) (k:Int):A3:=(J2 N l g k).getD g
def gM (N:Nat) (l:BC) (g:A3):A3:=(Ib N l g).getD g
def gS (N:Nat) (l:BC) (g:A3) (v:Int):A3:=(Hz N l g v).getD g
def xR (N:Nat) (l:BC) (g:A3) (k:Int):IS N l g k=some (gF N l g k)∧(gF N l g k).Ab=g.Ab∧(gF N l g k).Ac=g.Ac:=by
 obtain⟨a,e,b⟩:=eT N l g k;unfold gF;rw[e];exact⟨rfl,b⟩
def xS (N:Nat) (l:BC) (g:A3) (k:Int):J2 N l g k=some (gA N l g k)∧(gA N l g k).Ab=g.Ab∧(gA N l g k).Ay=g.Ay∧(0≤l.W→0≤g.Ac→g.Ac≤l.W→0≤(gA N l g k).Ac∧(gA N l g k).Ac≤l.W):=by
 obtain⟨a,e,b⟩:=gT N l g k;unfold gA;rw[e];exact⟨rfl,b⟩
def eH (N:Nat) (l:BC) (g:A3):Ib N l g=some (gM N l g):=by
 obtain⟨a,e⟩:=jS N l g;unfold gM;rw[e];rfl
def xQ (N:Nat) (l:BC) (g:A3) (v:Int):Hz N l g v=some (gS N l g v)∧(gS N l g v).Ab=g.Ab∧(l.G≠3→gS N l g v=g):=by
 obtain⟨a,e,b⟩:=ZY N l g v;unfold gS;rw[e];exact⟨rfl,b⟩
def rP (N:Nat) (l:BC) (g:A3) (k:l.W≤64) (m:0≤l.Ag∧l.Ag≤l.W) (d:0≤g.Ab∧g.Ab≤l.W) (n:0≤g.Ac∧g.Ac≤l.W):(0≤(gM N l g).Ab∧(gM N l g).Ab≤l.W)∧(gM N l g).Ab-g.Ab≤l.Ag∧ -l.Ag≤(gM N l g).Ab-g.Ab∧(g.Ay=true→gM N l g=g):=by
 have e:=eH N l g;unfold Ib at e;cases a:g.Ay with
 |true=>
  rw[a,Acc] at e;have e:=Acg e;rw[←e];exact⟨d,by omega,by omega,λ_=>rfl⟩
 |false=>
  rw[a,Acd,bW N (by omega) (by omega) (by omega) (by omega),Acb,bW N (by omega) (by omega) (by omega) (by omega),Acb,PG,Acb] at e;have b:∃c,(if g.Ac-g.Ab<0-l.Ag then 0-l.Ag else if l.Ag<g.Ac-g.Ab then l.Ag else g.Ac-g.Ab)=c∧ -l.Ag≤c∧c≤l.Ag∧0≤g.Ab+c∧g.Ab+c≤l.W:=by
   refine⟨_,rfl,?_⟩;split
   ·omega
   ·split<;>omega
  obtain⟨c,b,o,p,i,j⟩:=b;rw[b,VT N (by omega) (by omega) (by omega) (by omega),Acb] at e;have e:=Acg e;rw[←e];exact⟨⟨i,j⟩,by show g.Ab+c-g.Ab≤_;omega,by show _≤g.Ab+c-g.Ab;omega,λq=>by cases q⟩
def jG (N:Nat) (l:BC) (k:Nat) (a:List Gz) (g:A3):A3:=a.foldl (λg f=>if f.Ar=(k:Int) then gF N l g f.G else g) g
def stA (N:Nat) (l:BC) (k:Nat) (cs:List LK) (g:A3):A3:=cs.foldl (λg c=>if c.Ar=(k:Int) then gA N l g c.Ac else g) g
def S7 {N:Nat}{l:BC}{k:Nat}{a:List Gz}{g:A3}{i:Nat}(b:i<a.length):jG N l k (a.take (i+1)) g=if a[i].Ar=(k:Int) then gF N l (jG N l k (a.take i) g) a[i].G else jG N l k (a.take i) g:=by
 unfold jG;rw[Adx b,Afe];rfl
def TA {N:Nat}{l:BC}{k:Nat}{cs:List LK}{g:A3}{i:Nat}(a:i<cs.length):stA N l k (cs.take (i+1)) g=if cs[i].Ar=(k:Int) then gA N l (stA N l k (cs.take i) g) cs[i].Ac else stA N l k (cs.take i) g:=by
 unfold stA;rw[Adx a,Afe];rfl
def ZM (L:Nat) (a:List A3) (g:Nat→A3):Prop:=a.length=L∧∀k,k<L→a[k]? =some (g k)
def ZM.ix {L:Nat}{a:List A3}{g:Nat→A3}(c:ZM L a g) {k:Nat}(b:k<L):ix a (k:Int)=some (g k):=by
 have:=c.2 k b;simp [Go.Proofs.YtabonambpbofgaaGreat.ix,this]
def ZM.upd {L:Nat}{b:List A3}{g a:Nat→A3}(m:ZM L b g) {j:Nat}(d:j<L) (x:A3) (i:a j=x) (l:∀k,k<L→k≠j→a k=g k):ZM L (upd b (j:Int) x) a:=
 ⟨by rw[M7];exact m.1,λk c=>by
  by_cases e:j=k
  ·subst e;rw[Hl (by rw[m.1];exact d),i]
  ·rw[Jj e,m.2 k c,l k c λm=>e m.symm]⟩
def ZM.congr {L:Nat}{a:List A3}{g b:Nat→A3}(d:ZM L a g) (e:∀k,k<L→b k=g k):ZM L a b:=⟨d.1,λk c=>by rw[d.2 k c,e k c]⟩
def YU (b:AF) (k:Nat):BC:=b.C.getD k default
def TS {b:AF}{k:Nat}(a:k<b.C.length):YU b k=b.C[k]:=by unfold YU;simp [Adp,a]
def nW {α}{l:List α}{i:Int}(h0:0≤i) (a:i<l.length):∃n:Nat,i=(n:Int)∧n<l.length:=⟨i.toNat,by omega,by omega⟩
def Q8 {i:Int}{n:Nat}:(decide (0≤i)&&decide (i<(n:Int)))=true↔0≤i∧i<n:=by simp
def dJ {N:Nat}(I:8000000000000<N) {w:AM}{b:AF}(q:w.b=b) (J:b.C.length≤1000) (K:w.in_.X.length≤1000) (M:w.in_.Y.length≤1000) {o:Nat→A3}(h0:ZM b.C.length w.s.P o):
  ∃x,HS N w=some x∧ZM b.C.length x (λk=>gM N (YU b k) (stA N (YU b k) k w.in_.Y (jG N (YU b k) k w.in_.X (o k)))):=by
 subst q;unfold HS;obtain⟨t,y,B⟩:=GK w.in_.X.length (λn i s=>C9 N w (Dd N w) n i s) (Dd N w) (λi s=>ZM w.b.C.length s (λk=>jG N (YU w.b k) k (w.in_.X.take i) (o k))) (λn k s a=>by
  simp only[C9];rw[Fj a];rfl) (λn i s g a=>by
  simp only[C9,HB];rw[FA a,Acc,BG a,Acb,Nw,Acb,BA (by omega)];cases l:(decide (0≤w.in_.X[i].Ar)&&decide (w.in_.X[i].Ar<(w.b.C.length:Int)))
  ·refine⟨s,g.congr λk d=>?_,rfl⟩;rw[S7 a,Ace];intro e;rw[e] at l;simp [d] at l
  ·obtain⟨u,v⟩:=Q8.1 l;obtain⟨j,m,c⟩:=nW u v;rw[Acc,m,BG c];simp only[g.ix c,Acb];rw[(xR N _ _ _).1,Acb];refine⟨_,g.upd c _ ?_ λk d p=>?_,rfl⟩
   ·rw[S7 a,Acf m,TS c]
   ·rw[S7 a,Ace (by rw[m];omega)]) N 0 w.s.P h0 (by omega) (Aci _)
 rw[show C9 N w (Dd N w) N 0 w.s.P=Dd N w t from B];rw[Adk] at y;unfold Dd;obtain⟨z,A,D⟩:=GK w.in_.Y.length (λn i s=>C8 N w (Dc N w) n i s) (Dc N w) (λi s=>ZM w.b.C.length s (λk=>stA N (YU w.b k) k (w.in_.Y.take i) (jG N (YU w.b k) k w.in_.X (o k)))) (λn k s a=>by
  simp only[C8];rw[Fj a];rfl) (λn i s g a=>by
  simp only[C8,HA];rw[FA a,Acc,BG a,Acb,Nw,Acb,BA (by omega)];cases l:(decide (0≤w.in_.Y[i].Ar)&&decide (w.in_.Y[i].Ar<(w.b.C.length:Int)))
  ·refine⟨s,g.congr λk d=>?_,rfl⟩;rw[TA a,Ace];intro e;rw[e] at l;simp [d] at l
  ·obtain⟨u,v⟩:=Q8.1 l;obtain⟨j,m,c⟩:=nW u v;rw[Acc,m,BG c];simp only[g.ix c,Acb];rw[(xS N _ _ _).1,Acb];refine⟨_,g.upd c _ ?_ λk d p=>?_,rfl⟩
   ·rw[TA a,Acf m,TS c]
   ·rw[TA a,Ace (by rw[m];omega)]) N 0 t y (by omega) (Aci _)
 rw[show C8 N w (Dc N w) N 0 t=Dc N w z from D];rw[Adk] at A;unfold Dc;obtain⟨F,G,H⟩:=GK w.b.C.length (λn i s=>D1 N w n i s) (λs=>some s) (λi s=>ZM w.b.C.length s (λk=>if k<i then gM N (YU w.b k) (stA N (YU w.b k) k w.in_.Y (jG N (YU w.b k) k w.in_.X (o k))) else stA N (YU w.b k) k w.in_.Y (jG N (YU w.b k) k w.in_.X (o k)))) (λn k s a=>by
  simp only[D1];rw[Fj a];rfl) (λn i s g a=>by
  simp only[D1];rw[FA a,Acc,BG a];simp only[g.ix a,Acb];rw[eH,Acb,BA (by omega),Ace (Nat.lt_irrefl i)];refine⟨_,g.upd a _ ?_ λk d p=>?_,rfl⟩
  ·rw[Acf (Nat.lt_succ_self i),TS a]
  ·by_cases Q:k<i
   ·rw[Acf Q,Acf (by omega)]
   ·rw[Ace Q,Ace (by omega)]) N 0 z (A.congr λk _=>by rw[Ace (Nat.not_lt_zero k)]) (by omega) (Aci _)
 exact⟨F,H,G.congr λk a=>by rw[Acf a]⟩
def cZ:∀{a b:List Int},a.Perm b→a.sum=b.sum:=λi=>by
 induction i with
 |nil=>rfl
 |cons x _ c=>simp only[Adu,c]
 |swap x y l=>simp only[Adu];omega
 |trans _ _ d g=>exact d.trans g
def K3:∀{l:List Int}{c:Int},(∀x∈l,x≤c)→l.sum≤l.length*c
 |[],c,_=>by simp
 |a::l,c,i=>by
  have d:=i a (Ac4 ..);have g:=K3 (l:=l) (c:=c) λx b=>i x (Adi _ b);rw[Adu,Aei,Int.natCast_succ,Int.add_mul,Int.one_mul];omega
def Yc {lt:Int→Int→Bool}(R:Int→Int) (g:∀x y,lt x y=true→R y≤R x) (d:∀x y,lt x y=false→R x≤R y) (x:Int):∀l:List Int,l.Pairwise (λa b=>R b≤R a)→(T4 lt x l).Pairwise λa b=>R b≤R a
 |[],_=>by simp [T4]
 |y::l,k=>by
  have j:∀z,z∈l→R z≤R y:=λz c=>List.rel_of_pairwise_cons k c;unfold T4;cases i:lt y x with
  |true=>
   refine List.Pairwise.cons (λz c=>?_) (Yc R g d x l k.of_cons);rcases Acl.1 ((Pp lt x l).mem_iff.1 c) with rfl|c
   ·exact g _ _ i
   ·exact j z c
  |false=>
   refine List.Pairwise.cons (λz c=>?_) k;rcases Acl.1 c with rfl|c
   ·exact d _ _ i
   ·exact Int.le_trans (j z c) (d _ _ i)
def Wa {lt:Int→Int→Bool}(R:Int→Int) (c:∀x y,lt x y=true→R y≤R x) (d:∀x y,lt x y=false→R x≤R y):∀l:List Int,(N0 lt l).Pairwise λa b=>R b≤R a
 |[]=> .nil
 |x::l=>Yc R c d x _ (Wa R c d l)
def cO (c:List Int) (x y:Int):(R4 c x y=true→c.getD y.toNat 0≤c.getD x.toNat 0)∧(R4 c x y=false→c.getD x.toNat 0≤c.getD y.toNat 0):=by
 show(cond (!decide (c.getD x.toNat 0=c.getD y.toNat 0)) (decide (c.getD y.toNat 0<c.getD x.toNat 0)) (decide (x.toNat<y.toNat))=true→_)∧(cond (!decide (c.getD x.toNat 0=c.getD y.toNat 0)) (decide (c.getD y.toNat 0<c.getD x.toNat 0)) (decide (x.toNat<y.toNat))=false→_)
 generalize c.getD x.toNat 0=a
 generalize c.getD y.toNat 0=b
 by_cases d:a=b
 ·subst d;exact⟨λ_=>Add _,λ_=>Add _⟩
 ·rw[Ack d,Bool.not_false,Acc];exact⟨λd=>by have:=Ad2 d;omega,λd=>by have:=Af1 d;omega⟩
def bR {n:Nat}{S:Int}(X:0<S) {b a:List Int}(H:b.length=n) (s:∀i,i<n→b[i]? =some (i:Int)) (I:a.length=n) (J:∀x∈a,0≤x∧x≤S-1) {p:Nat}(t:a.sum=p*S):∀x∈(N0 (R4 a) b).take p,0<a.getD x.toNat 0:=by
 intro x K;have M:=NH (R4 a) b;have u:=Wa (lt:=R4 a) (λx=>a.getD x.toNat 0) (λx y h=>(cO a x y).1 h) (λx y h=>(cO a x y).2 h) b;have m:b.map (λx=>a.getD x.toNat 0)=a:=Adl λi=>by
  rcases Acy i n with h|h
  ·rw[Ad4,s i h];have:i<a.length:=by omega
   simp [Adp,this]
  ·rw[Ac8 (by simp;omega),Ac8 (by omega)]
 have C:((N0 (R4 a) b).map λx=>a.getD x.toNat 0).sum=p*S:=by
  rw[cZ (M.map _),m,t]
 have v:∀y:Int,0≤a.getD y.toNat 0∧a.getD y.toNat 0≤S-1:=λy=>by
  rw[Adp];cases h:a[y.toNat]? with
  |none=>exact⟨Add _,by show(0:Int)≤S-1;omega⟩
  |some z=>exact J z (Adn h)
 generalize N0 (R4 a) b=l at*
 obtain⟨j,o⟩:=Aek.1 K;rw[Afy] at o;split at o
 ·rename_i Q;apply Afc;intro Y;have g:a.getD x.toNat 0=0:=by have:=(v x).1;omega
  have d:∀y∈l.drop j,a.getD y.toNat 0=0:=λy q=>by
   obtain⟨k,w⟩:=Aek.1 q;rw[Aes] at w;have U:=(Acq.1 o).1;have V:=(Acq.1 w).1;have D:=(Acq.1 o).2;have F:=(Acq.1 w).2;rcases Af3 k with h0|h0
   ·subst h0;have:y=x:=by rw[←D,←F];rfl
    rw[this];exact g
   ·have:=Af0.1 u j (j+k) U V (by omega);rw[D,F,g] at this;have:=(v y).1;omega
  have W:((l.drop j).map λx=>a.getD x.toNat 0).sum≤0:=by
   have:=K3 (l:=(l.drop j).map λx=>a.getD x.toNat 0) (c:=0) λz g=>by
    obtain⟨y,q,rfl⟩:=Adb.1 g;exact Int.le_of_eq (d y q)
   omega
  have A:((l.take j).map λx=>a.getD x.toNat 0).sum≤(j:Int)*(S-1):=by
   have:=K3 (l:=(l.take j).map λx=>a.getD x.toNat 0) (c:=S-1) λz g=>by
    obtain⟨y,q,rfl⟩:=Adb.1 g;exact(v y).2
   have Z:((l.take j).map λx=>a.getD x.toNat 0).length≤j:=by simp;omega
   have:(((l.take j).map λx=>a.getD x.toNat 0).length:Int)*(S-1)≤(j:Int)*(S-1):=Ae6 (by omega) (by omega);omega
  have G:(l.map λx=>a.getD x.toNat 0).sum=((l.take j).map λx=>a.getD x.toNat 0).sum+((l.drop j).map λx=>a.getD x.toNat 0).sum:=by
   rw[←Ad9,←Adw,List.take_append_drop]
  have B:((j:Int)+1)*S≤p*S:=Ae6 (by omega) (by omega);rw[Int.add_mul,Int.one_mul] at B;rw[Int.mul_sub,Int.mul_one] at A;omega
 ·cases o
def ZZ {N:Nat}(M:8000000000000<N) (l:List Int) (Q:l.length≤1000) (y:l.Nodup) {n:Nat}(c:∀x∈l,0≤x∧x<n) (a:List Int) (D:a.length=n) (F:∀x∈a, -4611686018427387904≤x∧x≤4611686018427387000):
  ∃r,GP N l (Hs N) N 0 a=some (r,true)∧r.length=n∧r.sum=a.sum+l.length∧∀(i:Nat) x,a[i]? =some x→r[i]? =some (x+if (i:Int)∈l then 1 else 0):=by
 obtain⟨s,⟨z,A,p⟩,e⟩:=GK l.length (λm i s=>GP N l (Hs N) m i s) (Hs N) (λk s=>s.length=n∧s.sum=a.sum+k∧∀(i:Nat) x,a[i]? =some x→s[i]? =some (x+if (i:Int)∈l.take k then 1 else 0)) (λm k s d=>by
  simp only[GP];rw[Fj d];rfl) (λm k s G d=>by
  obtain⟨z,A,p⟩:=G;simp only[GP];obtain⟨H,U⟩:=c _ (Acw d);obtain⟨j,B,b⟩:=nW (l:=s) H (by omega);have g:j<a.length:=by omega
  have t:(j:Int)∉l.take k:=λI=>by
   obtain⟨q,w⟩:=Aek.1 I;rw[Afy] at w;split at w
   ·rename_i C;have J:=(Acq.1 w).2;exact Af0.1 y q k (by omega) d C (by rw[J,B])
   ·cases w
  have u:s[j]=a[j]:=by
   have:=p j _ (Acn g);rw[Ace t,Acn b] at this;have:=Acg this;omega
  have K:=F _ (Acw g);rw[FA d,Acc,BG d,Acb,B,BG b,Acb,Acb,Acb,Acb,u,EM (n:=a[j]+1) (by omega) (by omega),BA (by omega)];refine⟨_,⟨by rw[M7];exact z,?_,λi x c=>?_⟩,rfl⟩
  ·show(s.set (j:Int).toNat _).sum=_
   rw[Adm,OC b,A,u];omega
  ·have v:l.take (k+1)=l.take k++[(j:Int)]:=by rw[Adx d,B]
   by_cases o:j=i
   ·subst o;rw[Hl b,v,Acf (by simp)];rw[Acn g] at c;cases c;rfl
   ·rw[Jj o,p i x c,v];have:(i:Int)≠(j:Int):=λV=>o (by omega);simp [this]) N 0 a ⟨D,by simp,λi x c=>by simp [c]⟩ (by omega) (Aci _)
 rw[Adk] at p;exact⟨s,e,z,A,p⟩
structure ShX (t S:Int) (w:List Int) (k:Nat) (s:Int×List Int×List Int×List Int):Prop where
 l1:s.2.1.length=w.length
 l2:s.2.2.1.length=w.length
 l3:s.2.2.2.length=w.length
 or_:∀i,i<k→s.2.1[i]? =some (i:Int)
 rm:∀i x,i<k→w[i]? =some x→s.2.2.1[i]? =some (t*x%S)
 qt:∀i x,i<k→w[i]? =some x→s.2.2.2[i]? =some (t*x/S)
 ex:s.1=t-((w.take k).map λx=>t*x/S).sum
def YM {t S:Int}(b:0<S):∀w:List Int,S*(w.map λx=>t*x/S).sum+(w.map λx=>t*x%S).sum=t*w.sum
 |[]=>by simp
 |a::w=>by
  have c:=YM (t:=t) b w;have d:=Int.mul_ediv_add_emod (t*a) S;simp only[Acz,Adu];rw[Int.mul_add,Int.mul_add];omega
def cM {N W:Nat}(hN:18446744073709551616<N) (hW:W≤64) {w:List Int}(o:PX W w) {t:Int}(C:0≤t∧t≤w.sum):∃q,Kp N t w=some (q,true)∧W7 q w∧q.sum=t:=by
 have ar:=o.len;have ag:=o.mv;unfold Kp;rw[Ack (show ¬64<(w.length:Int) by omega),Acd];obtain⟨s,⟨i1,i2⟩,e⟩:=GK w.length (λn i s=>GR N w (GT N t w) n s i) (GT N t w) (λk s=>s=(w.take k).sum∧0≤s) (λn k s g=>by
  simp only[GR];rw[Fj g];rfl) (λn k s p g=>by
  obtain⟨i1,i2⟩:=p;have h1:=Jy o.nn (k+1);have B:=Jy o.nn k;have G:=o.nn _ (Acw g);rw[Kk g] at h1;simp only[GR];rw[FA g,Acc,BG g,Acb,EM (n:=1125899906842624-s) (by omega) (by omega),Ack (show ¬w[k]<0 by omega),Ack (show ¬1125899906842624-s<w[k] by omega),Bool.or_self,Acd,BA (by omega),EM (n:=s+w[k]) (by omega) (by omega)];exact⟨_,⟨by rw[Kk g,i1],by omega⟩,rfl⟩) N 0 0 ⟨rfl,Add _⟩ (by omega) (Aci _)
 rw[show GR N w (GT N t w) N 0 0=GT N t w s from e];rw[Adk] at i1;subst i1;unfold GT;rw[Ack (show ¬t<0 by omega),Ack (show ¬w.sum<t by omega),Bool.or_self,Acd,LT (by omega) _ (by decide)];by_cases U:w.sum=0
 ·rw[Acx U,Acc];refine⟨_,rfl,⟨OF _ _,λi x y a D=>?_⟩,by simp;omega⟩;rw[Aew] at a;split at a
  ·cases a;exact⟨Add _,o.nn y (Adn D)⟩
  ·cases a
 rw[Ack U,Acd,LT (by omega) _ (by decide),LT (by omega) _ (by decide)];have u:0<w.sum:=by have:=o.sum0;omega
 have h1:1≤w.length:=by
  cases w with
  |nil=>exact absurd rfl U
  |cons _ _=>simp
 obtain⟨⟨v,A,b,q⟩,⟨K,M,V,F,X,Y,Q⟩,e3⟩:=GK w.length (λn i (s:Int×List Int×List Int×List Int)=>GQ N t w w.sum (GS N) n s.1 i s.2.1 s.2.2.1 s.2.2.2) (λs=>GS N s.1 s.2.1 s.2.2.1 s.2.2.2) (λk s=>ShX t w.sum w k s) (λn k s g=>by
  simp only[GQ];rw[Fj g];rfl) (λn k s p g=>by
  obtain⟨v,A,b,q⟩:=s;obtain⟨K,M,V,F,X,Y,Q⟩:=p;simp only at K M V F X Y Q;have w0:=o.nn _ (Acw g);have wS:=Jd o.nn _ (Acw g);have hq:=eQ (t:=t) (n:=w[k]) (d:=w.sum) (by omega) wS C.1;have au:=Wb (t:=t) (n:=w[k]) (d:=w.sum) (by omega) w0 C.1;have ah:v≤t∧ -(k:Int)*1125899906842624≤v:=by
   have h1:0≤((w.take k).map λx=>t*x/w.sum).sum:=Se λx a=>Wb (by omega) (o.nn x (Af5 a)) C.1;have B:((w.take k).map λx=>t*x/w.sum).sum≤(((w.take k).map λx=>t*x/w.sum).length:Int)*1125899906842624:=K3 λz U=>by
    obtain⟨x,a,rfl⟩:=Adb.1 U;have:=eQ (t:=t) (n:=x) (d:=w.sum) (by omega) (Jd o.nn x (Af5 a)) C.1;omega
   have G:((w.take k).map λx=>t*x/w.sum).length=k:=by simp;omega
   rw[G] at B;rw[Int.neg_mul];omega
  have aq:(k:Int)*1125899906842624≤64*1125899906842624:=Ae6 (by omega) (by decide);rw[Int.neg_mul] at ah;simp only[GQ];rw[FA g,Acc,BG g,Acb,O5 hN,qT ⟨C.1,by omega⟩ ⟨w0,by omega⟩ ⟨by omega,ag⟩ (by omega)];simp only[Acb,BG (show k<A.length by omega),BG (show k<b.length by omega),BG (show k<q.length by omega)];rw[BA (by omega),EM (n:=v-t*w[k]/w.sum) (by omega) (by omega)];refine⟨⟨_,_,_,_⟩,⟨by show(upd A _ _).length=_;rw[M7];exact K,by show(upd b _ _).length=_;rw[M7];exact M,by show(upd q _ _).length=_;rw[M7];exact V,λi p=>?_,λi x p a=>?_,λi x p a=>?_,?_⟩,rfl⟩
  ·show(upd A (k:Int) (k:Int))[i]? =_
   by_cases m:k=i
   ·subst m;exact Hl (by omega) _
   ·rw[Jj m];exact F i (by omega)
  ·show(upd b (k:Int) _)[i]? =_
   by_cases m:k=i
   ·subst m;rw[Acn g] at a;cases a;exact Hl (by omega) _
   ·rw[Jj m];exact X i x (by omega) a
  ·show(upd q (k:Int) _)[i]? =_
   by_cases m:k=i
   ·subst m;rw[Acn g] at a;cases a;exact Hl (by omega) _
   ·rw[Jj m];exact Y i x (by omega) a
  ·show v-t*w[k]/w.sum=_
   rw[Rh g,Q];omega) N 0 (t,List.replicate ((w.length:Int)).toNat 0,List.replicate ((w.length:Int)).toNat 0,List.replicate ((w.length:Int)).toNat 0) ⟨OF _ _,OF _ _,OF _ _,λi p=>by omega,λi x p=>by omega,λi x p=>by omega,by simp⟩ (by omega) (Aci _)
 simp only at K M V F X Y Q;rw[show GQ N t w w.sum (GS N) N t 0 _ _ _=GS N v A b q from e3];have H:b=w.map λx=>t*x%w.sum:=Adl λi=>by
  rcases Acy i w.length with h|h
  ·rw[X i _ h (Acn h),Ad4,Acn h];rfl
  ·rw[Ac8 (by omega),Ac8 (by simp;omega)]
 have I:q=w.map λx=>t*x/w.sum:=Adl λi=>by
  rcases Acy i w.length with h|h
  ·rw[Y i _ h (Acn h),Ad4,Acn h];rfl
  ·rw[Ac8 (by omega),Ac8 (by simp;omega)]
 rw[Adk] at Q;have av:=YM (t:=t) u w;have J:∀x∈b,0≤x∧x≤w.sum-1:=λx a=>by
  rw[H] at a;obtain⟨y,_,rfl⟩:=Adb.1 a;have B:=Int.emod_nonneg (t*y) (show w.sum≠0 by omega);have G:=Int.emod_lt_of_pos (t*y) u;omega
 have Z:b.sum=v*w.sum:=by
  have hc:=Int.mul_comm w.sum (w.map λx=>t*x/w.sum).sum;rw[H,Q,Int.sub_mul,←hc];omega
 have aw:0≤b.sum:=Ki λx a=>(J x a).1;have ai:b.sum≤(w.length:Int)*w.sum:=by
  have B:=K3 (l:=b) (c:=w.sum-1) λx a=>(J x a).2;rw[M,Int.mul_sub,Int.mul_one] at B;omega
 have x0:0≤v:=by
  by_cases aa:v<0
  ·have:v*w.sum<0:=Int.mul_neg_of_neg_of_pos aa u;omega
  ·omega
 have x1:v≤w.length:=Int.le_of_mul_le_mul_right (by rw[←Z];exact ai) u;obtain⟨en,rfl⟩:∃en:Nat,v=en:=⟨v.toNat,by omega⟩
 have hp:=NH (R4 b) A;have ab:∀x∈A,0≤x∧x<(w.length:Int):=λx a=>by
  obtain⟨i,p⟩:=Aek.1 a;have ax:=(Acq.1 p).1;have B:=F i (by omega);rw[p] at B;cases B;omega
 have aj:A.Nodup:=Af0.2 λi j p hj ay h=>by
  have B:=F i (by omega);have G:=F j (by omega);rw[Acn p] at B;rw[Acn hj] at G;have B:=Acg B;have G:=Acg G;omega
 have ac:=bR u K F M J Z;have hs:TD A b=some (N0 (R4 b) A):=by
  unfold TD;rw[Acf ⟨by omega,by omega,by omega,Acm.2 λx a=>by
   have:=ab x a;simp only[Acj,Ac1];omega⟩]
 have ad:(N0 (R4 b) A).length=w.length:=by rw[hp.length_eq];exact K
 have ae:((N0 (R4 b) A).take en).Nodup:=List.Nodup.sublist (List.take_sublist _ _) (hp.nodup_iff.2 aj);have ak:∀x∈q,0≤x∧x≤t:=λx a=>by
  rw[I] at a;obtain⟨y,D,rfl⟩:=Adb.1 a;exact⟨Wb (by omega) (o.nn y D) C.1,eQ (by omega) (Jd o.nn y D) C.1⟩
 unfold GS Aac;rw[hs,Acb,Acf ⟨x0,by omega,by omega⟩,Acb,Adm];obtain⟨r,er,r1,r2,r3⟩:=ZZ (N:=N) (by omega) ((N0 (R4 b) A).take en) (by rw[Adv];omega) ae (n:=w.length) (λx a=>ab x (hp.mem_iff.1 (Af5 a))) q V (λx a=>by have:=ak x a;omega);refine⟨r,er,⟨r1,λi x y a D=>?_⟩,?_⟩
 ·have al:q[i]? =some (t*y/w.sum):=by rw[I,Ad4,D];rfl
  have am:b[i]? =some (t*y%w.sum):=by rw[H,Ad4,D];rfl
  rw[r3 i _ al] at a;have a:=Acg a;have af:=o.nn y (Adn D);have az:=Jd o.nn y (Adn D);have g0:=Wb (t:=t) (n:=y) (d:=w.sum) (by omega) af C.1;have a0:=Int.mul_ediv_add_emod (t*y) w.sum;have a1:t*y≤w.sum*y:=Ae6 C.2 af;split at a
  ·rename_i hm;have an:=ac _ hm;rw[Adm,Adp,am,Ad0] at an;have ao:w.sum*(t*y/w.sum)<w.sum*y:=by omega
   have:=Int.lt_of_mul_lt_mul_left ao (by omega);omega
  ·have ap:w.sum*(t*y/w.sum)≤w.sum*y:=by
    have:=Int.emod_nonneg (t*y) (show w.sum≠0 by omega);omega
   have:=Int.le_of_mul_le_mul_left ap u;omega
 ·rw[r2,Adv,ad,I,Ae3 (by omega)];omega
def jA {N W:Nat}(v:18446744073709551616<N) (w:W≤64) {p:List Int}(a:PX W p) (n:Int):∃t,MV N p n=some (t,Jx p t)∧W7 t p∧t.sum=max 0 (min n p.sum):=by
 have z:=a.len;have m:W7 (List.replicate W 0) p:=⟨by simp [a.len],λi x y g A=>by
  rw[Aew] at g;split at g
  ·cases g;exact⟨Add _,a.nn y (Adn A)⟩
  ·cases g⟩
 have o:∀t,W7 t p→H3 N p t=some (t,Jx p t):=λt B=>by
  unfold H3;rw[a.wo (by omega) (by omega) (B.sub a).2.2,Acb]
 have C:List.replicate ((p.length:Int)).toNat (0:Int)=List.replicate W 0:=by rw[a.len];rfl
 have D:=a.sum0;unfold MV;rw[LT (by omega) _ (by decide),C];by_cases q:0<n
 ·rw[Acx q,Acx (show(p.length:Int)≤64 by omega)];have b:JP N p=some true:=by
   unfold JP;obtain⟨s,⟨u,F⟩,e⟩:=GK p.length (λn i s=>FT N p (Hh N) n s i) (λ_=>Hh N) (λk s=>s=(p.take k).sum∧0≤s) (λn k s c=>by
    simp only[FT];rw[Fj c];rfl) (λn k s G c=>by
    obtain⟨u,F⟩:=G;have H:=Jy a.nn (k+1);have J:=Jy a.nn k;have K:=a.nn _ (Acw c);have M:=a.mv;rw[Kk c] at H;simp only[FT];rw[FA c,Acc,BG c,Acb,EM (n:=1125899906842624-s) (by omega) (by omega),Ack (show ¬p[k]<0 by omega),Ack (show ¬1125899906842624-s<p[k] by omega),Bool.or_self,Acd,BA (by omega),EM (n:=s+p[k]) (by omega) (by omega)];exact⟨_,⟨by rw[Kk c,u],by omega⟩,rfl⟩) N 0 0 ⟨rfl,Add _⟩ (by omega) (Aci _)
   exact e
  obtain⟨j,e,l,d⟩:=cM v w a (t:=min n p.sum) ⟨by omega,by omega⟩;rw[Bool.and_self,Acc,b,Acb,Acb,Acc,a.total (by omega) (by omega),Acb,e,Acb,Acc];unfold KR;have I:Pr (List.replicate W (0:Int)) j=j:=fN (by rw[l.len,z];simp);rw[I];exact⟨j,o j l,l,by rw[d];omega⟩
 ·rw[Ack q,Bool.false_and,Acd,Acb,Acd];exact⟨_,o _ m,m,by rw[YI];omega⟩
structure Jw (P W:Nat) (o:List (List Int)):Prop where
 len:o.length=P
 all:∀x∈o,PX W x
def GG (o:List (List Int)):Int:=(o.map List.sum).sum
def He (q:List AT):Int:=(q.map λl=>l.V.sum).sum
def Jw.ix {P W:Nat}{o:List (List Int)}(c:Jw P W o) {k:Nat}(a:k<P):∃x,Go.Proofs.YtabonambpbofgaaGreat.ix o (k:Int)=some x∧o[k]? =some x∧PX W x:=by
 obtain⟨x,e,b⟩:=Abz (l:=o) (i:=k) (by rw[c.len];exact a);exact⟨x,e,by rw[BG (by rw[c.len];exact a)] at e;rw[Acn (by rw[c.len];exact a)];exact e,c.all x b⟩
def Jw.upd {P W:Nat}{o:List (List Int)}(c:Jw P W o) (i:Int) {x:List Int}(b:PX W x):Jw P W (upd o i x):=
 ⟨by rw[M7];exact c.len,λy a=>by
  rcases Afr a with a|rfl
  ·exact c.all y a
  ·exact b⟩
def Jw.nn {P W:Nat}{o:List (List Int)}(c:Jw P W o):∀x∈o.map List.sum,0≤x:=λx a=>by
 obtain⟨y,b,rfl⟩:=Adb.1 a;exact(c.all y b).sum0
def Q3 {o:List (List Int)}{k:Nat}{x y:List Int}(a:o[k]? =some x):GG (upd o (k:Int) y)=GG o-x.sum+y.sum:=by
 have b:=(Acq.1 a).1;have c:=(Acq.1 a).2;unfold GG upd;rw[Adm,List.map_set,OC (by simpa using b),List.getElem_map,c]
def Jw.le {P W:Nat}{o:List (List Int)}(b:Jw P W o) {k:Nat}{x:List Int}(a:o[k]? =some x):x.sum≤GG o:=Jd b.nn _ (Adb.2 ⟨x,Adn a,rfl⟩)
def Jw.sum0 {P W:Nat}{o:List (List Int)}(a:Jw P W o):0≤GG o:=Ki a.nn
def Nz {o:List (List Int)}{k:Nat}(a:k<o.length):GG (o.take (k+1))=GG (o.take k)+(o[k]).sum:=Rh a
def M3 {q:List AT}{k:Nat}(a:k<q.length):He (q.take (k+1))=He (q.take k)+(q[k]).V.sum:=Rh (f:=λl:AT=>l.V.sum) a
def OH {P W:Nat}{o:List (List Int)}(a:Jw P W o) (k:Nat):0≤GG (o.take k)∧GG (o.take k)≤GG o:=by
 have:=Jy a.nn k;rw[←List.map_take] at this;exact this
def QX (P W:Nat) (q:List AT):Prop:=∀l∈q,PX W l.V∧0≤l.E∧l.E<P
def QX.nn {P W:Nat}{q:List AT}(c:QX P W q):∀x∈q.map (λl=>l.V.sum),0≤x:=λx a=>by
 obtain⟨y,b,rfl⟩:=Adb.1 a;exact(c y b).1.sum0
def IR {P W:Nat}{q:List AT}(a:QX P W q) (k:Nat):0≤He (q.take k)∧He (q.take k)≤He q:=by
 have:=Jy a.nn k;rw[←List.map_take] at this;exact this
def v1 (W:Nat) (n:Int):List Int:=upd (List.replicate W 0) 0 n
def Ss (W:Nat) (n:Int):(v1 W n).length=W:=by unfold v1;rw[M7];simp
def Us {W:Nat}(a:1≤W) (n:Int):(v1 W n).sum=n:=by
 unfold v1 upd;rw[show (0:Int).toNat=0 from rfl,OC (by simp;omega)];simp
def mW {W:Nat}(c:1≤W) {n:Int}(h0:0≤n) (b:n≤1125899906842624):PX W (v1 W n):=
 ⟨Ss W n,λx a=>by
  rcases Afr a with a|rfl
  ·rw[(List.mem_replicate.1 a).2];exact Add 0
  ·exact h0,by rw[Us c];exact b⟩
def X4 (W:Nat):v1 W 0=List.replicate W 0:=by
 unfold v1 upd;apply Adl;intro i;by_cases a:0=i
 ·subst a;rcases Af3 W with a|a
  ·subst a;rfl
  ·rw[show (0:Int).toNat=0 from rfl,Aer (by simp;omega),Aew,Acf a]
 ·rw[show (0:Int).toNat=0 from rfl,Ael a]
def UC {W:Nat}{p:List Int}(b:p.length=W):Hx p (List.replicate W 0)=p:=by
 apply Adl;intro i;rw[Hx,Aeq,Aew];rcases Acy i W with a|a
 ·rw[Acf a,Acn (by omega)];simp
 ·rw[Ace (by omega),Ac8 (show p.length≤i by omega)]
def Sr:∀(p q r:List Int),Hx (Hx p q) r=Hx p (Hx q r)
 |[],_,_=>by simp [Hx]
 |_::_,[],_=>by simp [Hx]
 |_::_,_::_,[]=>by simp [Hx]
 |a::p,b::q,c::r=>by
  have:=Sr p q r;simp only[Hx,List.zipWith_cons_cons] at this ⊢;rw[this,Int.add_assoc]
def X3 {W:Nat}{p:List Int}(g:p.length=W) (d:1≤W) (n x:Int) (c:ix p 0=some x):upd p 0 (x+n)=Hx p (v1 W n):=by
 have b:p[0]? =some x:=(FB c).2;apply Adl;intro i;unfold v1 upd;rw[Hx,Aeq,show(0:Int).toNat=0 from rfl];by_cases a:0=i
 ·subst a;rw[Aer (by omega),Aer (by simp;omega),b]
 ·rw[Ael a,Ael a,Aew];rcases Acy i W with a|a
  ·rw[Acf a,Acn (show i<p.length by omega)];simp
  ·rw[Ace (by omega),Ac8 (show p.length≤i by omega)]
def pO {W:Nat}(g:1≤W) (a b:Int):Hx (v1 W a) (v1 W b)=v1 W (a+b):=by
 apply Adl;intro i;rw[Hx,Aeq];unfold v1 upd;rw[show (0:Int).toNat=0 from rfl];by_cases c:0=i
 ·subst c;rw[Aer (by simp;omega),Aer (by simp;omega),Aer (by simp;omega)]
 ·rw[Ael c,Ael c,Ael c,Aew];by_cases d:i<W<;>simp [d]
def Z7 (H:Int) (W:Nat):Nat→List Int→List AX
 |_,[]=>[]
 |i,n::l=>(if 0<n then [⟨H, -1,(i:Int), -4,v1 W n⟩] else [])++Z7 H W (i+1) l
def TI (H:Int) (W:Nat) (n:Int):∀(l:List Int) (i:Nat),Z7 H W i (l++[n])=Z7 H W i l++(if 0<n then [⟨H, -1,((i+l.length:Nat):Int), -4,v1 W n⟩] else [])
 |[],i=>by simp [Z7]
 |a::l,i=>by
  have e:i+(a::l).length=i+1+l.length:=by simp;omega
  rw[Acu,Z7,TI H W n l (i+1),Z7,e,Ado]
def Uy (H:Int) (W:Nat):∀(l:List Int) (i:Nat),(Z7 H W i l).length≤l.length
 |[],_=>by simp [Z7]
 |a::l,i=>by
  have:=Uy H W l (i+1);rw[Z7,Ac6];split<;>simp<;>omega
structure Abi (w:AM) (W k:Nat) (l:List Int) (s:Int×Int×List AX×List (List Int)×List Int):Prop where
 ll:l.length=k
 l0:∀n∈l,0≤n
 ms:s.2.2.1=Z7 w.s.B W 0 l
 own:Jw w.b.A.length W s.2.2.2.1
 lo:∀(i:Nat) x n,w.s.H[i]? =some x→l[i]? =some n→s.2.2.2.1[i]? =some (Hx x (v1 W n))
 hi:∀i,k≤i→s.2.2.2.1[i]? =w.s.H[i]?
 th:s.1=GG s.2.2.2.1+He w.s.I∧s.1≤1125899906842624
 inn:s.2.2.2.2=Hx w.s.D (v1 W l.sum)
 en:s.2.1=w.s.D.sum+l.sum∧s.2.1≤1152921504606846976
 os:GG s.2.2.2.1=GG w.s.H+l.sum
structure Z1 (P W:Nat) (o:List (List Int)):Prop where
 len:o.length=P
 all:∀x∈o,x.length=W
def Z1.ix {P W:Nat}{o:List (List Int)}(c:Z1 P W o) {k:Nat}(a:k<P):∃x,Go.Proofs.YtabonambpbofgaaGreat.ix o (k:Int)=some x∧x.length=W:=by
 obtain⟨x,e,b⟩:=Abz (l:=o) (i:=k) (by rw[c.len];exact a);exact⟨x,e,c.all x b⟩
def Z1.upd {P W:Nat}{o:List (List Int)}(c:Z1 P W o) (i:Int) {x:List Int}(b:x.length=W):Z1 P W (upd o i x):=
 ⟨by rw[M7];exact c.len,λy a=>by
  rcases Afr a with a|rfl
  ·exact c.all y a
  ·exact b⟩
def Ug {N:Nat}(q:8000000000000<N) {s:AI}(t:s.H.length≤64) (g:∀x∈s.H,x.length≤1000) (u:s.N.length≤1000) (v:s.P.length≤1000) (w:s.D.length≤1000) (y:s.O.length≤1000):Kn N s=some s:=by
 unfold Kn;rw[LT (by omega) _ (by decide)];obtain⟨o,⟨z,j⟩,e⟩:=GK s.H.length (λn i l=>GN N s (GO N s) n i l) (GO N s) (λk (l:List (List Int))=>l.length=s.H.length∧∀i,i<k→l[i]? =s.H[i]?) (λn k l a=>by
  simp only[GN];rw[Fj a];rfl) (λn k l d a=>by
  simp only[GN];have b:k<l.length:=by rw[d.1];exact a
  rw[FA a,Acc,BG a,Acb,M5 N (by have:=g _ (Acw a);omega)];simp only[BG b,Acb];rw[BA (by omega)];refine⟨_,⟨by rw[M7];exact d.1,λi m=>?_⟩,rfl⟩;by_cases c:k=i
  ·subst c;rw[Hl b];simp [a]
  ·rw[Jj c];exact d.2 i (by omega)) N 0 (List.replicate ((s.H.length:Int)).toNat ([]:List Int)) ⟨Qy _ _,λi d=>by omega⟩ (by omega) (Aci _)
 rw[show GN N s (GO N s) N 0 _=GO N s o from e];have p:o=s.H:=Adl λi=>by
  rcases Acy i s.H.length with A|A
  ·exact j i A
  ·rw[Ac8 A,Ac8 (by omega)]
 subst p;unfold GO;rw[M5 N (by omega),Acb,Xd N (by omega),Acb,M5 N (by omega),Acb,M5 N (by omega),Acb]
def Aby (a:List Int) (i:Int):Int:=a.getD i.toNat 0
def rD {a:List Int}{i:Int}(h0:0≤i) (c:i<a.length):ix a i=some (Aby a i):=by
 obtain⟨n,rfl,b⟩:=nW h0 c;rw[BG b];simp [Aby,Adp,b]
def VS (W:Nat) (t:Int) (q:List AT) (p:Nat):List Int:=(q.filter λl=>decide (l.At≤t)&&decide (l.E=(p:Int))).foldl (λa l=>Hx a l.V) (List.replicate W 0)
def MQ (t:Int) (q:List AT):List AT:=q.filter λl=>decide (t<l.At)
def Ul {W:Nat}{t:Int}{q:List AT}{p k:Nat}(d:k<q.length):VS W t (q.take (k+1)) p=if (q[k]).At≤t∧(q[k]).E=(p:Int) then Hx (VS W t (q.take k) p) (q[k]).V else VS W t (q.take k) p:=by
 unfold VS;rw[Adx d,Aep,Afe];by_cases a:(q[k]).At≤t∧(q[k]).E=(p:Int)
 ·rw[Acf a];simp [a.1,a.2]
 ·rw[Ace a];have:(decide ((q[k]).At≤t)&&decide ((q[k]).E=(p:Int)))=false:=by
   rw[Bool.and_eq_false_iff];simp only[Ac2];by_cases b:(q[k]).At≤t
   ·exact .inr λc=>a ⟨b,c⟩
   ·exact .inl b
  simp [this]
def TJ {t:Int}{q:List AT}{k:Nat}(b:k<q.length):MQ t (q.take (k+1))=if (q[k]).At≤t then MQ t (q.take k) else MQ t (q.take k)++[q[k]]:=by
 unfold MQ;rw[Adx b,Aep];by_cases a:(q[k]).At≤t
 ·rw[Acf a];simp;omega
 ·rw[Ace a];have:t<(q[k]).At:=by omega
  simp [this]
def WQ (a b:List AT):He (a++b)=He a+He b:=by unfold He;rw[Adw,Ad9]
structure Ab9 (P W:Nat) (t:Int) (q:List AT) (k:Nat) (s:List AT×List (List Int)):Prop where
 rest:s.1=MQ t (q.take k)
 own:Jw P W s.2
 at_:∀p,p<P→s.2[p]? =some (VS W t (q.take k) p)
 tot:GG s.2+He s.1=He (q.take k)
def WT (W:Nat):∀P:Nat,GG (List.replicate P (List.replicate W 0))=0
 |0=>rfl
 |P+1=>by
  have:=WT W P;unfold GG at this ⊢;rw[List.replicate_succ,Acz,Adu,this,YI];rfl
def sB {N:Nat}(Y:8000000000000<N) {P W:Nat}(hP:P≤64) (hW:W≤16) {q:List AT}(hq:q.length≤4000000000000) (c:QX P W q) (Z:He q≤1125899906842624) (t:Int):
  ∃s,MU N q t (P:Int) (W:Int)=some (s.2,s.1)∧Ab9 P W t q q.length s:=by
 unfold MU;rw[PG,Acb,PG,Acb,Ace (show ¬(P:Int)<0 by omega),Ace (show ¬64<(P:Int) by omega),Ace (show ¬(W:Int)<0 by omega),Ace (show ¬16<(W:Int) by omega),LT (by omega) _ (by decide)];obtain⟨o,⟨i1,K⟩,e⟩:=GK P (λn i l=>HU N (P:Int) (W:Int) (HV N q t (P:Int)) n i l) (HV N q t (P:Int)) (λk (l:List (List Int))=>l.length=P∧∀i,i<k→l[i]? =some (List.replicate W 0)) (λn k l a=>by
  simp only[HU];rw[Qy,Fj a];rfl) (λn k l m a=>by
  simp only[HU];have w:k<l.length:=by rw[m.1];exact a
  rw[Qy,FA a,Acc,LT (by omega) _ (by decide),BG w,Acb,Acb,BA (by omega)];refine⟨_,⟨by rw[M7];exact m.1,λi aa=>?_⟩,rfl⟩;by_cases z:k=i
  ·subst z;rw[Hl w];rfl
  ·rw[Jj z];exact m.2 i (by omega)) N 0 (List.replicate ((P:Int)).toNat ([]:List Int)) ⟨Qy _ _,λi m=>by omega⟩ (by omega) (Aci _)
 rw[show HU N (P:Int) (W:Int) (HV N q t (P:Int)) N 0 _=HV N q t (P:Int) o from e];have M:o=List.replicate P (List.replicate W 0):=Adl λi=>by
  rcases Acy i P with h|h
  ·rw[K i h,Aew,Acf h]
  ·rw[Ac8 (by omega),Ac8 (by simp;omega)]
 have I:Jw P W o:=⟨i1,λx Q=>by rw[M] at Q;rw[(List.mem_replicate.1 Q).2];exact PX.zero W⟩
 unfold HV;obtain⟨s,i3,e2⟩:=GK q.length (λn i (s:List AT×List (List Int))=>Gr N q t (P:Int) (Ip N) n s.1 i s.2) (λs=>Ip N s.1 s.2) (λk s=>Ab9 P W t q k s) (λn k s a=>by
  simp only[Gr];rw[Fj a];rfl) (λn k s m a=>by
  obtain⟨F,o⟩:=s;obtain⟨A,d,G,U⟩:=m;simp only at A d G U;obtain⟨H,V,X⟩:=c _ (Acw a);have h2:=IR c (k+1);rw[M3 a] at h2;have ab:F.length≤k:=by rw[A];exact Adq (Afs _ _) (by rw[Adv];omega)
  have ac:0≤He F:=by
   rw[A];exact Se λl hl=>(c l (Af5 ((Ads.1 hl).1))).1.sum0
  simp only[Gr,KQ];rw[FA a,Acc,BG a,Acb,BA (by omega),Acx V,Acx X,Bool.and_true,Bool.and_true];by_cases u:(q[k]).At≤t
  ·obtain⟨j,J,B⟩:=nW (l:=o) V (by rw[d.len];exact X);obtain⟨y,hy,b,g⟩:=d.ix (k:=j) (by rw[←d.len];exact B);have ad:=d.le b;have C:=g.add H (by omega);rw[Acx u,Acc,J,hy,Acb,Acb,g.padd Y (by omega) H,Acb,Acb,Acb];refine⟨(_,_),⟨by rw[TJ a,Acf u];exact A,d.upd _ C,λp v=>?_,?_⟩,rfl⟩
   ·show(upd o (j:Int) _)[p]? =_
    rw[Ul a];by_cases D:j=p
    ·subst D;rw[Hl B,Acf ⟨u,J⟩];rw[G j v] at b;rw[Acg b]
    ·rw[Jj D,Ace (by rw[J];omega)];exact G p v
   ·show GG (upd o (j:Int) _)+He F=_
    rw[Q3 b,ME (g.len.trans H.len.symm),M3 a];omega
  ·rw[Ack u,Acd,M5 N (by rw[H.len];omega),Acb,F7 (by simp;omega)];refine⟨(_,_),⟨by rw[TJ a,Ace u,←A],d,λp v=>?_,?_⟩,rfl⟩
   ·rw[Ul a,Ace λh=>u h.1];exact G p v
   ·show GG o+He (F++[_])=_
    rw[WQ,M3 a];simp only[He,Acz,List.map_nil,Adu,List.sum_nil] at U ⊢;omega) N 0 ([],o) ⟨rfl,I,λp v=>by
   show o[p]? =_
   rw[K p v];rfl,by
   show GG o+He []=He (q.take 0)
   rw[M,WT];rfl⟩ (by omega) (Aci _)
 exact⟨s,e2,i3⟩
structure ArX (w:AM) (W:Nat) (r:List (List Int)×List AT×List A3×List Int):Prop where
 own:Jw w.b.A.length W r.1
 at_:∀(p:Nat) x,w.s.H[p]? =some x→r.1[p]? =some (Hx x (VS W w.s.B w.s.I p))
 rest:r.2.1=MQ w.s.B w.s.I
 pk:r.2.2.2=r.1.map List.sum
 tot:GG r.1+He r.2.1=GG w.s.H+He w.s.I
def uC {N:Nat}(hN:8000000000000<N) {w:AM}{W:Nat}(hW:w.b.J.length=W) (ab:W≤16) (hP:w.b.A.length≤64) (hL:w.b.C.length≤96) (ac:∀l∈w.b.C,KY w.b l) (ho:Jw w.b.A.length W w.s.H) (hq:w.s.I.length≤4000000000000) (z:QX w.b.A.length W w.s.I) (ht:GG w.s.H+He w.s.I≤1125899906842624) (g:w.peaks.length=w.b.A.length) (hg:w.s.P.length=w.b.C.length):
  ∃r,F9 N w=some r∧ArX w W r∧r.2.2.1.length=w.b.C.length:=by
 have ai:=ho.sum0;have ad:=(IR z 0).2;rw[Ad8,show He ([]:List AT)=0 from rfl] at ad;unfold F9;rw[hW];obtain⟨⟨t,q⟩,hy,⟨y1,M,y3,y4⟩⟩:=sB hN hP ab hq z (by omega) w.s.B;simp only at y1 M y3 y4 hy;rw[Adk] at y1 y3 y4;rw[hy,Acb];have ag:0≤He t:=by
  rw[y1];exact Se λl hl=>(z l ((Ads.1 hl).1)).1.sum0
 have ah:=M.sum0;obtain⟨⟨o,y⟩,⟨m,Q,U,V,X,Y⟩,e⟩:=GK w.b.A.length (λn i (s:List (List Int)×List Int)=>DA N w (q,t) (DP N w (q,t)) n i s.1 s.2) (λs=>DP N w (q,t) s.1 s.2) (λk s=>Jw w.b.A.length W s.1∧s.2.length=w.b.A.length∧(∀(p:Nat) x,p<k→w.s.H[p]? =some x→s.1[p]? =some (Hx x (VS W w.s.B w.s.I p)))∧(∀p,k≤p→s.1[p]? =w.s.H[p]?)∧(∀(p:Nat) x,p<k→s.1[p]? =some x→s.2[p]? =some x.sum)∧GG s.1=GG w.s.H+GG (q.take k)) (λn k s d=>by
  simp only[DA];rw[Fj d];rfl) (λn k s hi d=>by
  obtain⟨o,y⟩:=s;obtain⟨m,Q,U,V,X,Y⟩:=hi;simp only at m Q U V X Y;obtain⟨a,ha,u,D⟩:=m.ix d;obtain⟨c,hc,v,F⟩:=M.ix d;have K:k<q.length:=by rw[M.len];exact d
  have Z:q[k]=c:=by rw[Acn K] at v;exact Acg v
  have t1:=OH M (k+1);rw[Nz K,Z] at t1;have t2:=m.le u;have hd:=D.add F (by omega);have aa:k<(upd o (k:Int) (Hx a c)).length:=by rw[M7,m.len];exact d
  simp only[DA];rw[FA d,Acc,BA (by omega),ha,Acb,Acb,hc,Acb,Acb,D.padd hN (by omega) F,Acb,Acb,Acb];have ae:ix (upd o (k:Int) (Hx a c)) (k:Int)=some (Hx a c):=by
   rw[BG aa];have:=Hl (l:=o) (k:=k) (by rw[m.len];exact d) (Hx a c);rw[Acn aa] at this;exact this
  rw[ae,Acb,Acb,hd.total hN (by omega),Acb,BG (show k<y.length by omega),Acb,Acb];refine⟨(_,_),⟨m.upd _ hd,by show(upd y _ _).length=_;rw[M7];exact Q,λp x hp j=>?_,λp hp=>?_,λp x hp j=>?_,?_⟩,rfl⟩
  ·show(upd o (k:Int) _)[p]? =_
   by_cases g:k=p
   ·subst g;rw[Hl (by rw[m.len];exact d)];rw[V k (Acr _),j] at u;cases u;rw[y3 k d] at v;rw[Acg v]
   ·rw[Jj g];exact U p x (by omega) j
  ·show(upd o (k:Int) _)[p]? =_
   rw[Jj (by omega)];exact V p (by omega)
  ·change (upd o (k:Int) (Hx a c))[p]? =some x at j;show(upd y (k:Int) _)[p]? =_
   by_cases g:k=p
   ·subst g;rw[Hl (by rw[m.len];exact d)] at j;rw[Hl (by omega),Acg j]
   ·rw[Jj g] at j ⊢;exact X p x (by omega) j
  ·show GG (upd o (k:Int) _)=_
   rw[Q3 u,ME (D.len.trans F.len.symm),Nz K,Z,Y];omega) N 0 (w.s.H,w.peaks) ⟨ho,g,λp x hp=>by omega,λp _=>rfl,λp x hp=>by omega,by simp [GG]⟩ (by omega) (Aci _)
 rw[show DA N w (q,t) (DP N w (q,t)) N 0 w.s.H w.peaks=DP N w (q,t) o y from e];simp only at m Q U V X Y;have af:q.take w.b.A.length=q:=by rw[←M.len,Adk]
 rw[af] at Y;unfold DP;obtain⟨gs,j1,e2⟩:=GK w.b.C.length (λn i s=>Co N w (q,t) o y n i s) (λs=>some (o,t,s,y)) (λi s=>s.length=w.b.C.length) (λn k s d=>by
  simp only[Co];rw[Fj d];rfl) (λn i s hi d=>by
  simp only[Co,F5];have ok:=ac _ (Acw d);rw[FA d,Acc,BG d,Acb,BA (by omega)];cases decide ((w.b.C[i]).G=3)
  ·exact⟨s,hi,rfl⟩
  ·rw[Acc,BG (show i<s.length by omega),Acb,Acb,rD ok.fr.1 (by rw[Q];exact ok.fr.2),Acb,Acb,(xQ N _ _ _).1,Acb,Acb,Acb];exact⟨_,by rw[M7];exact hi,rfl⟩) N 0 w.s.P hg (by omega) (Aci _)
 refine⟨_,e2,⟨m,λp x j=>U p x ?_ j,y1,?_,?_⟩,j1⟩
 ·rw[←ho.len];exact(Acq.1 j).1
 ·show y=o.map List.sum
  apply Adl;intro p;rcases Acy p w.b.A.length with h|h
  ·obtain⟨x,_,j,_⟩:=m.ix h;rw[X p x h j,Ad4,j];rfl
  ·rw[Ac8 (by omega),Ac8 (by rw[Ae7,m.len];omega)]
 ·show GG o+He t=_
  omega
def Q0 {N:Nat}(a:18446744073709551616<N) (v n d:Int):Df (Ia N v n d):=by
 unfold Ia;rw[O5 a,Acb];exact Df.cond (λ_=>Df.mk _) λ_=>Df.mk _
def WG {N:Nat}(a:18446744073709551616<N) (v n d:Int):Df (LO N v n d):=by
 unfold LO;rw[O5 a,Acb];exact Df.cond (λ_=>Df.mk _) λ_=>Df.mk _
def zL {N:Nat}(a:18446744073709551616<N) (c:List Bz) (x:Int):Df (NL N c x):=by
 unfold NL;obtain⟨v,b,k⟩:=KU (N:=N) (by omega) c;rw[b,Acb];cases v
 ·exact Df.mk _
 ·have g:=k rfl;obtain⟨y,d⟩:=Sq a g.1 g.2.1 x;exact⟨y.1,by rw[d];rfl⟩
def Ye {N:Nat}(i:18446744073709551616<N) (l:BC) (g:A3) (fr to:Int):Df (NK N l g fr to):=by
 have head:Df (MZ N l fr to):=by
  unfold MZ;refine Df.cond (λ_=>Df.mk _) λ_=>?_;refine(Q0 i _ _ _).bind λv _=>(Sx N _ _).bind λu _=>Df.mk _
 have j:Df (Ma N l g.Ab g.Am l.As fr to):=by
  unfold Ma LY LZ La Lb Js Jt;have n:Df ((Hk N fr l.Bd).bind λm=>(Ia N (max 0 m) l.Aa l.T).bind λk=>some k):=(Sx N _ _).bind λu _=>(Q0 i _ _ _).bind λv _=>Df.mk _;refine Df.cond (λ_=>?_) λ_=>Df.cond (λ_=>(Q0 i _ _ _).bind λv _=>Df.mk _) λ_=>Df.cond (λ_=>Df.cond (λ_=>(Q0 i _ _ _).bind λv _=>Df.mk _) λ_=>Df.mk _) λ_=>Df.cond (λ_=>Df.cond (λ_=>Df.mk _) λ_=>n) λ_=>Df.cond (λ_=>n) λ_=>Df.mk _;exact head.bind λa _=>(zL i _ _).bind λb _=>(Q0 i _ _ _).bind λc _=>(Xj N _ _).bind λd _=>Df.mk _
 unfold NK;exact j.bind λv _=>Df.mk _
def YH {N:Nat}(c:18446744073709551616<N) (l:BC) (fr to:Int):Df (L0 N l fr to):=by
 unfold L0;exact Df.cond (λ_=>Df.mk _) λ_=>(WG c _ _ _).bind λa _=>(WG c _ _ _).bind λb _=>Df.mk _
def zM (W:Nat) (f:List Int→Option (List Int×List Int)):Prop:=∀x,x.length=W→∃r,f x=some r∧r.1.length=W∧r.2.length=W
def Abu (W:Nat) (l:List AC):Prop:=∀e∈l,zM W e.take
def Abu.snoc {W:Nat}{l:List AC}(c:Abu W l) {e:AC}(b:zM W e.take):Abu W (l++[e]):=λx a=>by
 rcases Ac7.1 a with a|a
 ·exact c x a
 ·rw[Ac3.1 a];exact b
def Zx {N:Nat}(i:8000000000000<N) (a b:List AC) (j:a.length≤100000) (k:b.length≤100000):Cg N [a,b]=some (a++b):=by
 obtain⟨n,rfl⟩:∃n,N=n+3:=⟨N-3,by omega⟩
 have d:BT ((a.length:Int)+(b.length:Int))=((a.length+b.length:Nat):Int):=by rw[EM (by omega) (by omega)];rfl
 have g:BT (0+(a.length:Int))=((a.length:Nat):Int):=by rw[EM (by omega) (by omega)];omega
 have c:Cr (n+3) ((a.length+b.length:Nat):Int)=some []:=by
  unfold Cr Ca;rw[Ack (show ¬((a.length+b.length:Nat):Int)<0 by omega),Acd,EM (n:=(0:Int)-0) (by decide) (by decide),EM (n:=((a.length+b.length:Nat):Int)-(0-0)) (by omega) (by omega)];cases l:decide (0<((a.length+b.length:Nat):Int)-(0-0))
  ·rfl
  ·rw[Acc,F7 (by omega)];rfl
 unfold Cg;simp only[B9];rw[show decide ((0:Int)<(([a,b]:List (List AC)).length:Int))=true by simp,Acc,show Go.Proofs.YtabonambpbofgaaGreat.ix [a,b] 0=some a from rfl,Acb,g,Ack (show ¬((a.length:Nat):Int)<0 by omega),Acd,show BT (0+1)=1 from rfl,show decide ((1:Int)<(([a,b]:List (List AC)).length:Int))=true by simp,Acc,show Go.Proofs.YtabonambpbofgaaGreat.ix [a,b] 1=some b from rfl,Acb,d,Ack (show ¬((a.length+b.length:Nat):Int)<0 by omega),Acd,show BT (1+1)=2 from rfl,show decide ((2:Int)<(([a,b]:List (List AC)).length:Int))=false by simp,Acd];unfold CR;rw[c,Acb];simp only[B8];rw[show decide ((0:Int)<(([a,b]:List (List AC)).length:Int))=true by simp,Acc,show Go.Proofs.YtabonambpbofgaaGreat.ix [a,b] 0=some a from rfl,Acb,F7 (by simp;omega),show BT (0+1)=1 from rfl,show decide ((1:Int)<(([a,b]:List (List AC)).length:Int))=true by simp,Acc,show Go.Proofs.YtabonambpbofgaaGreat.ix [a,b] 1=some b from rfl,Acb,F7 (by simp;omega),show BT (1+1)=2 from rfl,show decide ((2:Int)<(([a,b]:List (List AC)).length:Int))=false by simp,Acd];rfl
def cR {N:Nat}(a:18446744073709551616<N) (b:Cj) (v m:Int):Df (Je N b v m):=by
 unfold Je Hq;rw[O5 a,Acb];exact Df.cond (λ_=>Df.mk _) λ_=>Df.cond (λ_=>Df.cond (λ_=>Df.mk _) λ_=>Df.mk _) λ_=>Df.cond (λ_=>Df.mk _) λ_=>Df.mk _
structure Abt (P W:Nat) (o:List (List Int)) (out:List Int) (ms:List AX) (sn:List AT) (M:Nat):Prop where
 own:Z1 P W o
 out:out.length=W
 mv:ms.length≤M
 sn:sn.length≤M
def Abt.le {P W:Nat}{o:List (List Int)}{out:List Int}{a:List AX}{b:List AT}{M c:Nat}(g:Abt P W o out a b M) (d:M≤c):Abt P W o out a b c:=⟨g.own,g.out,Adq g.mv d,Adq g.sn d⟩
def QV (b:AF) (p:Nat) (a:Int):Int:=if 0≤a∧a<b.C.length then (YU b a.toNat).R else if a= -3 then 0 else (b.A.getD p default).R
structure vK (b:AF) (W p:Nat) (e:AC):Prop where
 tk:∀x,PX W x→∃t,e.take x=some (t,Jx x t)∧W7 t x
 way:e.way≠ -4
 to:e.to_= -1∨(0≤e.to_∧e.to_<b.A.length)
 dl:e.delay=QV b p e.way
structure Aaj (b:AF) (H:Int) (W p:Nat) (m:AX):Prop where
 hour:m.B=H
 fr:m.M=(p:Int)
 way:m.Bf≠ -4
 to:m.E= -1∨(0≤m.E∧m.E<b.A.length)
 px:PX W m.V
 pos:0<m.V.sum
def Mo (b:AF) (H:Int) (m:AX):Option AT:=if m.E<0 then none else some ⟨BT (BT (H+1)+QV b m.M.toNat m.Bf),m.E,m.V⟩
def T3 (N:Nat) (out:List Int) (a:List AX):List Int:=a.foldl (λo m=>if m.E<0 then (Hr N o m.V).getD [] else o) out
def SU (o:List (List Int)) (a:List AX):List (List Int):=a.foldl (λo m=>upd o m.M (Jx (o.getD m.M.toNat []) m.V)) o
def Rq:List AX→List (List Int)→Prop
 |[],_=>True
 |m::a,o=>(∃x,o[m.M.toNat]? =some x∧W7 m.V x)∧Rq a (upd o m.M (Jx (o.getD m.M.toNat []) m.V))
def Lz (a:List AX):Int:=(a.map λm=>m.V.sum).sum
def Rq.app:∀{l1 a:List AX}{o:List (List Int)},Rq l1 o→Rq a (SU o l1)→Rq (l1++a) o
 |[],_,_,_,d=>d
 |m::l1,a,o,b,c=>⟨b.1,Rq.app (l1:=l1) b.2 c⟩
structure Vg (b:AF) (H:Int) (N W p:Nat) (o:List (List Int)) (out:List Int) (ms:List AX) (sn:List AT) (o':List (List Int)) (out':List Int) (ms':List AX) (sn':List AT) (l:List AX):Prop where
 mv:∀m∈l,Aaj b H W p m
 ms_:ms'=ms++l
 own:o'=SU o l
 out_:out'=T3 N out l
 sn_:sn'=sn++l.filterMap (Mo b H)
 val:Rq l o
 ox:Jw b.A.length W o'
 ol:out'.length=W
 tot:GG o'+Lz l=GG o
def Vg.nil {b:AF}{H:Int}{N W p:Nat}{o:List (List Int)}{out:List Int}{a:List AX}{c:List AT}(d:Jw b.A.length W o) (g:out.length=W):Vg b H N W p o out a c o out a c []:=
 ⟨λm i=>(by cases i),by simp,rfl,rfl,by simp,trivial,d,g,by simp [Lz]⟩
def WV (a b:List AX):Lz (a++b)=Lz a+Lz b:=by unfold Lz;rw[Adw,Ad9]
def Vg.trans {b:AF}{H:Int}{N W p:Nat}{o q i:List (List Int)}{out c a:List Int}{s j d:List AX}{t n g:List AT}{l u:List AX}(w:Vg b H N W p o out s t q c j n l) (k:Vg b H N W p q c j n i a d g u):Vg b H N W p o out s t i a d g (l++u):=
 ⟨λm v=>(Ac7.1 v).elim (w.mv m) (k.mv m),by rw[k.ms_,w.ms_,Ado],by rw[k.own,w.own];unfold SU;rw[Afe],by rw[k.out_,w.out_];unfold T3;rw[Afe],by rw[k.sn_,w.sn_,List.filterMap_append,Ado],w.val.app (by rw[←w.own];exact k.val),k.ox,k.ol,by rw[WV];have:=w.tot;have:=k.tot;omega⟩
def jO {N:Nat}(w:8000000000000<N) (t:Int) {to:Int}(h0:0≤to) {p:List Int}(y:p.length≤1000) (l:∀x∈p,0≤x) (z:0<p.sum):LW N t to p=some [⟨t,to,p⟩]:=by
 obtain⟨i,c,a⟩:∃(i:Nat) (A:i<p.length),0<p[i]:=by
  apply Afc;intro d;have:p.sum≤p.length*0:=K3 λx m=>by
   obtain⟨i,c,rfl⟩:=Af4.1 m;have:=d;apply Afc;intro A;exact d ⟨i,c,by omega⟩
  omega
 have o:∃j:Int,0≤j∧GA N p (λx=>Io N x)=some j:=by
  unfold GA;have:∀(n k:Nat),p.length<n+k→k≤i→∃j:Int,0≤j∧Dg N p (λx=>Io N x) (Ey N) n (k:Int)=some j:=by
   intro n
   induction n with
   |zero=>intro k q s;omega
   |succ n u=>
    intro k q s;have g:k<p.length:=by omega
    simp only[Dg,Io];rw[FA g,Acc,BG g,BA (by omega),Acb,Acb];by_cases A:0<p[k]
    ·rw[Acx A];exact⟨(k:Int),by omega,rfl⟩
    ·rw[Ack A,Acd];have:k≠i:=λe=>by subst e;exact A a
     exact u (k+1) (by omega) (by omega)
  exact this N 0 (by omega) (Aci _)
 obtain⟨j,b,v⟩:=o;unfold LW Gg;rw[v,Ack (show ¬to<0 by omega),Acd,Acb,Acb,Acx b,Adg,Acb,Acd,M5 N (by omega),Acb,F7 (by simp)];rfl
def WE {α}{l:List α}{k:Nat}{x:α}(a:l[k]? =some x):upd l (k:Int) x=l:=by
 apply Adl;intro i;by_cases e:k=i
 ·subst e;rw[Hl (Acq.1 a).1,a]
 ·rw[Jj e]
def U8 {N:Nat}(G:8000000000000<N) {w:AM}{b:AF}{H:Int}{W:Nat}(U:w.s.B=H) (V:W≤1000) (C:Jw b.A.length W w.s.H) {p:Nat}(X:p<b.A.length) {e:AC}(o:vK b W p e) (d:w.s.O.length=W) (D:w.moves.length≤1000000) (hs:w.sent.length≤1000000):
  ∃r l x t,Hp N w (p:Int) e=some r∧w.s.H[p]? =some x∧e.take x=some (t,Jx x t)∧W7 t x∧r.1=upd w.s.H (p:Int) (Jx x t)∧Vg b H N W p w.s.H w.s.O w.moves w.sent r.1 r.2.1 r.2.2.1 r.2.2.2 l∧l=if t.sum≤0 then [] else [⟨H,(p:Int),e.to_,e.way,t⟩]:=by
 obtain⟨x,Y,c,n⟩:=C.ix X;obtain⟨t,F,u⟩:=o.tk x n;obtain⟨M,Z,i⟩:=u.sub n;have I:w.s.H.getD p []=x:=by simp [Adp,c]
 have v:GG (upd w.s.H (p:Int) (Jx x t))=GG w.s.H-t.sum:=by rw[Q3 c,Z];omega
 unfold Hp;rw[Y,Acb,Acb,F,Acb,Acb,Acb,i.total G V,Acb];by_cases h0:t.sum≤0
 ·rw[Acx h0,Acc];have hz:Jx x t=x:=ZP n.len i.len (Vu i.nn h0);refine⟨_,[],x,t,rfl,c,F,u,rfl,?_,by rw[Acf h0]⟩;show Vg b H N W p w.s.H w.s.O w.moves w.sent (upd w.s.H (p:Int) (Jx x t)) w.s.O w.moves w.sent []
  rw[hz,WE c];exact Vg.nil C d
 ·have y:Aaj b H W p ⟨H,(p:Int),e.to_,e.way,t⟩:=⟨rfl,rfl,o.way,o.to,i,by show 0<t.sum;omega⟩
  have j:Rq [(⟨H,(p:Int),e.to_,e.way,t⟩:AX)] w.s.H:=⟨⟨x,by show w.s.H[((p:Int)).toNat]? =_;rw[Adm];exact c,u⟩,trivial⟩
  have k:upd w.s.H (p:Int) (Jx x t)=SU w.s.H [(⟨H,(p:Int),e.to_,e.way,t⟩:AX)]:=by
   show _=upd w.s.H (p:Int) (Jx (w.s.H.getD ((p:Int)).toNat []) t)
   rw[Adm,I]
  rw[Ack h0,Acd,F7 (by simp;omega),U];by_cases g:e.to_= -1
  ·obtain⟨a,Q,J⟩:=dB G (p:=w.s.O) (q:=t) (by omega) (by rw[i.len];omega);rw[Acx g,Acc,Q,Acb];refine⟨_,[⟨H,(p:Int),e.to_,e.way,t⟩],x,t,rfl,c,F,u,rfl,⟨λm D=>by rw[Ac3.1 D];exact y,rfl,k,?_,?_,j,C.upd _ M,?_,?_⟩,by rw[Ace h0]⟩
   ·show a=if e.to_<0 then (Hr N w.s.O t).getD [] else _
    rw[Acf (by omega),Q];rfl
   ·show w.sent=w.sent++_
    rw[show ([(⟨H,(p:Int),e.to_,e.way,t⟩:AX)].filterMap (Mo b H))=[] by simp [Mo,g],Adr]
   ·show a.length=W
    rw[J,d,i.len,Nat.max_self]
   ·show GG (upd _ _ _)+Lz _=_
    rw[v];simp [Lz]
  ·have z:=o.to.resolve_left g;rw[Ack g,Acd,jO G _ z.1 (by rw[i.len];omega) i.nn (by omega),Acb,F7 (by simp;omega)];refine⟨_,[⟨H,(p:Int),e.to_,e.way,t⟩],x,t,rfl,c,F,u,rfl,⟨λm D=>by rw[Ac3.1 D];exact y,rfl,k,?_,?_,j,C.upd _ M,d,?_⟩,by rw[Ace h0]⟩
   ·show w.s.O=if e.to_<0 then _ else w.s.O
    rw[Ace (by omega)]
   ·show w.sent++_=w.sent++_
    congr 1;have K:¬e.to_<0:=by omega
    simp only[Afk,List.filterMap_nil,Mo,Ace K,Adm];rw[o.dl]
   ·show GG (upd _ _ _)+Lz _=_
    rw[v];simp [Lz]
def Qr {N W:Nat}(a:18446744073709551616<N) (b:W≤64) (n:Int):∀x,PX W x→∃t,AL N n x=some (t,Jx x t)∧W7 t x∧t.sum=max 0 (min n x.sum):=λx c=>by
 obtain⟨t,e,d,g⟩:=jA a b c n;unfold AL;rw[e,Acb];exact⟨t,rfl,d,g⟩
def kA {N W:Nat}(a:8000000000000<N) (d:W≤64) (t:FL):∀x,PX W x→∃y,EI N t x=some (y,Jx x y)∧W7 y x:=λx b=>by
 obtain⟨y,e,c,_⟩:=kB a (by omega) b t.Bj t.Be;unfold EI;rw[e,Acb];exact⟨y,rfl,c⟩
def XL (b:AF) (W p:Nat) (l:List AC):Prop:=∀e∈l,vK b W p e
def XL.snoc {b:AF}{W p:Nat}{l:List AC}(d:XL b W p l) {e:AC}(c:vK b W p e):XL b W p (l++[e]):=λx a=>by
 rcases Ac7.1 a with a|a
 ·exact d x a
 ·rw[Ac3.1 a];exact c
end Go.Proofs.YtabonambpbofgaaGreat
