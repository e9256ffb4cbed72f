import Derived.Test.YtblcgjadhemlbaaGreatWPureRight2
import Derived.Test.YtblcgjadhemlbaaGreatWPureRight
namespace Go.Proofs.YtblcgjadhemlbaaGreat
set_option linter.all false
open Go.RowKit
def Yq (N:Nat) (n z:Int):FI N n z=some (Yp n 0 (Bw (z-1))):=rfl
structure TU (b:AU) (t:MU):Prop where
 place:0≤t.An∧t.An<b.A.length
 flood:Hu t.Bm
 lead:0≤t.Bl∧t.Bl≤24
 watch:Hu t.Bn
 quorum:0≤t.Bk∧t.Bk≤128
def X5 {N:Nat}(w:1000<N) (b:AU) (a:IB b):∃v,H7 N b=some v∧(v=true→∀t∈b.Am,TU b t):=by
 have x:=a.pl
 have y:=a.to
 have z:=a.sh
 have j:Df (EK N b):=by
  unfold EK
  rcases IZ b.Ay.length (EI N b (Fx N)) (Fx N) (λ_=>True) (λn k D=>by
   simp only[EI];rw[E4 D];rfl) (λn k D=>by
   simp only[EI]
   rw[En D,qO,BR D]
   simp only[qN,ML,BT (show k<4611686018427387904 by omega)]
   cases Yp (b.Ay[k]).Ax 0 1073741824
   ·exact .inl rfl
   ·exact .inr ⟨trivial,rfl⟩) N 0 (by omega) (qW _) with D|⟨_,D⟩
  ·exact⟨_,D⟩
  ·exact⟨true,D⟩
 unfold H7
 rcases IZ b.Am.length (EJ N b (EK N b)) (EK N b) (λi=>∀t,b.Am[i]? =some t→TU b t) (λn k D=>by
  simp only[EJ];rw[E4 D];rfl) (λn k D=>by
  simp only[EJ]
  rw[En D,qO,BR D]
  simp only[qN,ML,LV,Om N _ (show b.A.length<4611686018427387904 by omega),GC,Ke,BT (show k<4611686018427387904 by omega)]
  generalize d:(_|| !Yp (b.Am[k]).Bk 0 128)=B
  cases B
  ·simp only[rS,tP] at d
   obtain⟨⟨⟨⟨⟨l,m⟩,o⟩,C⟩,p⟩,q⟩:=d
   refine .inr ⟨λt c=>?_,rfl⟩
   have:t=b.Am[k]:=by simpa [D] using c.symm
   rw[this]
   have s:=KB l
   exact⟨⟨s.1,by omega⟩,Kb m,KB o,Kb p,KB q⟩
  ·exact .inl rfl) N 0 (by omega) (qW _) with D|⟨hp,D⟩
 ·exact⟨false,D,λD=>by cases D⟩
 ·obtain⟨v,u⟩:=j
  refine⟨v,D.trans u,λ_ t c=>?_⟩
  obtain⟨i,g,rfl⟩:=tQ.1 c
  exact hp i (qW _) g _ (by simp [g])
def XS {N:Nat}(j:1000<N) (b:AU) (c:IB b):Df (Hh N b):=by
 have m:=c.ga
 unfold Hh
 rcases IZ b.Au.length (EA N b (Fb N)) (Fb N) (λ_=>True) (λn k o=>by
  simp only[EA];rw[E4 o];rfl) (λn k o=>by
  simp only[EA]
  rw[En o,qO,BR o]
  simp only[qN,ML,Yq,GC,Ke,BT (show k<4611686018427387904 by omega)]
  generalize a:(_|| !Yp (b.Au[k]).Bo 0 1440)=B
  cases B
  ·simp only[rS,tP] at a
   have d:=KB a.1.1
   obtain⟨z,g⟩:=Df.ix (l:=[(b.A.length:Int),b.T,(b.E.length:Int)]) (i:=(b.Au[k]).B) d.1 (by simp;omega)
   rw[g]
   simp only[qQ,qN]
   cases Yp (b.Au[k]).Z 0 (Bw (z-1))
   ·exact .inl rfl
   ·exact .inr ⟨trivial,rfl⟩
  ·exact .inl rfl) N 0 (by omega) (qW _) with o|⟨_,o⟩
 ·exact⟨_,o⟩
 ·exact⟨true,o⟩
def YR {N:Nat}(d:1000<N) (b:AU) (a:IB b):Df (H8 N b):=by
 have g:=a.ro
 unfold H8
 rcases IZ b.Av.length (EL N b (Fy N)) (Fy N) (λ_=>True) (λn k i=>by
  simp only[EL];rw[E4 i];rfl) (λn k i=>by
  simp only[EL]
  rw[En i,qO,BR i]
  simp only[qN,ML,LV,Yq,GC,Ke,OJ,BT (show k<4611686018427387904 by omega)]
  generalize (_|| !ST (b.Av[k]).Bj)=B
  cases B
  ·simp only[qQ]
   generalize ((decide ((b.Av[k]).Bh= -1)&&decide ((b.Av[k]).Bj≠0))||_)=c
   cases c
   ·exact .inr ⟨trivial,rfl⟩
   ·exact .inl rfl
  ·exact .inl rfl) N 0 (by omega) (qW _) with i|⟨_,i⟩
 ·exact⟨_,i⟩
 ·exact⟨true,i⟩
structure J1 (b:AU):Prop where
 head:IB b
 places:∀p∈b.A,HZ b p
 links:∀l∈b.E,IA b l
 towns:∀t∈b.Am,TU b t
def chainB {b:Bool}{x:Option Bool}{f:Bool→Option Bool}(Q:Prop) {G:Option Bool→Prop}(i:b=true→∃v,x=some v∧(v=true→Q)) (k:∀c,(c=true→b=true∧Q)→G (f c)):G ((cond b (x.bind λy=>some y) (some false)).bind f):=by
 cases b
 ·exact k false λi=>by cases i
 ·obtain⟨v,a,d⟩:=i rfl
  rw[a]
  exact k v λg=>⟨rfl,d g⟩
def Df.q {x:Option Bool}(b:Df x):∃v,x=some v∧(v=true→True):=by obtain⟨v,a⟩:=b;exact⟨v,a,λ_=>trivial⟩
def Qm {N:Nat}(s:18446744073709551616<N) (b:AU):∃v,GB N b=some v∧(v=true→J1 b):=by
 have a:1000<N:=by omega
 unfold GB
 obtain⟨F,z,k⟩:=aQ a b
 rw[z]
 simp only[qN]
 refine chainB True (G:=λx=>∃v,x=some v∧(v=true→J1 b)) (λQ=>(Yc a (k Q)).q) λH u=>?_
 refine chainB (∀p∈b.A,HZ b p) (G:=λx=>∃v,x=some v∧(v=true→J1 b)) (λQ=>XH a b (k (u Q).1)) λB w=>?_
 have m:B=true→IB b∧∀p∈b.A,HZ b p:=λQ=>⟨k (u (w Q).1).1,(w Q).2⟩
 refine chainB (∀l∈b.E,IA b l) (G:=λx=>∃v,x=some v∧(v=true→J1 b)) (λQ=>Yg s b (m Q).1) λC n=>?_
 have c:C=true→IB b∧(∀p∈b.A,HZ b p)∧∀l∈b.E,IA b l:=λQ=>⟨(m (n Q).1).1,(m (n Q).1).2,(n Q).2⟩
 refine chainB True (G:=λx=>∃v,x=some v∧(v=true→J1 b)) (λQ=>(VJ a b (c Q).1 (c Q).2.1 (c Q).2.2).q) λI g=>?_
 refine chainB True (G:=λx=>∃v,x=some v∧(v=true→J1 b)) (λQ=>(W7 s b (c (g Q).1).1 (c (g Q).1).2.1 (c (g Q).1).2.2).q) λJ i=>?_
 refine chainB (∀t∈b.Am,TU b t) (G:=λx=>∃v,x=some v∧(v=true→J1 b)) (λQ=>X5 a b (c (g (i Q).1).1).1) λK j=>?_
 refine chainB True (G:=λx=>∃v,x=some v∧(v=true→J1 b)) (λQ=>(XS a b (c (g (i (j Q).1).1).1).1).q) λM o=>?_
 refine chainB True (G:=λx=>∃v,x=some v∧(v=true→J1 b)) (λQ=>(YR a b (c (g (i (j (o Q).1).1).1).1).1).q) λD y=>?_
 refine⟨D,rfl,λQ=>?_⟩
 have d:=c (g (i (j (o (y Q).1).1).1).1).1
 exact⟨d.1,d.2.1,d.2.2,(j (o (y Q).1).1).2⟩
end Go.Proofs.YtblcgjadhemlbaaGreat
namespace Go.Proofs.YtblcgjadhemlbaaGreat
set_option linter.all false
open Go.RowKit
def Ee {σ t:Type}(L:Nat) (f:Nat→Int→σ→Option t) (c:σ→Option t) (I:Nat→σ→Prop) (a:∀n (k:Nat) s,L≤k→f (n+1) (k:Int) s=c s) (b:∀n (k:Nat) s,I k s→k<L→∃s',I (k+1) s'∧f (n+1) (k:Int) s=f n ((k+1:Nat):Int) s'):
  ∀n (k:Nat) s,I k s→L<n+k→k≤L→∃s',I L s'∧f n (k:Int) s=c s'
 |0,k,s,_,u,i=>by omega
 |n+1,k,s,g,u,i=>by
  rcases rL k L with d|d
  ·obtain⟨j,l,m⟩:=b n k s g d
   obtain⟨o,p,q⟩:=Ee L f c I a b n (k+1) j l (by omega) (by omega)
   exact⟨o,p,m.trans q⟩
  ·have:k=L:=by omega
   subst this
   exact⟨s,g,a n k s d⟩
def LN {σ m:Type}(L:Nat) (f:Nat→Int→σ→Option m) (c:σ→Option m) (d:Option m) (I:Nat→σ→Prop) (a:∀n (k:Nat) s,L≤k→f (n+1) (k:Int) s=c s) (b:∀n (k:Nat) s,I k s→k<L→f (n+1) (k:Int) s=d∨∃s',I (k+1) s'∧f (n+1) (k:Int) s=f n ((k+1:Nat):Int) s'):
  ∀n (k:Nat) s,I k s→L<n+k→k≤L→f n (k:Int) s=d∨∃s',I L s'∧f n (k:Int) s=c s'
 |0,k,s,_,o,l=>by omega
 |n+1,k,s,j,o,l=>by
  rcases rL k L with g|g
  ·rcases b n k s j g with h0|⟨s1,i1,h1⟩
   ·exact .inl h0
   ·rcases LN L f c d I a b n (k+1) s1 i1 (by omega) (by omega) with i|⟨s2,i2,i⟩
    ·exact .inl (h1.trans i)
    ·exact .inr ⟨s2,i2,h1.trans i⟩
  ·have:k=L:=by omega
   subst this
   exact .inr ⟨s,j,a n k s g⟩
def I2 {l:List Int}{k:Nat}(a:k<l.length):(l.take (k+1)).sum=(l.take k).sum+l[k]:=by
 rw[tG a,sT];simp
def J5:∀{l:List Int},(∀x∈l,0≤x)→0≤l.sum
 |[],_=>by simp
 |a::l,g=>by
  have c:=g a (rV ..)
  have d:=J5 (l:=l) λx b=>g x (sE _ b)
  simp only[sU];omega
def IP {l:List Int}(g:∀x∈l,0≤x) (k:Nat):0≤(l.take k).sum∧(l.take k).sum≤l.sum:=by
 have b:=J5 (l:=l.take k) λx a=>g x (vG a)
 have c:=J5 (l:=l.drop k) λx a=>g x (List.mem_of_mem_drop a)
 have d:(l.take k).sum+(l.drop k).sum=l.sum:=by rw[←sT,List.take_append_drop]
 omega
def PU (N:Nat) {a b:Int}(l: -4611686018427387903≤a) (m:a≤4611686018427387903) (n: -4611686018427387903≤b) (o:b≤4611686018427387903):Gx N a b=some (a+b):=by
 unfold Gx
 have d:Bw (a+b)=a+b:=Cx (by omega) (by omega)
 by_cases p:0<b
 ·have i:Bw (9223372036854775807-b)=9223372036854775807-b:=Cx (by omega) (by omega)
  rw[i,d]
  have g:decide (9223372036854775807-b<a)=false:=by simp;omega
  have c:decide (b<0)=false:=by simp;omega
  rw[g,c];simp
 ·have g:decide (0<b)=false:=by simp;omega
  rw[g]
  by_cases j:b<0
  ·have k:Bw (-9223372036854775808-b)= -9223372036854775808-b:=Cx (by omega) (by omega)
   have c:decide (a< -9223372036854775808-b)=false:=by simp;omega
   rw[k,d,c];simp
  ·have c:decide (b<0)=false:=by simp;omega
   rw[c,d];simp
def Qa (N:Nat) {a b:Int}(l: -4611686018427387903≤a) (m:a≤4611686018427387903) (n: -4611686018427387903≤b) (o:b≤4611686018427387903):Gw N a b=some (a-b):=by
 unfold Gw
 have d:Bw (a-b)=a-b:=Cx (by omega) (by omega)
 by_cases p:b<0
 ·have i:Bw (9223372036854775807+b)=9223372036854775807+b:=Cx (by omega) (by omega)
  have g:decide (9223372036854775807+b<a)=false:=by simp;omega
  have c:decide (0<b)=false:=by simp;omega
  rw[i,d,g,c];simp
 ·have g:decide (b<0)=false:=by simp;omega
  rw[g]
  by_cases j:0<b
  ·have k:Bw (-9223372036854775808+b)= -9223372036854775808+b:=Cx (by omega) (by omega)
   have c:decide (a< -9223372036854775808+b)=false:=by simp;omega
   rw[k,d,c];simp
  ·have c:decide (0<b)=false:=by simp;omega
   rw[c,d];simp
def JC {α}{l:List α}{k:Nat}(d:k<l.length) {P:α→Prop}(b:∀x∈l.take k,P x) (c:P l[k]):∀x∈l.take (k+1),P x:=by
 intro x a
 rw[tG d,sN] at a
 rcases a with a|a
 ·exact b x a
 ·simp only[tA] at a;subst a;exact c
def LS {α}{f:α→Int}{l:List α}{k:Nat}(a:k<l.length):((l.take (k+1)).map f).sum=((l.take k).map f).sum+f l[k]:=by
 rw[tG a,tS,sT];simp
def Ni {α}{f:α→Int}{l:List α}(c:∀x∈l,0≤f x):0≤(l.map f).sum:=J5 λy a=>by
 obtain⟨x,b,rfl⟩:=rX.1 a;exact c x b
def KI {n a:Nat}(b:n*a≤140737488355328) {α}(x:Option α):chk (room n a) x=x:=by
 unfold chk room;rw[rF b];rfl
def Su {i:Type}(L:Nat) (f:Nat→Int→Option i) (c:Option i) (a:∀n (k:Nat),L≤k→f (n+1) (k:Int)=c) (b:∀n (k:Nat),k<L→f (n+1) (k:Int)=f n ((k+1:Nat):Int)):
  ∀n (k:Nat),L<n+k→k≤L→f n (k:Int)=c
 |0,k,j,g=>by omega
 |n+1,k,j,g=>by
  rcases rL k L with d|d
  ·rw[b n k d];exact Su L f c a b n (k+1) (by omega) (by omega)
  ·exact a n k d
end Go.Proofs.YtblcgjadhemlbaaGreat
namespace Go.Proofs.YtblcgjadhemlbaaGreat
set_option linter.all false
open Go.RowKit
def VS {t t' n d s:Int}(hd:0<d) (c:n*1099511627776≤s*d) (g:t≤t'):(t'*n/d-t*n/d-1)*1099511627776≤s*(t'-t):=by
 have i:=Int.ediv_mul_le (t'*n) (b:=d) (by omega)
 have j:=Int.lt_ediv_add_one_mul_self (t*n) hd
 have k:(t'-t)*(n*1099511627776)≤(t'-t)*(s*d):=uE c (by omega)
 refine vO (a:=d) ?_ hd
 generalize t'*n/d=l at*
 generalize t*n/d=q at*
 grind
def lM {t n d s:Int}(hd:0<d) (c:n*1099511627776≤s*d) (g:0≤t):t*n/d*1099511627776≤s*t:=by
 have i:=Int.ediv_mul_le (t*n) (b:=d) (by omega)
 have j:t*(n*1099511627776)≤t*(s*d):=uE c g
 refine vO (a:=d) ?_ hd
 generalize t*n/d=q at*
 grind
def S5 {t t' n d:Int}(hd:0≤d) (a:0≤n) (b:t≤t'):t*n/d≤t'*n/d:=by
 rcases Int.lt_or_eq_of_le hd with c|c
 ·exact Int.ediv_le_ediv c (tF b a)
 ·rw[←c];simp
def Ot {t n d:Int}(hd:0≤d) (a:0≤n) (b:0≤t):0≤t*n/d:=Int.ediv_nonneg (tZ b a) hd
def Qw {t n d:Int}(hd:0≤d) (b:n≤d) (a:0≤t):t*n/d≤t:=by
 rcases Int.lt_or_eq_of_le hd with h0|h0
 ·refine Int.ediv_le_of_le_mul h0 (uE b a)
 ·rw[←h0];simp [a]
def KE (c:List BS):List BS:=(⟨-1,(c.headD ⟨0,0⟩).Q⟩:BS)::(c++[(⟨2251799813685248,(c.getLastD ⟨0,0⟩).Q⟩:BS)])
def iX (e:List BS):Prop:=∀k l r,e[k]? =some l→e[k+1]? =some r→l.K<r.K∧l.Q≤r.Q
def Wb (c:List BS):(KE c)[0]? =some ⟨-1,(c.headD ⟨0,0⟩).Q⟩:=rfl
def NN (c:List BS) {k:Nat}(a:k<c.length):(KE c)[k+1]? =c[k]? :=by
 simp [KE,List.getElem?_append,a]
def Ub (c:List BS):(KE c)[c.length+1]? =some ⟨2251799813685248,(c.getLastD ⟨0,0⟩).Q⟩:=by
 simp [KE]
def QI {c:List BS}{p:BS}(b:c[0]? =some p):c.headD ⟨0,0⟩=p:=by
 cases c with
 |nil=>cases b
 |cons a l=>simpa using b
def QG {c:List BS}{p:BS}(a:c[c.length-1]? =some p):c.getLastD ⟨0,0⟩=p:=by
 rw[List.getLastD_eq_getLast?,List.getLast?_eq_getElem?,a];rfl
def EU.vol {c:List BS}(b:EU c) {k:Nat}{p:BS}(a:c[k]? =some p):Hu p.K∧Hu p.Q:=⟨(b.2.2 k p a).1,(b.2.2 k p a).2.1⟩
def EU.step {c:List BS}(d:EU c) {k:Nat}{p q:BS}(a:c[k]? =some p) (b:c[k+1]? =some q):p.K<q.K∧p.Q≤q.Q:=(d.2.2 (k+1) q b).2.2 p (by omega) a
def QT {c:List BS}(o:EU c):iX (KE c):=by
 intro k l r b a
 have d:(KE c).length=c.length+2:=by simp [KE]
 have j:=(rB.1 a).1
 have n:=o.1
 rw[d] at j
 cases k with
 |zero=>
  rw[Wb] at b
  rw[NN c (by omega)] at a
  have m:=o.vol a
  have g:=QI a
  cases b
  rw[g]
  exact⟨by have:=m.1.1;show(-1:Int)<_;omega,rN _⟩
 |succ k=>
  rw[NN c (by omega)] at b
  by_cases i:k+1<c.length
  ·rw[NN c i] at a
   exact o.step b a
  ·have e:k+1=c.length:=by omega
   rw[show k+1+1=c.length+1 by omega,Ub] at a
   have g:=QG (c:=c) (p:=l) (by rw[←b];congr 1;omega)
   cases a
   rw[g]
   exact⟨by have:=(o.vol b).1.2;show _<(2251799813685248:Int);omega,rN _⟩
def iX.mono {e:List BS}(s:iX e) {i:Nat}:∀{j:Nat}{a b:BS},i≤j→e[i]? =some a→e[j]? =some b→a.K≤b.K∧a.Q≤b.Q∧(i<j→a.K<b.K)
 |j,a,b,l,g,d=>by
  rcases rL i j with n|hge
  ·obtain⟨j,rfl⟩:∃m,j=m+1:=⟨j-1,by omega⟩
   have o:=(rB.1 d).1
   obtain⟨c,k⟩:∃c,e[j]? =some c:=⟨e[j],by simp [show j<e.length by omega]⟩
   have p:=iX.mono s (j:=j) (by omega) g k
   have q:=s j c b k d
   exact⟨by omega,by omega,λ_=>by omega⟩
  ·have:i=j:=by omega
   subst this
   rw[g] at d
   cases d
   exact⟨rN _,rN _,λs=>by omega⟩
structure Xl (e:List BS) (x:Int) (k:Nat) (l r:BS):Prop where
 l_:e[k]? =some l
 r_:e[k+1]? =some r
 lo:l.K≤x
 hi:x<r.K
def J4 (l r:BS) (x:Int):Int:=l.Q+(x-l.K)*(r.Q-l.Q)/(r.K-l.K)
def RO (l r:BS) (x:Int):Int:=(x-l.K)*(r.Q-l.Q)%(r.K-l.K)
def Xl.bounds {e:List BS}(m:iX e) {x:Int}{k:Nat}{l r:BS}(a:Xl e x k l r):l.Q≤J4 l r x∧J4 l r x≤r.Q:=by
 have b:=m k l r a.l_ a.r_
 have c:=a.lo
 have g:=a.hi
 have i:=Ot (t:=x-l.K) (n:=r.Q-l.Q) (d:=r.K-l.K) (by omega) (by omega) (by omega)
 have j:(x-l.K)*(r.Q-l.Q)/(r.K-l.K)≤r.Q-l.Q:=by
  refine Int.ediv_le_of_le_mul (by omega) ?_
  rw[Int.mul_comm]
  exact uE (by omega) (by omega)
 unfold J4
 omega
def Xl.mono {e:List BS}(v:iX e) {x c:Int}{k g:Nat}{l r i r':BS}(a:Xl e x k l r) (b:Xl e c g i r') (u:x≤c):J4 l r x≤J4 i r' c:=by
 rcases Nat.lt_trichotomy k g with m|heq|hgt
 ·have j:=v.mono (show k+1≤g by omega) a.r_ b.l_
  have o:=(a.bounds v).2
  have p:=(b.bounds v).1
  omega
 ·subst heq
  have q:=a.l_.symm.trans b.l_
  have s:=a.r_.symm.trans b.r_
  cases q;cases s
  have j:=v k l r a.l_ a.r_
  have:=S5 (t:=x-l.K) (t':=c-l.K) (n:=r.Q-l.Q) (d:=r.K-l.K) (by omega) (by omega) (by omega)
  unfold J4
  omega
 ·have j:=v.mono (show g+1≤k by omega) b.r_ a.l_
  have o:=a.lo
  have p:=b.hi
  omega
def Xk (e:List BS) (s:Int):Prop:=∀k l r,e[k]? =some l→e[k+1]? =some r→(r.Q-l.Q)*1099511627776≤s*(r.K-l.K)
def Xk.mono {e:List BS}{s:Int}(t:Xk e s) {i:Nat}:∀{j:Nat}{a b:BS},i≤j→e[i]? =some a→e[j]? =some b→(b.Q-a.Q)*1099511627776≤s*(b.K-a.K)
 |j,a,b,l,g,d=>by
  rcases rL i j with n|hge
  ·obtain⟨j,rfl⟩:∃m,j=m+1:=⟨j-1,by omega⟩
   have o:=(rB.1 d).1
   obtain⟨c,k⟩:∃c,e[j]? =some c:=⟨e[j],by simp [show j<e.length by omega]⟩
   have p:=Xk.mono t (j:=j) (by omega) g k
   have q:=t j c b k d
   grind
  ·have:i=j:=by omega
   subst this
   rw[g] at d
   cases d
   grind
def Xl.lip {e:List BS}(H:iX e) {s:Int}(i:Xk e s) {x d:Int}{k g:Nat}{l r c r':BS}(a:Xl e x k l r) (b:Xl e d g c r') (y:x≤d):(J4 c r' d-J4 l r x-1)*1099511627776≤s*(d-x):=by
 have z:=H k l r a.l_ a.r_
 have A:=H g c r' b.l_ b.r_
 have j:=i k l r a.l_ a.r_
 have sb:=i g c r' b.l_ b.r_
 have B:=a.lo
 have C:=a.hi
 have D:=b.lo
 have F:=b.hi
 rcases Nat.lt_trichotomy k g with n|heq|hgt
 ·have o:=i.mono (show k+1≤g by omega) a.r_ b.l_
  have m:=VS (t:=x-l.K) (t':=r.K-l.K) (show 0<r.K-l.K by omega) j (by omega)
  have G:=lM (t:=d-c.K) (show 0<r'.K-c.K by omega) sb (by omega)
  have p:(r.K-l.K)*(r.Q-l.Q)/(r.K-l.K)=r.Q-l.Q:=Int.mul_ediv_cancel_left _ (by omega)
  rw[p] at m
  unfold J4
  generalize (x-l.K)*(r.Q-l.Q)/(r.K-l.K)=q at*
  generalize (d-c.K)*(r'.Q-c.Q)/(r'.K-c.K)=u at*
  grind
 ·subst heq
  have v:=a.l_.symm.trans b.l_
  have w:=a.r_.symm.trans b.r_
  cases v;cases w
  have m:=VS (t:=x-l.K) (t':=d-l.K) (show 0<r.K-l.K by omega) j (by omega)
  unfold J4
  generalize (x-l.K)*(r.Q-l.Q)/(r.K-l.K)=q at*
  generalize (d-l.K)*(r.Q-l.Q)/(r.K-l.K)=u at*
  grind
 ·have o:=H.mono (show g+1≤k by omega) b.r_ a.l_
  omega
def VB {a n d:Int}(b:0≤a∧a≤1125899906842624) (c:0≤n∧n≤1125899906842624) (g:1≤d∧d≤1125899906842624) (i:a*n/d≤1125899906842624):Zv a n d=(a*n/d,a*n%d,true):=by
 unfold Zv
 rw[qR ⟨b,c,g,i⟩]
def W6 {N:Nat}(C:18446744073709551616<N) {c:List BS}(Z:EU c) {x:Int}(J:0≤x∧x≤1125899906842624):∃k l r,Xl (KE c) x k l r∧HC N c x=some (J4 l r x,decide (0<RO l r x)):=by
 have M:=Z.1
 have U:=Z.2.1
 unfold HC
 obtain⟨r,D,V,F,z⟩:=Rs (N:=N) (λy=>FH N c x y) c.length (by omega) (by omega) λi o=>by
  unfold FH
  rw[BR o];exact Df.mk _
 have s:∀i (o:i<c.length),FH N c x (i:Int)=some (decide (x<(c[i]).K)):=λi o=>by
  unfold FH
  rw[BR o];rfl
 rw[D,qN]
 by_cases u:r=0
 ·subst u
  have h0:c[0]? =some c[0]:=by simp
  have g:=z (by omega)
  rw[s 0 (by omega)] at g
  have A:=tK (qS g)
  refine⟨0,_,_,⟨Wb c,(NN c (by omega)).trans h0,by show(-1:Int)≤x;omega,A⟩,?_⟩
  rw[show decide (((0:Nat):Int)=0)=true by simp,qO,show ix c 0=some c[0] from BR (i:=0) (by omega),qN]
  have v:=QI h0
  rw[v]
  simp [J4,RO]
 ·have a:c[r-1]? =some c[r-1]:=by simp
  have g:=F (by omega)
  rw[s (r-1) (by omega)] at g
  have A:=of_decide_eq_false (qS g)
  have v1:=Z.vol a
  have G:Bw ((r:Int)-1)=((r-1:Nat):Int):=by rw[Cx (by omega) (by omega)];omega
  rw[show decide ((r:Int)=0)=false by simp;omega,qQ,G,BR (show r-1<c.length by omega),qN]
  by_cases w:r=c.length
  ·subst w
   rw[show decide ((c.length:Int)=(c.length:Int))=true by simp,qO]
   have v:=QG a
   have j:(KE c)[c.length-1+1]? =some c[c.length-1]:=(NN c (by omega)).trans a
   rw[show c.length-1+1=c.length by omega] at j
   refine⟨c.length,_,_,⟨j,Ub c,by omega,by show x<(2251799813685248:Int);omega⟩,?_⟩
   rw[v]
   simp [J4,RO]
  ·have m:r<c.length:=by omega
   have b:c[r]? =some c[r]:=by simp [m]
   have B:=z m
   rw[s r m] at B
   have H:=tK (qS B)
   have I:=Z.vol b
   have W:=Z.step a (q:=c[r]) (by rw[show r-1+1=r by omega];exact b)
   have j:(KE c)[r-1+1]? =some c[r-1]:=(NN c (by omega)).trans a
   rw[show r-1+1=r by omega] at j
   refine⟨r,_,_,⟨j,(NN c m).trans b,by omega,H⟩,?_⟩
   rw[show decide ((r:Int)=(c.length:Int))=false by simp;omega,qQ,BR m]
   simp only[qN]
   unfold Hu at v1 I
   generalize c[r-1]=p at*
   generalize c[r]=q at*
   rw[Cx (n:=x-p.K) (by omega) (by omega),Cx (n:=q.Q-p.Q) (by omega) (by omega),Cx (n:=q.K-p.K) (by omega) (by omega),KH C]
   have X:(x-p.K)*(q.Q-p.Q)/(q.K-p.K)≤q.Q-p.Q:=by
    refine Int.ediv_le_of_le_mul (by omega) ?_
    rw[Int.mul_comm]
    exact uE (by omega) (by omega)
   have Y:=Ot (t:=x-p.K) (n:=q.Q-p.Q) (d:=q.K-p.K) (by omega) (by omega) (by omega)
   rw[VB (by omega) (by omega) (by omega) (by omega),qN]
   unfold J4 RO
   rw[Cx (by omega) (by omega)]
def Mh {N:Nat}(i:33<N) {c:List BS}(o:EU c):Eu N c=some true:=by
 unfold Eu
 have j:=o.1
 have l:=o.2.1
 rw[show (decide ((c.length:Int)<1)||decide (32<(c.length:Int)))=false by simp;omega,qQ]
 exact Su c.length (Et N c (G4 N)) (G4 N) (λn k a=>by
  simp only[Et];rw[E4 a];rfl) (λn k a=>by
  have b:c[k]? =some c[k]:=by simp [a]
  have v:=o.vol b
  unfold Hu at v
  simp only[Et]
  rw[En a,qO,BR a,qN,show(((decide ((c[k]).K<0)||decide (1125899906842624<(c[k]).K))||decide ((c[k]).Q<0))||decide (1125899906842624<(c[k]).Q))=false by simp only[rS,rO];omega,qQ,BT (by omega)]
  by_cases h0:k=0
  ·subst h0
   rfl
  ·have d:c[k-1]? =some c[k-1]:=by simp
   have m:=o.step d (q:=c[k]) (by rw[show k-1+1=k by omega];exact b)
   have g:Bw ((k:Int)-1)=((k-1:Nat):Int):=by rw[Cx (by omega) (by omega)];omega
   rw[show decide ((0:Int)<(k:Int))=true by simp;omega,qO,g,BR (show k-1<c.length by omega)]
   simp only[qN]
   rw[show decide ((c[k]).K≤(c[k-1]).K)=false by simp only[rO];omega,show decide ((c[k]).Q<(c[k-1]).Q)=false by simp only[rO];omega]
   rfl) N 0 (by omega) (qW _)
def gU {N:Nat}(a:18446744073709551616<N) {c:List BS}(i:EU c) {x:Int}(b:0≤x∧x≤1125899906842624):∃k l r,Xl (KE c) x k l r∧J9 N c x=some (J4 l r x):=by
 obtain⟨k,l,r,d,g⟩:=W6 a i b
 refine⟨k,l,r,d,?_⟩
 unfold J9
 rw[Mh (by omega) i]
 simp only[qN,sH,qQ,g]
def Wa {c:List BS}(n:EU c):∀{k:Nat}{p:BS},(KE c)[k]? =some p→Hu p.Q:=by
 intro k p a
 have m:=n.1
 have b:(KE c).length=c.length+2:=by simp [KE]
 have l:=(rB.1 a).1
 rw[b] at l
 have g:∀i (j:i<c.length),Hu (c[i]).Q:=λi j=>(n.vol (k:=i) (by simp [j])).2
 cases k with
 |zero=>
  rw[Wb] at a
  cases a
  rw[QI (p:=c[0]) (by simp)]
  exact g 0 (by omega)
 |succ k=>
  by_cases d:k<c.length
  ·rw[NN c d] at a
   exact(n.vol a).2
  ·rw[show k+1=c.length+1 by omega,Ub] at a
   cases a
   rw[QG (p:=c[c.length-1]) (by simp)]
   exact g _ (by omega)
def gT {c:List BS}(g:EU c) {x:Int}{k:Nat}{l r:BS}(s:Xl (KE c) x k l r):Hu (J4 l r x):=by
 have a:=s.bounds (QT g)
 have b:=Wa g s.l_
 have d:=Wa g s.r_
 unfold Hu at*
 omega
def UM (l r:BS) (x:Int):Int:=l.Q*(r.K-l.K)+(x-l.K)*(r.Q-l.Q)
def Rj {l r:BS}(a:l.K<r.K) (x:Int):J4 l r x*(r.K-l.K)+RO l r x=UM l r x:=by
 have:=Int.ediv_mul_add_emod ((x-l.K)*(r.Q-l.Q)) (r.K-l.K)
 unfold J4 RO UM
 grind
def Vn {l r:BS}(a:l.K<r.K) (x:Int):0≤RO l r x∧RO l r x<r.K-l.K:=⟨Int.emod_nonneg _ (by omega),Int.emod_lt_of_pos _ (by omega)⟩
def eD (l r a r':BS) (x:Int):Prop:=UM l r x*(r'.K-a.K)≤UM a r' x*(r.K-l.K)
def eD.mid {l r b r':BS}{x u v:Int}(c:eD l r b r' u) (d:eD l r b r' v) (i:u≤x) (j:x≤v) (g:u<v):eD l r b r' x:=by
 unfold eD UM at*
 have k:=tF c (show 0≤v-x by omega)
 have m:=tF d (show 0≤x-u by omega)
 refine vO (a:=v-u) ?_ (by omega)
 grind
def eD.val {l r c r':BS}{x:Int}(z:eD l r c r' x) (j:l.K<r.K) (g:c.K<r'.K):J4 l r x≤J4 c r' x:=by
 have k:=Rj j x
 have n:=Rj g x
 have o:=Vn j x
 have p:=Vn g x
 unfold eD at z
 rw[←k,←n] at z
 refine Int.not_lt.1 λt=>?_
 generalize J4 l r x=a at*
 generalize J4 c r' x=b at*
 generalize RO l r x=m at*
 generalize RO c r' x=q at*
 have s:0<r.K-l.K:=by omega
 have u:0<r'.K-c.K:=by omega
 generalize r.K-l.K=d at*
 generalize r'.K-c.K=i at*
 have v:(b+1)*(d*i)≤a*(d*i):=tF (by omega) (tZ (by omega) (by omega))
 have w:0≤m*i:=tZ o.1 (by omega)
 have y:q*d<i*d:=Int.mul_lt_mul_of_pos_right p.2 s
 grind
def XV {c:List BS}{i:Nat}{p:BS}(a:(KE c)[i]? =some p):(i=0∧p=⟨-1,(c.headD ⟨0,0⟩).Q⟩)∨(∃m,i=m+1∧c[m]? =some p)∨(i=c.length+1∧p=⟨2251799813685248,(c.getLastD ⟨0,0⟩).Q⟩):=by
 have b:(KE c).length=c.length+2:=by simp [KE]
 have d:=(rB.1 a).1
 rw[b] at d
 cases i with
 |zero=>rw[Wb] at a;cases a;exact .inl ⟨rfl,rfl⟩
 |succ m=>
  by_cases g:m<c.length
  ·rw[NN c g] at a
   exact .inr (.inl ⟨m,rfl,a⟩)
  ·have:m=c.length:=by omega
   subst this
   rw[Ub] at a
   cases a
   exact .inr (.inr ⟨rfl,rfl⟩)
end Go.Proofs.YtblcgjadhemlbaaGreat
