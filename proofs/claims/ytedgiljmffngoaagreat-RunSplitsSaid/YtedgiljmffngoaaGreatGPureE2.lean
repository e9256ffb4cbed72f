import Derived.Test.YtedgiljmffngoaaGreatGPureRight2
namespace Go.Proofs.YtedgiljmffngoaaGreat
set_option linter.all false
open Go.RowKit
def Ze (N:Nat) (n z:Int):E8 N n z=some (Zd n 0 (BD (z-1))):=rfl
structure UG (b:AF) (t:Nw):Prop where
 place:0≤t.Ap∧t.Ap<b.A.length
 flood:I3 t.Bo
 lead:0≤t.Bl∧t.Bl≤24
 watch:I3 t.Bp
 quorum:0≤t.Bk∧t.Bk≤128
def Yr {N:Nat}(w:1000<N) (b:AF) (a:H1 b):∃v,Hz N b=some v∧(v=true→∀t∈b.Ab,UG b t):=by
 have x:=a.pl;have y:=a.to;have z:=a.sh;have j:Df (Dt N b):=by
  unfold Dt;rcases I4 b.Ag.length (Dq N b (Fg N)) (Fg N) (λ_=>True) (λn k D=>by
   simp only[Dq];rw[Eg D];rfl) (λn k D=>by
   simp only[Dq];rw[EZ D,tL,BG D];simp only[tJ,NE,BH (show k<4611686018427387904 by omega)];cases Zd (b.Ag[k]).Ak 0 1073741824
   ·exact .inl rfl
   ·exact .inr ⟨trivial,rfl⟩) N 0 (by omega) (tU _) with D|⟨_,D⟩
  ·exact⟨_,D⟩
  ·exact⟨true,D⟩
 unfold Hz;rcases I4 b.Ab.length (Dr N b (Dt N b)) (Dt N b) (λi=>∀t,b.Ab[i]? =some t→UG b t) (λn k D=>by
  simp only[Dr];rw[Eg D];rfl) (λn k D=>by
  simp only[Dr];rw[EZ D,tL,BG D];simp only[tJ,NE,MA,QB N _ (show b.A.length<4611686018427387904 by omega),Fq,K8,BH (show k<4611686018427387904 by omega)];generalize d:(_|| !Zd (b.Ab[k]).Bk 0 128)=B
  cases B
  ·simp only[uS,xE] at d;obtain⟨⟨⟨⟨⟨l,m⟩,o⟩,C⟩,p⟩,q⟩:=d;refine .inr ⟨λt c=>?_,rfl⟩;have:t=b.Ab[k]:=by simpa [D] using c.symm
   rw[this];have s:=KR l;exact⟨⟨s.1,by omega⟩,K2 m,KR o,K2 p,KR q⟩
  ·exact .inl rfl) N 0 (by omega) (tU _) with D|⟨hp,D⟩
 ·exact⟨false,D,λD=>by cases D⟩
 ·obtain⟨v,u⟩:=j;refine⟨v,D.trans u,λ_ t c=>?_⟩;obtain⟨i,g,rfl⟩:=xF.1 c;exact hp i (tU _) g _ (by simp [g])
def YE {N:Nat}(j:1000<N) (b:AF) (c:H1 b):Df (Ha N b):=by
 have m:=c.ga;unfold Ha;rcases I4 b.Ad.length (De N b (FK N)) (FK N) (λ_=>True) (λn k o=>by
  simp only[De];rw[Eg o];rfl) (λn k o=>by
  simp only[De];rw[EZ o,tL,BG o];simp only[tJ,NE,Ze,Fq,K8,BH (show k<4611686018427387904 by omega)];generalize a:(_|| !Zd (b.Ad[k]).Bq 0 1440)=B
  cases B
  ·simp only[uS,xE] at a;have d:=KR a.1.1;obtain⟨z,g⟩:=Df.ix (l:=[(b.A.length:Int),b.O,(b.E.length:Int)]) (i:=(b.Ad[k]).F) d.1 (by simp;omega);rw[g];simp only[tM,tJ];cases Zd (b.Ad[k]).W 0 (BD (z-1))
   ·exact .inl rfl
   ·exact .inr ⟨trivial,rfl⟩
  ·exact .inl rfl) N 0 (by omega) (tU _) with o|⟨_,o⟩
 ·exact⟨_,o⟩
 ·exact⟨true,o⟩
def ZE {N:Nat}(d:1000<N) (b:AF) (a:H1 b):Df (H0 N b):=by
 have g:=a.ro;unfold H0;rcases I4 b.Ae.length (Du N b (Fh N)) (Fh N) (λ_=>True) (λn k i=>by
  simp only[Du];rw[Eg i];rfl) (λn k i=>by
  simp only[Du];rw[EZ i,tL,BG i];simp only[tJ,NE,MA,Ze,Fq,K8,Pf,BH (show k<4611686018427387904 by omega)];generalize (_|| !Tf (b.Ae[k]).Bj)=B
  cases B
  ·simp only[tM];generalize ((decide ((b.Ae[k]).Bi= -1)&&decide ((b.Ae[k]).Bj≠0))||_)=c
   cases c
   ·exact .inr ⟨trivial,rfl⟩
   ·exact .inl rfl
  ·exact .inl rfl) N 0 (by omega) (tU _) with i|⟨_,i⟩
 ·exact⟨_,i⟩
 ·exact⟨true,i⟩
structure Jn (b:AF):Prop where
 head:H1 b
 places:∀p∈b.A,Hg b p
 links:∀l∈b.E,Js b l
 towns:∀t∈b.Ab,UG b t
def chainB {b:Bool}{x:Option Bool}{f:Bool→Option Bool}(Q:Prop) {G:Option Bool→Prop}(i:b=true→∃v,x=some v∧(v=true→Q)) (k:∀c,(c=true→b=true∧Q)→G (f c)):G ((cond b (x.bind λy=>some y) (some false)).bind f):=by
 cases b
 ·exact k false λi=>by cases i
 ·obtain⟨v,a,d⟩:=i rfl;rw[a];exact k v λg=>⟨rfl,d g⟩
def Df.q {x:Option Bool}(b:Df x):∃v,x=some v∧(v=true→True):=by obtain⟨v,a⟩:=b;exact⟨v,a,λ_=>trivial⟩
def Uy {N:Nat}(s:18446744073709551616<N) (b:AF):∃v,Hn N b=some v∧(v=true→Jn b):=by
 have a:1000<N:=by omega
 unfold Hn;obtain⟨F,z,k⟩:=cY a b;rw[z];simp only[tJ];refine chainB True (G:=λx=>∃v,x=some v∧(v=true→Jn b)) (λQ=>(ZO a (k Q)).q) λH u=>?_;refine chainB (∀p∈b.A,Hg b p) (G:=λx=>∃v,x=some v∧(v=true→Jn b)) (λQ=>X3 a b (k (u Q).1)) λB w=>?_;have m:B=true→H1 b∧∀p∈b.A,Hg b p:=λQ=>⟨k (u (w Q).1).1,(w Q).2⟩
 refine chainB (∀l∈b.E,Js b l) (G:=λx=>∃v,x=some v∧(v=true→Jn b)) (λQ=>ZT s b (m Q).1) λC n=>?_;have c:C=true→H1 b∧(∀p∈b.A,Hg b p)∧∀l∈b.E,Js b l:=λQ=>⟨(m (n Q).1).1,(m (n Q).1).2,(n Q).2⟩
 refine chainB True (G:=λx=>∃v,x=some v∧(v=true→Jn b)) (λQ=>(Vw a b (c Q).1 (c Q).2.1 (c Q).2.2).q) λI g=>?_;refine chainB True (G:=λx=>∃v,x=some v∧(v=true→Jn b)) (λQ=>(Xt s b (c (g Q).1).1 (c (g Q).1).2.1 (c (g Q).1).2.2).q) λJ i=>?_;refine chainB (∀t∈b.Ab,UG b t) (G:=λx=>∃v,x=some v∧(v=true→Jn b)) (λQ=>Yr a b (c (g (i Q).1).1).1) λK j=>?_;refine chainB True (G:=λx=>∃v,x=some v∧(v=true→Jn b)) (λQ=>(YE a b (c (g (i (j Q).1).1).1).1).q) λM o=>?_;refine chainB True (G:=λx=>∃v,x=some v∧(v=true→Jn b)) (λQ=>(ZE a b (c (g (i (j (o Q).1).1).1).1).1).q) λD y=>?_;refine⟨D,rfl,λQ=>?_⟩;have d:=c (g (i (j (o (y Q).1).1).1).1).1;exact⟨d.1,d.2.1,d.2.2,(j (o (y Q).1).1).2⟩
def Em {σ q:Type}(L:Nat) (f:Nat→Int→σ→Option q) (kj:σ→Option q) (I:Nat→σ→Prop) (a:∀n (k:Nat) s,L≤k→f (n+1) (k:Int) s=kj s) (b:∀n (k:Nat) s,I k s→k<L→∃s',I (k+1) s'∧f (n+1) (k:Int) s=f n ((k+1:Nat):Int) s'):
  ∀n (k:Nat) s,I k s→L<n+k→k≤L→∃s',I L s'∧f n (k:Int) s=kj s'
 |0,k,s,_,t,g=>by omega
 |n+1,k,s,d,t,g=>by
  rcases uM k L with c|c
  ·obtain⟨i,j,l⟩:=b n k s d c;obtain⟨m,o,p⟩:=Em L f kj I a b n (k+1) i j (by omega) (by omega);exact⟨m,o,l.trans p⟩
  ·have:k=L:=by omega
   subst this;exact⟨s,d,a n k s c⟩
def Mp {σ l:Type}(L:Nat) (f:Nat→Int→σ→Option l) (kj:σ→Option l) (c:Option l) (I:Nat→σ→Prop) (a:∀n (k:Nat) s,L≤k→f (n+1) (k:Int) s=kj s) (b:∀n (k:Nat) s,I k s→k<L→f (n+1) (k:Int) s=c∨∃s',I (k+1) s'∧f (n+1) (k:Int) s=f n ((k+1:Nat):Int) s'):
  ∀n (k:Nat) s,I k s→L<n+k→k≤L→f n (k:Int) s=c∨∃s',I L s'∧f n (k:Int) s=kj s'
 |0,k,s,_,m,j=>by omega
 |n+1,k,s,i,m,j=>by
  rcases uM k L with d|d
  ·rcases b n k s i d with h0|⟨s1,i1,h1⟩
   ·exact .inl h0
   ·rcases Mp L f kj c I a b n (k+1) s1 i1 (by omega) (by omega) with g|⟨s2,i2,g⟩
    ·exact .inl (h1.trans g)
    ·exact .inr ⟨s2,i2,h1.trans g⟩
  ·have:k=L:=by omega
   subst this;exact .inr ⟨s,i,a n k s d⟩
def Ik {l:List Int}{k:Nat}(a:k<l.length):(l.take (k+1)).sum=(l.take k).sum+l[k]:=by
 rw[wJ a,wG];simp
def Jq:∀{l:List Int},(∀x∈l,0≤x)→0≤l.sum
 |[],_=>by simp
 |a::l,g=>by
  have c:=g a (uN ..);have d:=Jq (l:=l) λx b=>g x (uR _ b);simp only[vS];omega
def Gk {l:List Int}(g:∀x∈l,0≤x) (k:Nat):0≤(l.take k).sum∧(l.take k).sum≤l.sum:=by
 have b:=Jq (l:=l.take k) λx a=>g x (yH a);have c:=Jq (l:=l.drop k) λx a=>g x (List.mem_of_mem_drop a);have d:(l.take k).sum+(l.drop k).sum=l.sum:=by rw[←wG,yA]
 omega
def UC (N:Nat) {a b:Int}(l: -4611686018427387903≤a) (m:a≤4611686018427387903) (n: -4611686018427387903≤b) (o:b≤4611686018427387903):Fb N a b=some (a+b):=by
 unfold Fb;have d:BD (a+b)=a+b:=Cv (by omega) (by omega);by_cases p:0<b
 ·have i:BD (9223372036854775807-b)=9223372036854775807-b:=Cv (by omega) (by omega);rw[i,d];have g:decide (9223372036854775807-b<a)=false:=by simp;omega
  have c:decide (b<0)=false:=by simp;omega
  rw[g,c];simp
 ·have g:decide (0<b)=false:=by simp;omega
  rw[g];by_cases j:b<0
  ·have k:BD (-9223372036854775808-b)= -9223372036854775808-b:=Cv (by omega) (by omega);have c:decide (a< -9223372036854775808-b)=false:=by simp;omega
   rw[k,d,c];simp
  ·have c:decide (b<0)=false:=by simp;omega
   rw[c,d];simp
def Yx (N:Nat) {a b:Int}(l: -4611686018427387903≤a) (m:a≤4611686018427387903) (n: -4611686018427387903≤b) (o:b≤4611686018427387903):GK N a b=some (a-b):=by
 unfold GK;have d:BD (a-b)=a-b:=Cv (by omega) (by omega);by_cases p:b<0
 ·have i:BD (9223372036854775807+b)=9223372036854775807+b:=Cv (by omega) (by omega);have g:decide (9223372036854775807+b<a)=false:=by simp;omega
  have c:decide (0<b)=false:=by simp;omega
  rw[i,d,g,c];simp
 ·have g:decide (b<0)=false:=by simp;omega
  rw[g];by_cases j:0<b
  ·have k:BD (-9223372036854775808+b)= -9223372036854775808+b:=Cv (by omega) (by omega);have c:decide (a< -9223372036854775808+b)=false:=by simp;omega
   rw[k,d,c];simp
  ·have c:decide (0<b)=false:=by simp;omega
   rw[c,d];simp
def LH {α}{l:List α}{k:Nat}(d:k<l.length) {P:α→Prop}(b:∀x∈l.take k,P x) (c:P l[k]):∀x∈l.take (k+1),P x:=by
 intro x a;rw[wJ d,vC] at a;rcases a with a|a
 ·exact b x a
 ·simp only[vX] at a;subst a;exact c
def Qf {α}{f:α→Int}{l:List α}{k:Nat}(a:k<l.length):((l.take (k+1)).map f).sum=((l.take k).map f).sum+f l[k]:=by
 rw[wJ a,wM,wG];simp
def Rb {α}{f:α→Int}{l:List α}(c:∀x∈l,0≤f x):0≤(l.map f).sum:=Jq λy a=>by
 obtain⟨x,b,rfl⟩:=uX.1 a;exact c x b
def H9 {n a:Nat}(b:n*a≤140737488355328) {α}(x:Option α):chk (IX n a) x=x:=by
 unfold chk IX;rw[uQ b];rfl
def Ke {g:Type}(L:Nat) (f:Nat→Int→Option g) (kj:Option g) (a:∀n (k:Nat),L≤k→f (n+1) (k:Int)=kj) (b:∀n (k:Nat),k<L→f (n+1) (k:Int)=f n ((k+1:Nat):Int)):
  ∀n (k:Nat),L<n+k→k≤L→f n (k:Int)=kj
 |0,k,i,d=>by omega
 |n+1,k,i,d=>by
  rcases uM k L with c|c
  ·rw[b n k c];exact Ke L f kj a b n (k+1) (by omega) (by omega)
  ·exact a n k c
def WB (N:Nat) (a b:Int):Df (Fb N a b):=by
 unfold Fb;exact Df.cond (λ_=>Df.mk _) λ_=>Df.cond (λ_=>Df.mk _) λ_=>Df.mk _
def Rn (N:Nat) (a b:Int):Df (GK N a b):=by
 unfold GK;exact Df.cond (λ_=>Df.mk _) λ_=>Df.cond (λ_=>Df.mk _) λ_=>Df.mk _
def Kd {k:Nat}(b:k≤1000) (c:Nat) (a:c≤1000) {α}(x:Option α):chk (KH (k:Int) (k:Int) c) x=x:=by
 have:KH (k:Int) (k:Int) c=true:=by
  simp only[KH,tO,uF];refine⟨⟨by omega,by omega⟩,?_⟩;have:(c:Int)*(k:Int)≤1000*1000:=Int.mul_le_mul (by omega) (by omega) (by omega) (by omega);omega
 rw[this];rfl
def sU {α}{l:List α}{i:Nat}(a:i<l.length):∃x,ix l (i:Int)=some x∧x∈l:=⟨l[i],BG a,uE a⟩
def dH {α}(l xs:List α):(O2 l xs).length=l.length:=by unfold O2;simp;omega
def Zu {α}{l xs:List α}(a:l.length=xs.length):O2 l xs=xs:=by
 unfold O2;rw[a,uZ,List.drop_of_length_le (by omega),uU]
def NZ (k:Nat) (z:Int):(List.replicate ((k:Int)).toNat z).length=k:=by simp
def P5 {α}(k:Nat) (z:α):(List.replicate ((k:Int)).toNat z).length=k:=by simp
def T6 (p:List Int):O2 (List.replicate ((p.length:Int)).toNat (0:Int)) p=p:=Zu (by simp)
def MC {α}(l:List α) (i:Int) (x:α):(upd l i x).length=l.length:=by simp [upd]
def L6 (N:Nat) {p:List Int}(a:p.length≤1000000):CX N p=some p:=by
 unfold CX;rw[H9 (by simp;omega)];rfl
def V5 (N:Nat) {p:List AT}(a:p.length≤1000000):CI N p=some p:=by
 unfold CI;rw[H9 (by simp;omega)];rfl
def ZK {N:Nat}(l:1000000<N) {p q:List Int}(m:p.length≤1000) (o:q.length≤1000):∃r,Gz N p q=some r∧r.length=max p.length q.length:=by
 unfold Gz;have c:max (p.length:Int) (q.length:Int)=((max p.length q.length:Nat):Int):=by omega
 rw[c,Kd (by omega) _ (by decide)];obtain⟨s,d,e⟩:=Em q.length (λn i s=>Fm N q (Hi N) n i s) (Hi N) (λ_ s=>s.length=max p.length q.length) (λn k s a=>by
  simp only[Fm];rw[Eg a];rfl) (λn k s g a=>by
  simp only[Fm];have b:k<s.length:=by omega
  obtain⟨v,j⟩:=WB N s[k] q[k];rw[EZ a,tL,BG a];simp only[BG b,tJ];rw[j,tJ,BH (by omega)];exact⟨_,by rw[MC];exact g,rfl⟩) N 0 (O2 (List.replicate (((max p.length q.length:Nat):Int)).toNat (0:Int)) p) (by rw[dH,NZ]) (by omega) (tU _)
 exact⟨s,e,d⟩
def X2 {N:Nat}(l:1000000<N) {p:List Int}(m:p.length≤1000):∃v,HA N p=some v∧(v=true→(∀x∈p,0≤x)∧p.sum≤1125899906842624):=by
 unfold HA;rcases Mp p.length (λn i s=>DE N p (E7 N) n s i) (λ_=>E7 N) (some false) (λk s=>(∀x∈p.take k,0≤x)∧s=(p.take k).sum∧s≤1125899906842624∧0≤s) (λn k s a=>by
  simp only[DE];rw[Eg a];rfl) (λn k s d a=>by
  obtain⟨b,c,g,o⟩:=d;simp only[DE];rw[EZ a,tL,BG a,tJ,Cv (n:=1125899906842624-s) (by omega) (by omega)];cases j:(decide (p[k]<0)||decide (1125899906842624-s<p[k]))
  ·simp only[uS,uO] at j;rw[tM,BH (by omega),Cv (n:=s+p[k]) (by omega) (by omega)];exact .inr ⟨_,⟨LH a b (by omega),by rw[Ik a,c],by omega,by omega⟩,rfl⟩
  ·exact .inl rfl) N 0 0 ⟨by simp,rfl,by decide,by decide⟩ (by omega) (tU _) with e|⟨s,⟨b,c,g,_⟩,e⟩
 ·exact⟨false,e,λq=>by cases q⟩
 ·rw[uZ] at b c;exact⟨true,e,λ_=>⟨b,by omega⟩⟩
def dE {t t' n d:Int}(hd:0≤d) (a:0≤n) (b:t≤t'):t*n/d≤t'*n/d:=by
 rcases Int.lt_or_eq_of_le hd with c|c
 ·exact Int.ediv_le_ediv c (xO b a)
 ·rw[←c];simp
def VF {t n d:Int}(hd:0≤d) (a:0≤n) (b:0≤t):0≤t*n/d:=Int.ediv_nonneg (Int.mul_nonneg b a) hd
def Zk {t n d:Int}(hd:0≤d) (b:n≤d) (a:0≤t):t*n/d≤t:=by
 rcases Int.lt_or_eq_of_le hd with h0|h0
 ·refine Int.ediv_le_of_le_mul h0 (Int.mul_le_mul_of_nonneg_left b a)
 ·rw[←h0];simp [a]
def qH (e:List BS):Prop:=∀k l r,e[k]? =some l→e[k+1]? =some r→l.P<r.P∧l.X≤r.X
def H5.vol {c:List BS}(b:H5 c) {k:Nat}{p:BS}(a:c[k]? =some p):I3 p.P∧I3 p.X:=⟨(b.2.2 k p a).1,(b.2.2 k p a).2.1⟩
def H5.step {c:List BS}(d:H5 c) {k:Nat}{p q:BS}(a:c[k]? =some p) (b:c[k+1]? =some q):p.P<q.P∧p.X≤q.X:=(d.2.2 (k+1) q b).2.2 p (by omega) a
def qH.mono {e:List BS}(s:qH e) {i:Nat}:∀{j:Nat}{a b:BS},i≤j→e[i]? =some a→e[j]? =some b→a.P≤b.P∧a.X≤b.X∧(i<j→a.P<b.P)
 |j,a,b,l,g,d=>by
  rcases uM i j with n|hge
  ·obtain⟨j,rfl⟩:∃m,j=m+1:=⟨j-1,by omega⟩
   have o:=(uB.1 d).1;obtain⟨c,k⟩:∃c,e[j]? =some c:=⟨e[j],by simp [show j<e.length by omega]⟩
   have p:=qH.mono s (j:=j) (by omega) g k;have q:=s j c b k d;exact⟨by omega,by omega,λ_=>by omega⟩
  ·have:i=j:=by omega
   subst this;rw[g] at d;cases d;exact⟨vD _,vD _,λs=>by omega⟩
structure qC (e:List BS) (x:Int) (k:Nat) (l r:BS):Prop where
 l_:e[k]? =some l
 r_:e[k+1]? =some r
 lo:l.P≤x
 hi:x<r.P
def RH (l r:BS) (x:Int):Int:=l.X+(x-l.P)*(r.X-l.X)/(r.P-l.P)
def Xp (l r:BS) (x:Int):Int:=(x-l.P)*(r.X-l.X)%(r.P-l.P)
def qC.bounds {e:List BS}(m:qH e) {x:Int}{k:Nat}{l r:BS}(a:qC e x k l r):l.X≤RH l r x∧RH l r x≤r.X:=by
 have b:=m k l r a.l_ a.r_;have c:=a.lo;have g:=a.hi;have i:=VF (t:=x-l.P) (n:=r.X-l.X) (d:=r.P-l.P) (by omega) (by omega) (by omega);have j:(x-l.P)*(r.X-l.X)/(r.P-l.P)≤r.X-l.X:=by
  refine Int.ediv_le_of_le_mul (by omega) ?_;rw[Int.mul_comm];exact Int.mul_le_mul_of_nonneg_left (by omega) (by omega)
 unfold RH;omega
def qC.mono {e:List BS}(v:qH e) {x c:Int}{k g:Nat}{l r i r':BS}(a:qC e x k l r) (b:qC e c g i r') (u:x≤c):RH l r x≤RH i r' c:=by
 rcases Nat.lt_trichotomy k g with m|heq|hgt
 ·have j:=v.mono (show k+1≤g by omega) a.r_ b.l_;have o:=(a.bounds v).2;have p:=(b.bounds v).1;omega
 ·subst heq;have q:=a.l_.symm.trans b.l_;have s:=a.r_.symm.trans b.r_;cases q;cases s;have j:=v k l r a.l_ a.r_;have:=dE (t:=x-l.P) (t':=c-l.P) (n:=r.X-l.X) (d:=r.P-l.P) (by omega) (by omega) (by omega);unfold RH;omega
 ·have j:=v.mono (show g+1≤k by omega) b.r_ a.l_;have o:=a.lo;have p:=b.hi;omega
def sE (e:List BS) (s:Int):Prop:=∀k l r,e[k]? =some l→e[k+1]? =some r→(r.X-l.X)*1099511627776≤s*(r.P-l.P)
def sE.mono {e:List BS}{s:Int}(t:sE e s) {i:Nat}:∀{j:Nat}{a b:BS},i≤j→e[i]? =some a→e[j]? =some b→(b.X-a.X)*1099511627776≤s*(b.P-a.P)
 |j,a,b,l,g,d=>by
  rcases uM i j with n|hge
  ·obtain⟨j,rfl⟩:∃m,j=m+1:=⟨j-1,by omega⟩
   have o:=(uB.1 d).1;obtain⟨c,k⟩:∃c,e[j]? =some c:=⟨e[j],by simp [show j<e.length by omega]⟩
   have p:=sE.mono t (j:=j) (by omega) g k;have q:=t j c b k d;grind
  ·have:i=j:=by omega
   subst this;rw[g] at d;cases d;grind
def iI {a n d:Int}(b:0≤a∧a≤1125899906842624) (c:0≤n∧n≤1125899906842624) (g:1≤d∧d≤1125899906842624) (i:a*n/d≤1125899906842624):nU a n d=(a*n/d,a*n%d,true):=by
 unfold nU;rw[tT ⟨b,c,g,i⟩]
def Pe {N:Nat}(i:33<N) {c:List BS}(o:H5 c):Eb N c=some true:=by
 unfold Eb;have j:=o.1;have l:=o.2.1;rw[show (decide ((c.length:Int)<1)||decide (32<(c.length:Int)))=false by simp;omega,tM];exact Ke c.length (Ea N c (G1 N)) (G1 N) (λn k a=>by
  simp only[Ea];rw[Eg a];rfl) (λn k a=>by
  have b:c[k]? =some c[k]:=by simp [a]
  have v:=o.vol b;unfold I3 at v;simp only[Ea];rw[EZ a,tL,BG a,tJ,show(((decide ((c[k]).P<0)||decide (1125899906842624<(c[k]).P))||decide ((c[k]).X<0))||decide (1125899906842624<(c[k]).X))=false by simp only[uS,uO];omega,tM,BH (by omega)];by_cases h0:k=0
  ·subst h0;rfl
  ·have d:c[k-1]? =some c[k-1]:=by simp
   have m:=o.step d (q:=c[k]) (by rw[show k-1+1=k by omega];exact b);have g:BD ((k:Int)-1)=((k-1:Nat):Int):=by rw[Cv (by omega) (by omega)];omega
   rw[show decide ((0:Int)<(k:Int))=true by simp;omega,tL,g,BG (show k-1<c.length by omega)];simp only[tJ];rw[show decide ((c[k]).P≤(c[k-1]).P)=false by simp only[uO];omega,show decide ((c[k]).X<(c[k-1]).X)=false by simp only[uO];omega];rfl) N 0 (by omega) (tU _)
def VA (l r:BS) (x:Int):Int:=l.X*(r.P-l.P)+(x-l.P)*(r.X-l.X)
def Sw {l r:BS}(a:l.P<r.P) (x:Int):RH l r x*(r.P-l.P)+Xp l r x=VA l r x:=by
 have:=Int.ediv_mul_add_emod ((x-l.P)*(r.X-l.X)) (r.P-l.P);unfold RH Xp VA;grind
def WS {l r:BS}(a:l.P<r.P) (x:Int):0≤Xp l r x∧Xp l r x<r.P-l.P:=⟨Int.emod_nonneg _ (by omega),Int.emod_lt_of_pos _ (by omega)⟩
def gG (l r a r':BS) (x:Int):Prop:=VA l r x*(r'.P-a.P)≤VA a r' x*(r.P-l.P)
def gG.mid {l r b r':BS}{x u v:Int}(c:gG l r b r' u) (d:gG l r b r' v) (i:u≤x) (j:x≤v) (g:u<v):gG l r b r' x:=by
 unfold gG VA at*;have k:=xO c (show 0≤v-x by omega);have m:=xO d (show 0≤x-u by omega);refine Int.le_of_mul_le_mul_right (a:=v-u) ?_ (by omega);grind
def gG.val {l r c r':BS}{x:Int}(z:gG l r c r' x) (j:l.P<r.P) (g:c.P<r'.P):RH l r x≤RH c r' x:=by
 have k:=Sw j x;have n:=Sw g x;have o:=WS j x;have p:=WS g x;unfold gG at z;rw[←k,←n] at z;refine Int.not_lt.1 λt=>?_;generalize RH l r x=a at*
 generalize RH c r' x=b at*
 generalize Xp l r x=m at*
 generalize Xp c r' x=q at*
 have s:0<r.P-l.P:=by omega
 have u:0<r'.P-c.P:=by omega
 generalize r.P-l.P=d at*
 generalize r'.P-c.P=i at*
 have v:(b+1)*(d*i)≤a*(d*i):=xO (by omega) (Int.mul_nonneg (by omega) (by omega));have w:0≤m*i:=Int.mul_nonneg o.1 (by omega);have y:q*d<i*d:=Int.mul_lt_mul_of_pos_right p.2 s;grind
def Gs {α}{l:List α}{k:Nat}(a:k<l.length) (x:α):(upd l (k:Int) x)[k]? =some x:=by
 simp [upd,a]
def Ii {α}{l:List α}{k j:Nat}(a:k≠j) (x:α):(upd l (k:Int) x)[j]? =l[j]? :=by
 simp [upd,wR a]
def G5 (p q:List Int):List Int:=List.zipWith (· + ·) p q
def I0 (p q:List Int):List Int:=List.zipWith (· - ·) p q
def Pv {p q:List Int}{W:Nat}(a:p.length=W) (b:q.length=W):(G5 p q).length=W:=by simp [G5,a,b]
def Yj {p q:List Int}{W:Nat}(a:p.length=W) (b:q.length=W):(I0 p q).length=W:=by simp [I0,a,b]
def LW:∀{p q:List Int},p.length=q.length→(G5 p q).sum=p.sum+q.sum
 |[],[],_=>rfl
 |a::p,b::q,c=>by
  have:=LW (p:=p) (q:=q) (by simpa using c);simp only[G5,List.zipWith_cons_cons,vS] at this ⊢;omega
def Ud:∀{p q:List Int},p.length=q.length→(I0 p q).sum=p.sum-q.sum
 |[],[],_=>rfl
 |a::p,b::q,c=>by
  have:=Ud (p:=p) (q:=q) (by simpa using c);simp only[I0,List.zipWith_cons_cons,vS] at this ⊢;omega
structure PX (W:Nat) (p:List Int):Prop where
 len:p.length=W
 nn:∀x∈p,0≤x
 mv:p.sum≤1125899906842624
def IZ:∀{p:List Int},(∀x∈p,0≤x)→∀x∈p,x≤p.sum
 |a::p,g,x,b=>by
  have h0:=Jq (l:=p) λy c=>g y (uR _ c);have d:=g a (uN ..);rw[vS];rcases uA.1 b with rfl|b
  ·omega
  ·have:=IZ (p:=p) (λy c=>g y (uR _ c)) x b;omega
def PX.mem {W:Nat}{p:List Int}(b:PX W p) {x:Int}(a:x∈p):0≤x∧x≤1125899906842624:=⟨b.nn x a,Int.le_trans (IZ b.nn x a) b.mv⟩
def PX.sum0 {W:Nat}{p:List Int}(a:PX W p):0≤p.sum:=Jq a.nn
def RY {p q:List Int}(d:∀x∈p,0≤x) (g:∀x∈q,0≤x):∀x∈G5 p q,0≤x:=λx j=>by
 obtain⟨i,c⟩:=wN.1 j;rw[G5,wZ] at c;split at c
 ·rename_i a b k l;have:=d a (vM k);have:=g b (vM l);cases c;omega
 ·cases c
def PX.add {W:Nat}{p q:List Int}(a:PX W p) (b:PX W q) (c:p.sum+q.sum≤1125899906842624):PX W (G5 p q):=
 ⟨Pv a.len b.len,RY a.nn b.nn,by rw[LW (a.len.trans b.len.symm)];exact c⟩
def PX.zero (W:Nat):PX W (List.replicate W 0):=⟨by simp,λx a=>by rw[(List.mem_replicate.1 a).2];exact vD 0,by simp⟩
def Wg (W:Nat):(List.replicate W (0:Int)).sum=0:=by simp
structure VV (t p:List Int):Prop where
 len:t.length=p.length
 le:∀(i:Nat) (x y:Int),t[i]? =some x→p[i]? =some y→0≤x∧x≤y
def VV.sub {W:Nat}{t p:List Int}(z:VV t p) (j:PX W p):PX W (I0 p t)∧(I0 p t).sum=p.sum-t.sum∧PX W t:=by
 have n:t.length=W:=z.len.trans j.len;have d:∀x∈t,0≤x:=λx k=>by
  obtain⟨i,c⟩:=wN.1 k;have l:=(uB.1 c).1;have m:i<p.length:=by rw[←z.len];exact l
  exact(z.le i x _ c (uC m)).1
 have o:=Ud (p:=p) (q:=t) z.len.symm;have g:∀x∈I0 p t,0≤x:=λx k=>by
  obtain⟨i,c⟩:=wN.1 k;rw[I0,wZ] at c;split at c
  ·rename_i a b s u;have:=z.le i b a u s;cases c;omega
  ·cases c
 have v:=Jq g;have w:=Jq d;have y:=j.mv;exact⟨⟨Yj j.len n,g,by omega⟩,o,n,d,by omega⟩
def Xn {W:Nat}{p t:List Int}(d:p.length=W) (g:t.length=W) (j:∀x∈t,x=0):I0 p t=p:=by
 apply vG;intro i;rw[I0,wZ];rcases uM i W with b|b
 ·have c:i<p.length:=by omega
  have a:i<t.length:=by omega
  rw[uC c,uC a];have:=j _ (uE a);simp [this]
 ·rw[uW (show p.length≤i by omega)]
def UZ:∀{t:List Int},(∀x∈t,0≤x)→t.sum≤0→∀x∈t,x=0:=λ{t} g b x a=>by
 have c:=IZ g x a;have d:=g x a;omega
def Ue {N:Nat}(j:1000000<N) {p:List Int}(l:p.length≤1000) (h0:∀x∈p,0≤x) (m:p.sum≤2305843009213693952):DF N p=some p.sum:=by
 unfold DF;obtain⟨s,⟨b,c⟩,e⟩:=Em p.length (λn i s=>Gn N p (IF N) n s i) (IF N) (λk s=>s=(p.take k).sum∧0≤s) (λn k s a=>by
  simp only[Gn];rw[Eg a];rfl) (λn k s d a=>by
  obtain⟨b,c⟩:=d;have g:=Gk h0 (k+1);have o:=Gk h0 k;have q:=h0 _ (uE a);rw[Ik a] at g;simp only[Gn];rw[EZ a,tL,BG a,tJ,UC N (by omega) (by omega) (by omega) (by omega),tJ,BH (by omega)];exact⟨_,⟨by rw[Ik a,b],by omega⟩,rfl⟩) N 0 0 ⟨rfl,vD _⟩ (by omega) (tU _)
 rw[uZ] at b;subst b;exact e
def Wm {N:Nat}(y:1000000<N) {p q:List Int}(t:p.length≤1000) (z:q.length=p.length) (u:∀x∈p, -2305843009213693952≤x∧x≤2305843009213693952) (v:∀x∈q, -2305843009213693952≤x∧x≤2305843009213693952):Gz N p q=some (G5 p q):=by
 unfold Gz;have w:max (p.length:Int) (q.length:Int)=(p.length:Int):=by omega
 rw[w,Kd t _ (by decide),T6];obtain⟨s,⟨o,j,l⟩,e⟩:=Em q.length (λn i s=>Fm N q (Hi N) n i s) (Hi N) (λk s=>s.length=p.length∧(∀i,k≤i→s[i]? =p[i]?)∧∀i,i<k→s[i]? =(G5 p q)[i]?) (λn k s c=>by
  simp only[Fm];rw[Eg c];rfl) (λn k s g c=>by
  obtain⟨o,j,l⟩:=g;simp only[Fm];have a:k<s.length:=by omega
  have b:k<p.length:=by omega
  have m:s[k]=p[k]:=by
   have:=j k (tX _);rw[uC a,uC b] at this;exact tN this
  have A:=u _ (uE b);have B:=v _ (uE c);rw[EZ c,tL,BG c,tJ,BG a,tJ,tJ,m,UC N (by omega) (by omega) (by omega) (by omega),tJ,tJ,tJ,BH (by omega)];refine⟨_,⟨by rw[MC];exact o,λi g=>by rw[Ii (by omega)];exact j i (by omega),λi g=>?_⟩,rfl⟩;by_cases d:k=i
  ·subst d;rw[Gs a,G5,wZ,uC b,uC c]
  ·rw[Ii d];exact l i (by omega)) N 0 p ⟨rfl,λi _=>rfl,λi g=>by omega⟩ (by omega) (tU _)
 have:s=G5 p q:=vG λi=>by
  rcases uM i q.length with C|C
  ·exact l i C
  ·rw[uW (by omega),uW (by simp [G5];omega)]
 subst this;exact e
def Va {N:Nat}(w:1000000<N) {p t:List Int}(q:p.length≤1000) (y:t.length=p.length) (u:∀x∈p, -2305843009213693952≤x∧x≤2305843009213693952) (v:∀x∈t, -2305843009213693952≤x∧x≤2305843009213693952):Hx N p t=some (I0 p t):=by
 unfold Hx;rw[Kd q _ (by decide),T6];obtain⟨s,⟨o,j,l⟩,e⟩:=Em t.length (λn i s=>FZ N t (HM N) n i s) (HM N) (λk s=>s.length=p.length∧(∀i,k≤i→s[i]? =p[i]?)∧∀i,i<k→s[i]? =(I0 p t)[i]?) (λn k s c=>by
  simp only[FZ];rw[Eg c];rfl) (λn k s g c=>by
  obtain⟨o,j,l⟩:=g;simp only[FZ];have a:k<s.length:=by omega
  have b:k<p.length:=by omega
  have m:s[k]=p[k]:=by
   have:=j k (tX _);rw[uC a,uC b] at this;exact tN this
  have z:=u _ (uE b);have A:=v _ (uE c);rw[EZ c,tL,BG c,tJ,BG a,tJ,tJ,tJ,tJ,m,Cv (n:=p[k]-t[k]) (by omega) (by omega),BH (by omega)];refine⟨_,⟨by rw[MC];exact o,λi g=>by rw[Ii (by omega)];exact j i (by omega),λi g=>?_⟩,rfl⟩;by_cases d:k=i
  ·subst d;rw[Gs a,I0,wZ,uC b,uC c]
  ·rw[Ii d];exact l i (by omega)) N 0 p ⟨rfl,λi _=>rfl,λi g=>by omega⟩ (by omega) (tU _)
 have:s=I0 p t:=vG λi=>by
  rcases uM i t.length with B|B
  ·exact l i B
  ·rw[uW (by omega),uW (by simp [I0];omega)]
 subst this;exact e
def PX.big {W:Nat}{p:List Int}(b:PX W p):∀x∈p, -2305843009213693952≤x∧x≤2305843009213693952:=λx a=>by
 have:=b.mem a;omega
def PX.total {N W:Nat}(a:1000000<N) (b:W≤1000) {p:List Int}(c:PX W p):DF N p=some p.sum:=Ue a (by rw[c.len];exact b) c.nn (by have:=c.mv;omega)
def PX.padd {N W:Nat}(c:1000000<N) (d:W≤1000) {p q:List Int}(a:PX W p) (b:PX W q):Gz N p q=some (G5 p q):=Wm c (by rw[a.len];exact d) (b.len.trans a.len.symm) a.big b.big
def PX.wo {N W:Nat}(c:1000000<N) (d:W≤1000) {p t:List Int}(a:PX W p) (b:PX W t):Hx N p t=some (I0 p t):=Va c (by rw[a.len];exact d) (b.len.trans a.len.symm) a.big b.big
def NU:∀{l:List Int}{i:Nat}(b:i<l.length) (x:Int),(l.set i x).sum=l.sum-l[i]+x
 |a::l,0,_,x=>by simp;omega
 |a::l,i+1,b,x=>by
  have:=NU (l:=l) (i:=i) (by simpa using b) x;simp only[List.set_cons_succ,vS,List.getElem_cons_succ,this];omega
def dD {N W:Nat}(A:1000000<N) (v:W≤1000) {p:List Int}(a:PX W p) (o n:Int):∃t,Le N p o n=some (t,I0 p t)∧VV t p∧(t=List.replicate W 0∨∃i:Nat,o=(i:Int)∧i<W∧0<n∧0<p.getD i 0∧t=(List.replicate W 0).set i (min n (p.getD i 0)))∧((∃i:Nat,o=(i:Int)∧i<W∧0<n)→t=(List.replicate W 0).set o.toNat (min n (p.getD o.toNat 0))):=by
 have d:VV (List.replicate W 0) p:=⟨by simp [a.len],λi x y b g=>by
  rw[xI] at b;split at b
  ·cases b;exact⟨vD _,a.nn y (vM g)⟩
  ·cases b⟩
 have q:∀t,VV t p→It N p t=some (t,I0 p t):=λt B=>by
  unfold It;rw[a.wo A v (B.sub a).2.2,tJ]
 have C:List.replicate ((p.length:Int)).toNat (0:Int)=List.replicate W 0:=by rw[a.len];rfl
 unfold Le KM;rw[Kd (by rw[a.len];exact v) _ (by decide),C];by_cases D:0≤o∧o<W
 ·obtain⟨i,rfl⟩:∃i:Nat,o=i:=⟨o.toNat,by omega⟩
  have c:i<p.length:=by rw[a.len];omega
  have s:p.getD i 0=p[i]:=by simp [vO,c]
  have h0:=a.nn _ (uE c);rw[tY (show ¬(i:Int)<0 by omega),tY (show ¬(p.length:Int)≤(i:Int) by omega),wT,tM,BG c,tJ,tJ,tY (show ¬p[i]<0 by omega),tM,tJ,tJ];rw[vR,s];by_cases w:0<min n p[i]
  ·rw[uQ w,tL,BG (show i<(List.replicate W (0:Int)).length by simp;omega),tJ,tJ];have z:VV ((List.replicate W (0:Int)).set i (min n p[i])) p:=⟨by simp [a.len],λj x y b g=>by
    by_cases l:i=j
    ·subst l;rw[xA (by simp;omega)] at b;rw[uC c] at g;cases b;cases g;omega
    ·rw[wR l] at b;exact d.le j x y b g⟩
   exact⟨_,q _ z,z,.inr ⟨i,rfl,by omega,by omega,by rw[s];omega,by rw[s];rfl⟩,λ_=>rfl⟩
  ·rw[tY w,tM];refine⟨_,q _ d,d,.inl rfl,λ⟨j,F,u,H⟩=>?_⟩;have:min n p[i]=0:=by omega
   rw[this];apply vG;intro k;by_cases m:i=k
   ·subst m;rw[xA (by simp;omega),xI,tT (by omega)]
   ·rw[wR m]
 ·have G:(decide (o<0)||decide ((p.length:Int)≤o))=true:=by
   rw[a.len];simp only[uD,uF];omega
  rw[G,tL,tJ,tL,tJ,tY (show ¬0<min n 0 by omega),tM];exact⟨_,q _ d,d,.inl rfl,λ⟨j,F,u,_⟩=>absurd ⟨by omega,by omega⟩ D⟩
def OY (N:Nat) (n a b:Int):Hl N n a b=some (if n<a then a else if b<n then b else n):=by
 unfold Hl;by_cases c:n<a
 ·rw[uQ c,tT c];rfl
 ·rw[tY c,tQ c];by_cases d:b<n
  ·rw[uQ d,tT d];rfl
  ·rw[tY d,tQ d];rfl
def L3 (N:Nat) (i n:Int):GY N i n=some (decide (0≤i)&&decide (i<n)):=rfl
def Zl (N:Nat) (l:BM) (g:AT) (k:Int):∃a,He N l g k=some a∧a.V=g.V∧a.W=g.W:=by
 have b:∀c:Bool,∃a,Gp N l g k (Fx N g) c=some a∧a.V=g.V∧a.W=g.W:=λc=>by
  unfold Gp;cases c
  ·exact⟨_,rfl,rfl,rfl⟩
  ·cases decide (l.F=5)<;>exact⟨_,rfl,rfl,rfl⟩
 unfold He;cases decide (k=0)
 ·cases decide (k=1)
  ·cases decide (k=2)
   ·exact b (decide (k=3))
   ·exact b true
  ·exact⟨_,rfl,rfl,rfl⟩
 ·exact⟨_,rfl,rfl,rfl⟩
def aO (N:Nat) (l:BM) (g:AT) (t:Int):∃a,I7 N l g t=some a∧a.V=g.V∧a.At=g.At∧(0≤l.U→0≤g.W→g.W≤l.U→0≤a.W∧a.W≤l.U):=by
 unfold I7;cases decide (l.U≠0)
 ·exact⟨_,rfl,rfl,rfl,λ_ b c=>⟨b,c⟩⟩
 ·rw[tL,OY,tJ];refine⟨_,rfl,rfl,rfl,λh0 b c=>?_⟩;show 0≤(if t<0 then 0 else if l.U<t then l.U else t)∧_≤l.U
  split
  ·exact⟨vD _,h0⟩
  ·split
   ·exact⟨h0,vD _⟩
   ·exact⟨by omega,show t≤_ by omega⟩
def cV (N:Nat) (l:BM) (g:AT):Df (Hk N l g):=by
 unfold Hk;cases g.At
 ·obtain⟨a,d⟩:=Rn N g.W g.V;obtain⟨b,i⟩:=Rn N 0 l.Ac;rw[tM,d,tJ,i,tJ,OY,tJ];obtain⟨c,j⟩:=WB N g.V (if a<b then b else if l.Ac<a then l.Ac else a);rw[j];exact⟨_,rfl⟩
 ·exact⟨_,rfl⟩
def Xu (N:Nat) (l:BM) (g:AT) (v:Int):∃b,G9 N l g v=some b∧b.V=g.V∧(l.F≠3→b=g):=by
 unfold G9;by_cases a:l.F=3
 ·rw[show decide (l.F≠3)=false by simp [a],tM];cases decide (l.Aw≤v)
  ·cases decide (v≤l.Ax)<;>exact⟨_,rfl,rfl,λc=>absurd a c⟩
  ·exact⟨_,rfl,rfl,λc=>absurd a c⟩
 ·rw[show decide (l.F≠3)=true by simp [a],tL];exact⟨g,rfl,rfl,λ_=>rfl⟩
def gF (N:Nat) (l:BM) (g:AT) (k:Int):AT:=(He N l g k).getD g
def gA (N:Nat) (l:BM) (g:AT) (k:Int):AT:=(I7 N l g k).getD g
def gM (N:Nat) (l:BM) (g:AT):AT:=(Hk N l g).getD g
def gS (N:Nat) (l:BM) (g:AT) (v:Int):AT:=(G9 N l g v).getD g
def oZ (N:Nat) (l:BM) (g:AT) (k:Int):He N l g k=some (gF N l g k)∧(gF N l g k).V=g.V∧(gF N l g k).W=g.W:=by
 obtain⟨a,e,b⟩:=Zl N l g k;unfold gF;rw[e];exact⟨rfl,b⟩
def pA (N:Nat) (l:BM) (g:AT) (k:Int):I7 N l g k=some (gA N l g k)∧(gA N l g k).V=g.V∧(gA N l g k).At=g.At∧(0≤l.U→0≤g.W→g.W≤l.U→0≤(gA N l g k).W∧(gA N l g k).W≤l.U):=by
 obtain⟨a,e,b⟩:=aO N l g k;unfold gA;rw[e];exact⟨rfl,b⟩
def Zh (N:Nat) (l:BM) (g:AT):Hk N l g=some (gM N l g):=by
 obtain⟨a,e⟩:=cV N l g;unfold gM;rw[e];rfl
def oY (N:Nat) (l:BM) (g:AT) (v:Int):G9 N l g v=some (gS N l g v)∧(gS N l g v).V=g.V∧(l.F≠3→gS N l g v=g):=by
 obtain⟨a,e,b⟩:=Xu N l g v;unfold gS;rw[e];exact⟨rfl,b⟩
def jG (N:Nat) (l:BM) (g:AT) (k:l.U≤64) (m:0≤l.Ac∧l.Ac≤l.U) (d:0≤g.V∧g.V≤l.U) (n:0≤g.W∧g.W≤l.U):(0≤(gM N l g).V∧(gM N l g).V≤l.U)∧(gM N l g).V-g.V≤l.Ac∧ -l.Ac≤(gM N l g).V-g.V∧(g.At=true→gM N l g=g):=by
 have e:=Zh N l g;unfold Hk at e;cases a:g.At with
 |true=>
  rw[a,tL] at e;have e:=tN e;rw[←e];exact⟨d,by omega,by omega,λ_=>rfl⟩
 |false=>
  rw[a,tM,Yx N (by omega) (by omega) (by omega) (by omega),tJ,Yx N (by omega) (by omega) (by omega) (by omega),tJ,OY,tJ] at e;have b:∃c,(if g.W-g.V<0-l.Ac then 0-l.Ac else if l.Ac<g.W-g.V then l.Ac else g.W-g.V)=c∧ -l.Ac≤c∧c≤l.Ac∧0≤g.V+c∧g.V+c≤l.U:=by
   refine⟨_,rfl,?_⟩;split
   ·omega
   ·split<;>omega
  obtain⟨c,b,o,p,i,j⟩:=b;rw[b,UC N (by omega) (by omega) (by omega) (by omega),tJ] at e;have e:=tN e;rw[←e];exact⟨⟨i,j⟩,by show g.V+c-g.V≤_;omega,by show _≤g.V+c-g.V;omega,λq=>by cases q⟩
def cH (N:Nat) (l:BM) (k:Nat) (a:List LE) (g:AT):AT:=a.foldl (λg f=>if f.As=(k:Int) then gF N l g f.F else g) g
def stA (N:Nat) (l:BM) (k:Nat) (cs:List RX) (g:AT):AT:=cs.foldl (λg c=>if c.As=(k:Int) then gA N l g c.W else g) g
def Rp {N:Nat}{l:BM}{k:Nat}{a:List LE}{g:AT}{i:Nat}(b:i<a.length):cH N l k (a.take (i+1)) g=if a[i].As=(k:Int) then gF N l (cH N l k (a.take i) g) a[i].F else cH N l k (a.take i) g:=by
 unfold cH;rw[wJ b,xY];rfl
def Rq {N:Nat}{l:BM}{k:Nat}{cs:List RX}{g:AT}{i:Nat}(a:i<cs.length):stA N l k (cs.take (i+1)) g=if cs[i].As=(k:Int) then gA N l (stA N l k (cs.take i) g) cs[i].W else stA N l k (cs.take i) g:=by
 unfold stA;rw[wJ a,xY];rfl
def Xi (L:Nat) (a:List AT) (g:Nat→AT):Prop:=a.length=L∧∀k,k<L→a[k]? =some (g k)
def Xi.ix {L:Nat}{a:List AT}{g:Nat→AT}(c:Xi L a g) {k:Nat}(b:k<L):ix a (k:Int)=some (g k):=by
 have:=c.2 k b;simp [Go.Proofs.YtedgiljmffngoaaGreat.ix,this]
def Xi.upd {L:Nat}{b:List AT}{g a:Nat→AT}(m:Xi L b g) {j:Nat}(d:j<L) (x:AT) (i:a j=x) (l:∀k,k<L→k≠j→a k=g k):Xi L (upd b (j:Int) x) a:=
 ⟨by rw[MC];exact m.1,λk c=>by
  by_cases e:j=k
  ·subst e;rw[Gs (by rw[m.1];exact d),i]
  ·rw[Ii e,m.2 k c,l k c λm=>e m.symm]⟩
def Xi.congr {L:Nat}{a:List AT}{g b:Nat→AT}(d:Xi L a g) (e:∀k,k<L→b k=g k):Xi L a b:=⟨d.1,λk c=>by rw[d.2 k c,e k c]⟩
def Ws (b:AF) (k:Nat):BM:=b.E.getD k default
def R8 {b:AF}{k:Nat}(a:k<b.E.length):Ws b k=b.E[k]:=by unfold Ws;simp [vO,a]
def fQ {α}{l:List α}{i:Int}(h0:0≤i) (a:i<l.length):∃n:Nat,i=(n:Int)∧n<l.length:=⟨i.toNat,by omega,by omega⟩
def QC {i:Int}{n:Nat}:(decide (0≤i)&&decide (i<(n:Int)))=true↔0≤i∧i<n:=by simp
def ZS {N:Nat}(H:1000000<N) {w:AN}{b:AF}(q:w.b=b) (I:b.E.length≤1000) (J:w.in_.Ah.length≤1000) (K:w.in_.Aj.length≤1000) {o:Nat→AT}(h0:Xi b.E.length w.s.M o):
  ∃x,GZ N w=some x∧Xi b.E.length x (λk=>gM N (Ws b k) (stA N (Ws b k) k w.in_.Aj (cH N (Ws b k) k w.in_.Ah (o k)))):=by
 subst q;unfold GZ;obtain⟨t,y,B⟩:=Em w.in_.Ah.length (λn i s=>CR N w (Cj N w) n i s) (Cj N w) (λi s=>Xi w.b.E.length s (λk=>cH N (Ws w.b k) k (w.in_.Ah.take i) (o k))) (λn k s a=>by
  simp only[CR];rw[Eg a];rfl) (λn i s g a=>by
  simp only[CR,GE];rw[EZ a,tL,BG a,tJ,L3,tJ,BH (by omega)];cases l:(decide (0≤w.in_.Ah[i].As)&&decide (w.in_.Ah[i].As<(w.b.E.length:Int)))
  ·refine⟨s,g.congr λk d=>?_,rfl⟩;rw[Rp a,tQ];intro e;rw[e] at l;simp [d] at l
  ·obtain⟨u,v⟩:=QC.1 l;obtain⟨j,m,c⟩:=fQ u v;rw[tL,m,BG c];simp only[g.ix c,tJ];rw[(oZ N _ _ _).1,tJ];refine⟨_,g.upd c _ ?_ λk d p=>?_,rfl⟩
   ·rw[Rp a,tT m,R8 c]
   ·rw[Rp a,tQ (by rw[m];omega)]) N 0 w.s.M h0 (by omega) (tU _)
 rw[show CR N w (Cj N w) N 0 w.s.M=Cj N w t from B];rw[uZ] at y;unfold Cj;obtain⟨z,A,C⟩:=Em w.in_.Aj.length (λn i s=>CQ N w (Ci N w) n i s) (Ci N w) (λi s=>Xi w.b.E.length s (λk=>stA N (Ws w.b k) k (w.in_.Aj.take i) (cH N (Ws w.b k) k w.in_.Ah (o k)))) (λn k s a=>by
  simp only[CQ];rw[Eg a];rfl) (λn i s g a=>by
  simp only[CQ,GD];rw[EZ a,tL,BG a,tJ,L3,tJ,BH (by omega)];cases l:(decide (0≤w.in_.Aj[i].As)&&decide (w.in_.Aj[i].As<(w.b.E.length:Int)))
  ·refine⟨s,g.congr λk d=>?_,rfl⟩;rw[Rq a,tQ];intro e;rw[e] at l;simp [d] at l
  ·obtain⟨u,v⟩:=QC.1 l;obtain⟨j,m,c⟩:=fQ u v;rw[tL,m,BG c];simp only[g.ix c,tJ];rw[(pA N _ _ _).1,tJ];refine⟨_,g.upd c _ ?_ λk d p=>?_,rfl⟩
   ·rw[Rq a,tT m,R8 c]
   ·rw[Rq a,tQ (by rw[m];omega)]) N 0 t y (by omega) (tU _)
 rw[show CQ N w (Ci N w) N 0 t=Ci N w z from C];rw[uZ] at A;unfold Ci;obtain⟨D,F,G⟩:=Em w.b.E.length (λn i s=>C7 N w n i s) (λs=>some s) (λi s=>Xi w.b.E.length s (λk=>if k<i then gM N (Ws w.b k) (stA N (Ws w.b k) k w.in_.Aj (cH N (Ws w.b k) k w.in_.Ah (o k))) else stA N (Ws w.b k) k w.in_.Aj (cH N (Ws w.b k) k w.in_.Ah (o k)))) (λn k s a=>by
  simp only[C7];rw[Eg a];rfl) (λn i s g a=>by
  simp only[C7];rw[EZ a,tL,BG a];simp only[g.ix a,tJ];rw[Zh,tJ,BH (by omega),tQ (Nat.lt_irrefl i)];refine⟨_,g.upd a _ ?_ λk d p=>?_,rfl⟩
  ·rw[tT (Nat.lt_succ_self i),R8 a]
  ·by_cases Q:k<i
   ·rw[tT Q,tT (by omega)]
   ·rw[tQ Q,tQ (by omega)]) N 0 z (A.congr λk _=>by rw[tQ (Nat.not_lt_zero k)]) (by omega) (tU _)
 exact⟨D,G,F.congr λk a=>by rw[tT a]⟩
def ZJ:∀{a b:List Int},a.Perm b→a.sum=b.sum:=λi=>by
 induction i with
 |nil=>rfl
 |cons x _ c=>simp only[vS,c]
 |swap x y l=>simp only[vS];omega
 |trans _ _ d g=>exact d.trans g
def K3:∀{l:List Int}{c:Int},(∀x∈l,x≤c)→l.sum≤l.length*c
 |[],c,_=>by simp
 |a::l,c,i=>by
  have d:=i a (uN ..);have g:=K3 (l:=l) (c:=c) λx b=>i x (uR _ b);rw[vS,wA,Int.natCast_succ,Int.add_mul,Int.one_mul];omega
def Wx {lt:Int→Int→Bool}(R:Int→Int) (g:∀x y,lt x y=true→R y≤R x) (d:∀x y,lt x y=false→R x≤R y) (x:Int):∀l:List Int,l.Pairwise (λa b=>R b≤R a)→(Sn lt x l).Pairwise λa b=>R b≤R a
 |[],_=>by simp [Sn]
 |y::l,k=>by
  have j:∀z,z∈l→R z≤R y:=λz c=>List.rel_of_pairwise_cons k c;unfold Sn;cases i:lt y x with
  |true=>
   refine List.Pairwise.cons (λz c=>?_) (Wx R g d x l k.of_cons);rcases uA.1 ((O0 lt x l).mem_iff.1 c) with rfl|c
   ·exact g _ _ i
   ·exact j z c
  |false=>
   refine List.Pairwise.cons (λz c=>?_) k;rcases uA.1 c with rfl|c
   ·exact d _ _ i
   ·exact Int.le_trans (j z c) (d _ _ i)
def VC {lt:Int→Int→Bool}(R:Int→Int) (c:∀x y,lt x y=true→R y≤R x) (d:∀x y,lt x y=false→R x≤R y):∀l:List Int,(ND lt l).Pairwise λa b=>R b≤R a
 |[]=> .nil
 |x::l=>Wx R c d x _ (VC R c d l)
def Y7 (c:List Int) (x y:Int):(Q0 c x y=true→c.getD y.toNat 0≤c.getD x.toNat 0)∧(Q0 c x y=false→c.getD x.toNat 0≤c.getD y.toNat 0):=by
 show(cond (!decide (c.getD x.toNat 0=c.getD y.toNat 0)) (decide (c.getD y.toNat 0<c.getD x.toNat 0)) (decide (x.toNat<y.toNat))=true→_)∧(cond (!decide (c.getD x.toNat 0=c.getD y.toNat 0)) (decide (c.getD y.toNat 0<c.getD x.toNat 0)) (decide (x.toNat<y.toNat))=false→_)
 generalize c.getD x.toNat 0=a
 generalize c.getD y.toNat 0=b
 by_cases d:a=b
 ·subst d;exact⟨λ_=>vD _,λ_=>vD _⟩
 ·rw[tY d,Bool.not_false,tL];exact⟨λd=>by have:=xG d;omega,λd=>by have:=of_decide_eq_false d;omega⟩
def Yt {n:Nat}{S:Int}(X:0<S) {b a:List Int}(H:b.length=n) (s:∀i,i<n→b[i]? =some (i:Int)) (I:a.length=n) (J:∀x∈a,0≤x∧x≤S-1) {p:Nat}(t:a.sum=p*S):∀x∈(ND (Q0 a) b).take p,0<a.getD x.toNat 0:=by
 intro x K;have M:=ML (Q0 a) b;have u:=VC (lt:=Q0 a) (λx=>a.getD x.toNat 0) (λx y h=>(Y7 a x y).1 h) (λx y h=>(Y7 a x y).2 h) b;have m:b.map (λx=>a.getD x.toNat 0)=a:=vG λi=>by
  rcases uM i n with h|h
  ·rw[wQ,s i h];have:i<a.length:=by omega
   simp [vO,this]
  ·rw[uW (by simp;omega),uW (by omega)]
 have C:((ND (Q0 a) b).map λx=>a.getD x.toNat 0).sum=p*S:=by
  rw[ZJ (M.map _),m,t]
 have v:∀y:Int,0≤a.getD y.toNat 0∧a.getD y.toNat 0≤S-1:=λy=>by
  rw[vO];cases h:a[y.toNat]? with
  |none=>exact⟨vD _,by show(0:Int)≤S-1;omega⟩
  |some z=>exact J z (vM h)
 generalize ND (Q0 a) b=l at*
 obtain⟨j,o⟩:=wN.1 K;rw[yC] at o;split at o
 ·rename_i Q;apply wY;intro Y;have g:a.getD x.toNat 0=0:=by have:=(v x).1;omega
  have d:∀y∈l.drop j,a.getD y.toNat 0=0:=λy q=>by
   obtain⟨k,w⟩:=wN.1 q;rw[xB] at w;have U:=(uB.1 o).1;have V:=(uB.1 w).1;have D:=(uB.1 o).2;have F:=(uB.1 w).2;rcases yS k with h0|h0
   ·subst h0;have:y=x:=by rw[←D,←F];rfl
    rw[this];exact g
   ·have:=yQ.1 u j (j+k) U V (by omega);rw[D,F,g] at this;have:=(v y).1;omega
  have W:((l.drop j).map λx=>a.getD x.toNat 0).sum≤0:=by
   have:=K3 (l:=(l.drop j).map λx=>a.getD x.toNat 0) (c:=0) λz g=>by
    obtain⟨y,q,rfl⟩:=uX.1 g;exact Int.le_of_eq (d y q)
   omega
  have A:((l.take j).map λx=>a.getD x.toNat 0).sum≤(j:Int)*(S-1):=by
   have:=K3 (l:=(l.take j).map λx=>a.getD x.toNat 0) (c:=S-1) λz g=>by
    obtain⟨y,q,rfl⟩:=uX.1 g;exact(v y).2
   have Z:((l.take j).map λx=>a.getD x.toNat 0).length≤j:=by simp;omega
   have:(((l.take j).map λx=>a.getD x.toNat 0).length:Int)*(S-1)≤(j:Int)*(S-1):=xO (by omega) (by omega);omega
  have G:(l.map λx=>a.getD x.toNat 0).sum=((l.take j).map λx=>a.getD x.toNat 0).sum+((l.drop j).map λx=>a.getD x.toNat 0).sum:=by
   rw[←wG,←wM,yA]
  have B:((j:Int)+1)*S≤p*S:=xO (by omega) (by omega);rw[Int.add_mul,Int.one_mul] at B;rw[Int.mul_sub,Int.mul_one] at A;omega
 ·cases o
def Xv {N:Nat}(M:1000000<N) (l:List Int) (Q:l.length≤1000) (y:l.Nodup) {n:Nat}(c:∀x∈l,0≤x∧x<n) (a:List Int) (D:a.length=n) (F:∀x∈a, -4611686018427387904≤x∧x≤4611686018427387000):
  ∃r,FD N l (G0 N) N 0 a=some (r,true)∧r.length=n∧r.sum=a.sum+l.length∧∀(i:Nat) x,a[i]? =some x→r[i]? =some (x+if (i:Int)∈l then 1 else 0):=by
 obtain⟨s,⟨z,A,p⟩,e⟩:=Em l.length (λm i s=>FD N l (G0 N) m i s) (G0 N) (λk s=>s.length=n∧s.sum=a.sum+k∧∀(i:Nat) x,a[i]? =some x→s[i]? =some (x+if (i:Int)∈l.take k then 1 else 0)) (λm k s d=>by
  simp only[FD];rw[Eg d];rfl) (λm k s G d=>by
  obtain⟨z,A,p⟩:=G;simp only[FD];obtain⟨H,U⟩:=c _ (uE d);obtain⟨j,B,b⟩:=fQ (l:=s) H (by omega);have g:j<a.length:=by omega
  have t:(j:Int)∉l.take k:=λI=>by
   obtain⟨q,w⟩:=wN.1 I;rw[yC] at w;split at w
   ·rename_i C;have J:=(uB.1 w).2;exact yQ.1 y q k (by omega) d C (by rw[J,B])
   ·cases w
  have u:s[j]=a[j]:=by
   have:=p j _ (uC g);rw[tQ t,uC b] at this;have:=tN this;omega
  have K:=F _ (uE g);rw[EZ d,tL,BG d,tJ,B,BG b,tJ,tJ,tJ,tJ,u,Cv (n:=a[j]+1) (by omega) (by omega),BH (by omega)];refine⟨_,⟨by rw[MC];exact z,?_,λi x c=>?_⟩,rfl⟩
  ·show(s.set (j:Int).toNat _).sum=_
   rw[vR,NU b,A,u];omega
  ·have v:l.take (k+1)=l.take k++[(j:Int)]:=by rw[wJ d,B]
   by_cases o:j=i
   ·subst o;rw[Gs b,v,tT (by simp)];rw[uC g] at c;cases c;rfl
   ·rw[Ii o,p i x c,v];have:(i:Int)≠(j:Int):=λV=>o (by omega);simp [this]) N 0 a ⟨D,by simp,λi x c=>by simp [c]⟩ (by omega) (tU _)
 rw[uZ] at p;exact⟨s,e,z,A,p⟩
structure ShX (t S:Int) (w:List Int) (k:Nat) (s:Int×List Int×List Int×List Int):Prop where
 l1:s.2.1.length=w.length
 l2:s.2.2.1.length=w.length
 l3:s.2.2.2.length=w.length
 or_:∀i,i<k→s.2.1[i]? =some (i:Int)
 rm:∀i x,i<k→w[i]? =some x→s.2.2.1[i]? =some (t*x%S)
 qt:∀i x,i<k→w[i]? =some x→s.2.2.2[i]? =some (t*x/S)
 ex:s.1=t-((w.take k).map λx=>t*x/S).sum
def Wk {t S:Int}(b:0<S):∀w:List Int,S*(w.map λx=>t*x/S).sum+(w.map λx=>t*x%S).sum=t*w.sum
 |[]=>by simp
 |a::w=>by
  have c:=Wk (t:=t) b w;have d:=Int.mul_ediv_add_emod (t*a) S;simp only[uY,vS];rw[Int.mul_add,Int.mul_add];omega
def Y5 {N W:Nat}(hN:18446744073709551616<N) (hW:W≤64) {w:List Int}(o:PX W w) {t:Int}(C:0≤t∧t≤w.sum):∃q,J4 N t w=some (q,true)∧VV q w∧q.sum=t:=by
 have ar:=o.len;have ag:=o.mv;unfold J4;rw[tY (show ¬64<(w.length:Int) by omega),tM];obtain⟨s,⟨i1,i2⟩,e⟩:=Em w.length (λn i s=>FG N w (FI N t w) n s i) (FI N t w) (λk s=>s=(w.take k).sum∧0≤s) (λn k s g=>by
  simp only[FG];rw[Eg g];rfl) (λn k s p g=>by
  obtain⟨i1,i2⟩:=p;have h1:=Gk o.nn (k+1);have B:=Gk o.nn k;have G:=o.nn _ (uE g);rw[Ik g] at h1;simp only[FG];rw[EZ g,tL,BG g,tJ,Cv (n:=1125899906842624-s) (by omega) (by omega),tY (show ¬w[k]<0 by omega),tY (show ¬1125899906842624-s<w[k] by omega),wT,tM,BH (by omega),Cv (n:=s+w[k]) (by omega) (by omega)];exact⟨_,⟨by rw[Ik g,i1],by omega⟩,rfl⟩) N 0 0 ⟨rfl,vD _⟩ (by omega) (tU _)
 rw[show FG N w (FI N t w) N 0 0=FI N t w s from e];rw[uZ] at i1;subst i1;unfold FI;rw[tY (show ¬t<0 by omega),tY (show ¬w.sum<t by omega),wT,tM,Kd (by omega) _ (by decide)];by_cases U:w.sum=0
 ·rw[uQ U,tL];refine⟨_,rfl,⟨NZ _ _,λi x y a D=>?_⟩,by simp;omega⟩;rw[xI] at a;split at a
  ·cases a;exact⟨vD _,o.nn y (vM D)⟩
  ·cases a
 rw[tY U,tM,Kd (by omega) _ (by decide),Kd (by omega) _ (by decide)];have u:0<w.sum:=by have:=o.sum0;omega
 have h1:1≤w.length:=by
  cases w with
  |nil=>exact absurd rfl U
  |cons _ _=>simp
 obtain⟨⟨v,A,b,q⟩,⟨K,M,V,F,X,Y,Q⟩,e3⟩:=Em w.length (λn i (s:Int×List Int×List Int×List Int)=>FE N t w w.sum (FH N) n s.1 i s.2.1 s.2.2.1 s.2.2.2) (λs=>FH N s.1 s.2.1 s.2.2.1 s.2.2.2) (λk s=>ShX t w.sum w k s) (λn k s g=>by
  simp only[FE];rw[Eg g];rfl) (λn k s p g=>by
  obtain⟨v,A,b,q⟩:=s;obtain⟨K,M,V,F,X,Y,Q⟩:=p;simp only at K M V F X Y Q;have w0:=o.nn _ (uE g);have wS:=IZ o.nn _ (uE g);have hq:=Zk (t:=t) (n:=w[k]) (d:=w.sum) (by omega) wS C.1;have au:=VF (t:=t) (n:=w[k]) (d:=w.sum) (by omega) w0 C.1;have ah:v≤t∧ -(k:Int)*1125899906842624≤v:=by
   have h1:0≤((w.take k).map λx=>t*x/w.sum).sum:=Rb λx a=>VF (by omega) (o.nn x (yH a)) C.1;have B:((w.take k).map λx=>t*x/w.sum).sum≤(((w.take k).map λx=>t*x/w.sum).length:Int)*1125899906842624:=K3 λz U=>by
    obtain⟨x,a,rfl⟩:=uX.1 U;have:=Zk (t:=t) (n:=x) (d:=w.sum) (by omega) (IZ o.nn x (yH a)) C.1;omega
   have G:((w.take k).map λx=>t*x/w.sum).length=k:=by simp;omega
   rw[G] at B;rw[Int.neg_mul];omega
  have aq:(k:Int)*1125899906842624≤64*1125899906842624:=xO (by omega) (by decide);rw[Int.neg_mul] at ah;simp only[FE];rw[EZ g,tL,BG g,tJ,OK hN,iI ⟨C.1,by omega⟩ ⟨w0,by omega⟩ ⟨by omega,ag⟩ (by omega)];simp only[tJ,BG (show k<A.length by omega),BG (show k<b.length by omega),BG (show k<q.length by omega)];rw[BH (by omega),Cv (n:=v-t*w[k]/w.sum) (by omega) (by omega)];refine⟨⟨_,_,_,_⟩,⟨by show(upd A _ _).length=_;rw[MC];exact K,by show(upd b _ _).length=_;rw[MC];exact M,by show(upd q _ _).length=_;rw[MC];exact V,λi p=>?_,λi x p a=>?_,λi x p a=>?_,?_⟩,rfl⟩
  ·show(upd A (k:Int) (k:Int))[i]? =_
   by_cases m:k=i
   ·subst m;exact Gs (by omega) _
   ·rw[Ii m];exact F i (by omega)
  ·show(upd b (k:Int) _)[i]? =_
   by_cases m:k=i
   ·subst m;rw[uC g] at a;cases a;exact Gs (by omega) _
   ·rw[Ii m];exact X i x (by omega) a
  ·show(upd q (k:Int) _)[i]? =_
   by_cases m:k=i
   ·subst m;rw[uC g] at a;cases a;exact Gs (by omega) _
   ·rw[Ii m];exact Y i x (by omega) a
  ·show v-t*w[k]/w.sum=_
   rw[Qf g,Q];omega) N 0 (t,List.replicate ((w.length:Int)).toNat 0,List.replicate ((w.length:Int)).toNat 0,List.replicate ((w.length:Int)).toNat 0) ⟨NZ _ _,NZ _ _,NZ _ _,λi p=>by omega,λi x p=>by omega,λi x p=>by omega,by simp⟩ (by omega) (tU _)
 simp only at K M V F X Y Q;rw[show FE N t w w.sum (FH N) N t 0 _ _ _=FH N v A b q from e3];have H:b=w.map λx=>t*x%w.sum:=vG λi=>by
  rcases uM i w.length with h|h
  ·rw[X i _ h (uC h),wQ,uC h];rfl
  ·rw[uW (by omega),uW (by simp;omega)]
 have I:q=w.map λx=>t*x/w.sum:=vG λi=>by
  rcases uM i w.length with h|h
  ·rw[Y i _ h (uC h),wQ,uC h];rfl
  ·rw[uW (by omega),uW (by simp;omega)]
 rw[uZ] at Q;have av:=Wk (t:=t) u w;have J:∀x∈b,0≤x∧x≤w.sum-1:=λx a=>by
  rw[H] at a;obtain⟨y,_,rfl⟩:=uX.1 a;have B:=Int.emod_nonneg (t*y) (show w.sum≠0 by omega);have G:=Int.emod_lt_of_pos (t*y) u;omega
 have Z:b.sum=v*w.sum:=by
  have hc:=Int.mul_comm w.sum (w.map λx=>t*x/w.sum).sum;rw[H,Q,Int.sub_mul,←hc];omega
 have aw:0≤b.sum:=Jq λx a=>(J x a).1;have ai:b.sum≤(w.length:Int)*w.sum:=by
  have B:=K3 (l:=b) (c:=w.sum-1) λx a=>(J x a).2;rw[M,Int.mul_sub,Int.mul_one] at B;omega
 have x0:0≤v:=by
  by_cases aa:v<0
  ·have:v*w.sum<0:=Int.mul_neg_of_neg_of_pos aa u;omega
  ·omega
 have x1:v≤w.length:=Int.le_of_mul_le_mul_right (by rw[←Z];exact ai) u;obtain⟨en,rfl⟩:∃en:Nat,v=en:=⟨v.toNat,by omega⟩
 have hp:=ML (Q0 b) A;have ab:∀x∈A,0≤x∧x<(w.length:Int):=λx a=>by
  obtain⟨i,p⟩:=wN.1 a;have ax:=(uB.1 p).1;have B:=F i (by omega);rw[p] at B;cases B;omega
 have aj:A.Nodup:=yQ.2 λi j p hj ay h=>by
  have B:=F i (by omega);have G:=F j (by omega);rw[uC p] at B;rw[uC hj] at G;have B:=tN B;have G:=tN G;omega
 have ac:=Yt u K F M J Z;have hs:Rs A b=some (ND (Q0 b) A):=by
  unfold Rs;rw[tT ⟨by omega,by omega,by omega,tS.2 λx a=>by
   have:=ab x a;simp only[tO,uF];omega⟩]
 have ad:(ND (Q0 b) A).length=w.length:=by rw[hp.length_eq];exact K
 have ae:((ND (Q0 b) A).take en).Nodup:=List.Nodup.sublist (List.take_sublist _ _) (hp.nodup_iff.2 aj);have ak:∀x∈q,0≤x∧x≤t:=λx a=>by
  rw[I] at a;obtain⟨y,D,rfl⟩:=uX.1 a;exact⟨VF (by omega) (o.nn y D) C.1,Zk (by omega) (IZ o.nn y D) C.1⟩
 unfold FH qP;rw[hs,tJ,tT ⟨x0,by omega,by omega⟩,tJ,vR];obtain⟨r,er,r1,r2,r3⟩:=Xv (N:=N) (by omega) ((ND (Q0 b) A).take en) (by rw[vT];omega) ae (n:=w.length) (λx a=>ab x (hp.mem_iff.1 (yH a))) q V (λx a=>by have:=ak x a;omega);refine⟨r,er,⟨r1,λi x y a D=>?_⟩,?_⟩
 ·have al:q[i]? =some (t*y/w.sum):=by rw[I,wQ,D];rfl
  have am:b[i]? =some (t*y%w.sum):=by rw[H,wQ,D];rfl
  rw[r3 i _ al] at a;have a:=tN a;have af:=o.nn y (vM D);have az:=IZ o.nn y (vM D);have g0:=VF (t:=t) (n:=y) (d:=w.sum) (by omega) af C.1;have a0:=Int.mul_ediv_add_emod (t*y) w.sum;have a1:t*y≤w.sum*y:=xO C.2 af;split at a
  ·rename_i hm;have an:=ac _ hm;rw[vR,vO,am,vK] at an;have ao:w.sum*(t*y/w.sum)<w.sum*y:=by omega
   have:=Int.lt_of_mul_lt_mul_left ao (by omega);omega
  ·have ap:w.sum*(t*y/w.sum)≤w.sum*y:=by
    have:=Int.emod_nonneg (t*y) (show w.sum≠0 by omega);omega
   have:=Int.le_of_mul_le_mul_left ap u;omega
 ·rw[r2,vT,ad,I,xT (by omega)];omega
def cC {N W:Nat}(v:18446744073709551616<N) (w:W≤64) {p:List Int}(a:PX W p) (n:Int):∃t,Lc N p n=some (t,I0 p t)∧VV t p∧t.sum=max 0 (min n p.sum):=by
 have z:=a.len;have m:VV (List.replicate W 0) p:=⟨by simp [a.len],λi x y g A=>by
  rw[xI] at g;split at g
  ·cases g;exact⟨vD _,a.nn y (vM A)⟩
  ·cases g⟩
 have o:∀t,VV t p→HJ N p t=some (t,I0 p t):=λt B=>by
  unfold HJ;rw[a.wo (by omega) (by omega) (B.sub a).2.2,tJ]
 have C:List.replicate ((p.length:Int)).toNat (0:Int)=List.replicate W 0:=by rw[a.len];rfl
 have D:=a.sum0;unfold Lc;rw[Kd (by omega) _ (by decide),C];by_cases q:0<n
 ·rw[uQ q,uQ (show(p.length:Int)≤64 by omega)];have b:HA N p=some true:=by
   unfold HA;obtain⟨s,⟨u,F⟩,e⟩:=Em p.length (λn i s=>DE N p (E7 N) n s i) (λ_=>E7 N) (λk s=>s=(p.take k).sum∧0≤s) (λn k s c=>by
    simp only[DE];rw[Eg c];rfl) (λn k s G c=>by
    obtain⟨u,F⟩:=G;have H:=Gk a.nn (k+1);have J:=Gk a.nn k;have K:=a.nn _ (uE c);have M:=a.mv;rw[Ik c] at H;simp only[DE];rw[EZ c,tL,BG c,tJ,Cv (n:=1125899906842624-s) (by omega) (by omega),tY (show ¬p[k]<0 by omega),tY (show ¬1125899906842624-s<p[k] by omega),wT,tM,BH (by omega),Cv (n:=s+p[k]) (by omega) (by omega)];exact⟨_,⟨by rw[Ik c,u],by omega⟩,rfl⟩) N 0 0 ⟨rfl,vD _⟩ (by omega) (tU _)
   exact e
  obtain⟨j,e,l,d⟩:=Y5 v w a (t:=min n p.sum) ⟨by omega,by omega⟩;rw[Bool.and_self,tL,b,tJ,tJ,tL,a.total (by omega) (by omega),tJ,e,tJ,tL];unfold JY;have I:O2 (List.replicate W (0:Int)) j=j:=Zu (by rw[l.len,z];simp);rw[I];exact⟨j,o j l,l,by rw[d];omega⟩
 ·rw[tY q,Bool.false_and,tM,tJ,tM];exact⟨_,o _ m,m,by rw[Wg];omega⟩
structure Ih (P W:Nat) (o:List (List Int)):Prop where
 len:o.length=P
 all:∀x∈o,PX W x
def EO (o:List (List Int)):Int:=(o.map List.sum).sum
def Fi (q:List AV):Int:=(q.map λl=>l.T.sum).sum
def Ih.ix {P W:Nat}{o:List (List Int)}(c:Ih P W o) {k:Nat}(a:k<P):∃x,Go.Proofs.YtedgiljmffngoaaGreat.ix o (k:Int)=some x∧o[k]? =some x∧PX W x:=by
 obtain⟨x,e,b⟩:=sU (l:=o) (i:=k) (by rw[c.len];exact a);exact⟨x,e,by rw[BG (by rw[c.len];exact a)] at e;rw[uC (by rw[c.len];exact a)];exact e,c.all x b⟩
def Ih.upd {P W:Nat}{o:List (List Int)}(c:Ih P W o) (i:Int) {x:List Int}(b:PX W x):Ih P W (upd o i x):=
 ⟨by rw[MC];exact c.len,λy a=>by
  rcases yI a with a|rfl
  ·exact c.all y a
  ·exact b⟩
def Ih.nn {P W:Nat}{o:List (List Int)}(c:Ih P W o):∀x∈o.map List.sum,0≤x:=λx a=>by
 obtain⟨y,b,rfl⟩:=uX.1 a;exact(c.all y b).sum0
def P8 {o:List (List Int)}{k:Nat}{x y:List Int}(a:o[k]? =some x):EO (upd o (k:Int) y)=EO o-x.sum+y.sum:=by
 have b:=(uB.1 a).1;have c:=(uB.1 a).2;unfold EO upd;rw[vR,List.map_set,NU (by simpa using b),List.getElem_map,c]
def Ih.le {P W:Nat}{o:List (List Int)}(b:Ih P W o) {k:Nat}{x:List Int}(a:o[k]? =some x):x.sum≤EO o:=IZ b.nn _ (uX.2 ⟨x,vM a,rfl⟩)
def Ih.sum0 {P W:Nat}{o:List (List Int)}(a:Ih P W o):0≤EO o:=Jq a.nn
def L5 {o:List (List Int)}{k:Nat}(a:k<o.length):EO (o.take (k+1))=EO (o.take k)+(o[k]).sum:=Qf a
def K5 {q:List AV}{k:Nat}(a:k<q.length):Fi (q.take (k+1))=Fi (q.take k)+(q[k]).T.sum:=Qf (f:=λl:AV=>l.T.sum) a
def Kc {P W:Nat}{o:List (List Int)}(a:Ih P W o) (k:Nat):0≤EO (o.take k)∧EO (o.take k)≤EO o:=by
 have:=Gk a.nn k;rw[←List.map_take] at this;exact this
def QX (P W:Nat) (q:List AV):Prop:=∀l∈q,PX W l.T∧0≤l.C∧l.C<P
def QX.nn {P W:Nat}{q:List AV}(c:QX P W q):∀x∈q.map (λl=>l.T.sum),0≤x:=λx a=>by
 obtain⟨y,b,rfl⟩:=uX.1 a;exact(c y b).1.sum0
def FA {P W:Nat}{q:List AV}(a:QX P W q) (k:Nat):0≤Fi (q.take k)∧Fi (q.take k)≤Fi q:=by
 have:=Gk a.nn k;rw[←List.map_take] at this;exact this
def v1 (W:Nat) (n:Int):List Int:=upd (List.replicate W 0) 0 n
def QT (W:Nat) (n:Int):(v1 W n).length=W:=by unfold v1;rw[MC];simp
def Tg {W:Nat}(a:1≤W) (n:Int):(v1 W n).sum=n:=by
 unfold v1 upd;rw[show (0:Int).toNat=0 from rfl,NU (by simp;omega)];simp
def fE {W:Nat}(c:1≤W) {n:Int}(h0:0≤n) (b:n≤1125899906842624):PX W (v1 W n):=
 ⟨QT W n,λx a=>by
  rcases yI a with a|rfl
  ·rw[(List.mem_replicate.1 a).2];exact vD 0
  ·exact h0,by rw[Tg c];exact b⟩
def WU (W:Nat):v1 W 0=List.replicate W 0:=by
 unfold v1 upd;apply vG;intro i;by_cases a:0=i
 ·subst a;rcases yS W with a|a
  ·subst a;rfl
  ·rw[show (0:Int).toNat=0 from rfl,xA (by simp;omega),xI,tT a]
 ·rw[show (0:Int).toNat=0 from rfl,wR a]
def Sx {W:Nat}{p:List Int}(b:p.length=W):G5 p (List.replicate W 0)=p:=by
 apply vG;intro i;rw[G5,wZ,xI];rcases uM i W with a|a
 ·rw[tT a,uC (by omega)];simp
 ·rw[tQ (by omega),uW (show p.length≤i by omega)]
def Rk:∀(p q r:List Int),G5 (G5 p q) r=G5 p (G5 q r)
 |[],_,_=>by simp [G5]
 |_::_,[],_=>by simp [G5]
 |_::_,_::_,[]=>by simp [G5]
 |a::p,b::q,c::r=>by
  have:=Rk p q r;simp only[G5,List.zipWith_cons_cons] at this ⊢;rw[this,Int.add_assoc]
def WT {W:Nat}{p:List Int}(g:p.length=W) (d:1≤W) (n x:Int) (c:ix p 0=some x):upd p 0 (x+n)=G5 p (v1 W n):=by
 have b:p[0]? =some x:=(Et c).2;apply vG;intro i;unfold v1 upd;rw[G5,wZ,show(0:Int).toNat=0 from rfl];by_cases a:0=i
 ·subst a;rw[xA (by omega),xA (by simp;omega),b]
 ·rw[wR a,wR a,xI];rcases uM i W with a|a
  ·rw[tT a,uC (show i<p.length by omega)];simp
  ·rw[tQ (by omega),uW (show p.length≤i by omega)]
def hJ {W:Nat}(g:1≤W) (a b:Int):G5 (v1 W a) (v1 W b)=v1 W (a+b):=by
 apply vG;intro i;rw[G5,wZ];unfold v1 upd;rw[show (0:Int).toNat=0 from rfl];by_cases c:0=i
 ·subst c;rw[xA (by simp;omega),xA (by simp;omega),xA (by simp;omega)]
 ·rw[wR c,wR c,wR c,xI];by_cases d:i<W<;>simp [d]
def Wf (H:Int) (W:Nat):Nat→List Int→List AK
 |_,[]=>[]
 |i,n::l=>(if 0<n then [⟨H, -1,(i:Int), -4,v1 W n⟩] else [])++Wf H W (i+1) l
def Rx (H:Int) (W:Nat) (n:Int):∀(l:List Int) (i:Nat),Wf H W i (l++[n])=Wf H W i l++(if 0<n then [⟨H, -1,((i+l.length:Nat):Int), -4,v1 W n⟩] else [])
 |[],i=>by simp [Wf]
 |a::l,i=>by
  have e:i+(a::l).length=i+1+l.length:=by simp;omega
  rw[uV,Wf,Rx H W n l (i+1),Wf,e,xU]
def To (H:Int) (W:Nat):∀(l:List Int) (i:Nat),(Wf H W i l).length≤l.length
 |[],_=>by simp [Wf]
 |a::l,i=>by
  have:=To H W l (i+1);rw[Wf,uJ];split<;>simp<;>omega
structure sF (w:AN) (W k:Nat) (l:List Int) (s:Int×Int×List AK×List (List Int)×List Int):Prop where
 ll:l.length=k
 l0:∀n∈l,0≤n
 ms:s.2.2.1=Wf w.s.B W 0 l
 own:Ih w.b.A.length W s.2.2.2.1
 lo:∀(i:Nat) x n,w.s.D[i]? =some x→l[i]? =some n→s.2.2.2.1[i]? =some (G5 x (v1 W n))
 hi:∀i,k≤i→s.2.2.2.1[i]? =w.s.D[i]?
 th:s.1=EO s.2.2.2.1+Fi w.s.G∧s.1≤1125899906842624
 inn:s.2.2.2.2=G5 w.s.N (v1 W l.sum)
 en:s.2.1=w.s.N.sum+l.sum∧s.2.1≤1152921504606846976
 os:EO s.2.2.2.1=EO w.s.D+l.sum
structure YP (P W:Nat) (o:List (List Int)):Prop where
 len:o.length=P
 all:∀x∈o,x.length=W
def YP.ix {P W:Nat}{o:List (List Int)}(c:YP P W o) {k:Nat}(a:k<P):∃x,Go.Proofs.YtedgiljmffngoaaGreat.ix o (k:Int)=some x∧x.length=W:=by
 obtain⟨x,e,b⟩:=sU (l:=o) (i:=k) (by rw[c.len];exact a);exact⟨x,e,c.all x b⟩
def YP.upd {P W:Nat}{o:List (List Int)}(c:YP P W o) (i:Int) {x:List Int}(b:x.length=W):YP P W (upd o i x):=
 ⟨by rw[MC];exact c.len,λy a=>by
  rcases yI a with a|rfl
  ·exact c.all y a
  ·exact b⟩
def TV {N:Nat}(q:1000000<N) {s:AE}(t:s.D.length≤64) (g:∀x∈s.D,x.length≤1000) (u:s.L.length≤1000) (v:s.M.length≤1000) (w:s.N.length≤1000) (y:s.K.length≤1000):Jx N s=some s:=by
 unfold Jx;rw[Kd (by omega) _ (by decide)];obtain⟨o,⟨z,j⟩,e⟩:=Em s.D.length (λn i l=>FB N s (FC N s) n i l) (FC N s) (λk (l:List (List Int))=>l.length=s.D.length∧∀i,i<k→l[i]? =s.D[i]?) (λn k l a=>by
  simp only[FB];rw[Eg a];rfl) (λn k l d a=>by
  simp only[FB];have b:k<l.length:=by rw[d.1];exact a
  rw[EZ a,tL,BG a,tJ,L6 N (by have:=g _ (uE a);omega)];simp only[BG b,tJ];rw[BH (by omega)];refine⟨_,⟨by rw[MC];exact d.1,λi m=>?_⟩,rfl⟩;by_cases c:k=i
  ·subst c;rw[Gs b];simp [a]
  ·rw[Ii c];exact d.2 i (by omega)) N 0 (List.replicate ((s.D.length:Int)).toNat ([]:List Int)) ⟨P5 _ _,λi d=>by omega⟩ (by omega) (tU _)
 rw[show FB N s (FC N s) N 0 _=FC N s o from e];have p:o=s.D:=vG λi=>by
  rcases uM i s.D.length with A|A
  ·exact j i A
  ·rw[uW A,uW (by omega)]
 subst p;unfold FC;rw[L6 N (by omega),tJ,V5 N (by omega),tJ,L6 N (by omega),tJ,L6 N (by omega),tJ]
def sT (a:List Int) (i:Int):Int:=a.getD i.toNat 0
def iT {a:List Int}{i:Int}(h0:0≤i) (c:i<a.length):ix a i=some (sT a i):=by
 obtain⟨n,rfl,b⟩:=fQ h0 c;rw[BG b];simp [sT,vO,b]
def UB (W:Nat) (t:Int) (q:List AV) (p:Nat):List Int:=(q.filter λl=>decide (l.Am≤t)&&decide (l.C=(p:Int))).foldl (λa l=>G5 a l.T) (List.replicate W 0)
def LZ (t:Int) (q:List AV):List AV:=q.filter λl=>decide (t<l.Am)
def TY {W:Nat}{t:Int}{q:List AV}{p k:Nat}(d:k<q.length):UB W t (q.take (k+1)) p=if (q[k]).Am≤t∧(q[k]).C=(p:Int) then G5 (UB W t (q.take k) p) (q[k]).T else UB W t (q.take k) p:=by
 unfold UB;rw[wJ d,xN,xY];by_cases a:(q[k]).Am≤t∧(q[k]).C=(p:Int)
 ·rw[tT a];simp [a.1,a.2]
 ·rw[tQ a];have:(decide ((q[k]).Am≤t)&&decide ((q[k]).C=(p:Int)))=false:=by
   rw[Bool.and_eq_false_iff];simp only[uO];by_cases b:(q[k]).Am≤t
   ·exact .inr λc=>a ⟨b,c⟩
   ·exact .inl b
  simp [this]
def Ry {t:Int}{q:List AV}{k:Nat}(b:k<q.length):LZ t (q.take (k+1))=if (q[k]).Am≤t then LZ t (q.take k) else LZ t (q.take k)++[q[k]]:=by
 unfold LZ;rw[wJ b,xN];by_cases a:(q[k]).Am≤t
 ·rw[tT a];simp;omega
 ·rw[tQ a];have:t<(q[k]).Am:=by omega
  simp [this]
def U1 (a b:List AV):Fi (a++b)=Fi a+Fi b:=by unfold Fi;rw[wM,wG]
structure tI (P W:Nat) (t:Int) (q:List AV) (k:Nat) (s:List AV×List (List Int)):Prop where
 rest:s.1=LZ t (q.take k)
 own:Ih P W s.2
 at_:∀p,p<P→s.2[p]? =some (UB W t (q.take k) p)
 tot:EO s.2+Fi s.1=Fi (q.take k)
def U7 (W:Nat):∀P:Nat,EO (List.replicate P (List.replicate W 0))=0
 |0=>rfl
 |P+1=>by
  have:=U7 W P;unfold EO at this ⊢;rw[List.replicate_succ,uY,vS,this,Wg];rfl
def jO {N:Nat}(Y:1000000<N) {P W:Nat}(hP:P≤64) (hW:W≤16) {q:List AV}(hq:q.length≤100000) (c:QX P W q) (Z:Fi q≤1125899906842624) (t:Int):
  ∃s,Lb N q t (P:Int) (W:Int)=some (s.2,s.1)∧tI P W t q q.length s:=by
 unfold Lb;rw[OY,tJ,OY,tJ,tQ (show ¬(P:Int)<0 by omega),tQ (show ¬64<(P:Int) by omega),tQ (show ¬(W:Int)<0 by omega),tQ (show ¬16<(W:Int) by omega),Kd (by omega) _ (by decide)];obtain⟨o,⟨i1,K⟩,e⟩:=Em P (λn i l=>Gb N (P:Int) (W:Int) (Gc N q t (P:Int)) n i l) (Gc N q t (P:Int)) (λk (l:List (List Int))=>l.length=P∧∀i,i<k→l[i]? =some (List.replicate W 0)) (λn k l a=>by
  simp only[Gb];rw[P5,Eg a];rfl) (λn k l m a=>by
  simp only[Gb];have w:k<l.length:=by rw[m.1];exact a
  rw[P5,EZ a,tL,Kd (by omega) _ (by decide),BG w,tJ,tJ,BH (by omega)];refine⟨_,⟨by rw[MC];exact m.1,λi aa=>?_⟩,rfl⟩;by_cases z:k=i
  ·subst z;rw[Gs w];rfl
  ·rw[Ii z];exact m.2 i (by omega)) N 0 (List.replicate ((P:Int)).toNat ([]:List Int)) ⟨P5 _ _,λi m=>by omega⟩ (by omega) (tU _)
 rw[show Gb N (P:Int) (W:Int) (Gc N q t (P:Int)) N 0 _=Gc N q t (P:Int) o from e];have M:o=List.replicate P (List.replicate W 0):=vG λi=>by
  rcases uM i P with h|h
  ·rw[K i h,xI,tT h]
  ·rw[uW (by omega),uW (by simp;omega)]
 have I:Ih P W o:=⟨i1,λx Q=>by rw[M] at Q;rw[(List.mem_replicate.1 Q).2];exact PX.zero W⟩
 unfold Gc;obtain⟨s,i3,e2⟩:=Em q.length (λn i (s:List AV×List (List Int))=>Fl N q t (P:Int) (Hw N) n s.1 i s.2) (λs=>Hw N s.1 s.2) (λk s=>tI P W t q k s) (λn k s a=>by
  simp only[Fl];rw[Eg a];rfl) (λn k s m a=>by
  obtain⟨F,o⟩:=s;obtain⟨A,d,G,U⟩:=m;simp only at A d G U;obtain⟨H,V,X⟩:=c _ (uE a);have h2:=FA c (k+1);rw[K5 a] at h2;have ab:F.length≤k:=by rw[A];exact vH (List.length_filter_le _ _) (by rw[vT];omega)
  have ac:0≤Fi F:=by
   rw[A];exact Rb λl hl=>(c l (yH ((vL.1 hl).1))).1.sum0
  simp only[Fl,JX];rw[EZ a,tL,BG a,tJ,BH (by omega),uQ V,uQ X,Bool.and_true,Bool.and_true];by_cases u:(q[k]).Am≤t
  ·obtain⟨j,J,B⟩:=fQ (l:=o) V (by rw[d.len];exact X);obtain⟨y,hy,b,g⟩:=d.ix (k:=j) (by rw[←d.len];exact B);have ad:=d.le b;have C:=g.add H (by omega);rw[uQ u,tL,J,hy,tJ,tJ,g.padd Y (by omega) H,tJ,tJ,tJ];refine⟨(_,_),⟨by rw[Ry a,tT u];exact A,d.upd _ C,λp v=>?_,?_⟩,rfl⟩
   ·show(upd o (j:Int) _)[p]? =_
    rw[TY a];by_cases D:j=p
    ·subst D;rw[Gs B,tT ⟨u,J⟩];rw[G j v] at b;rw[tN b]
    ·rw[Ii D,tQ (by rw[J];omega)];exact G p v
   ·show EO (upd o (j:Int) _)+Fi F=_
    rw[P8 b,LW (g.len.trans H.len.symm),K5 a];omega
  ·rw[tY u,tM,L6 N (by rw[H.len];omega),tJ,H9 (by simp;omega)];refine⟨(_,_),⟨by rw[Ry a,tQ u,←A],d,λp v=>?_,?_⟩,rfl⟩
   ·rw[TY a,tQ λh=>u h.1];exact G p v
   ·show EO o+Fi (F++[_])=_
    rw[U1,K5 a];simp only[Fi,uY,List.map_nil,vS,List.sum_nil] at U ⊢;omega) N 0 ([],o) ⟨rfl,I,λp v=>by
   show o[p]? =_
   rw[K p v];rfl,by
   show EO o+Fi []=Fi (q.take 0)
   rw[M,U7];rfl⟩ (by omega) (tU _)
 exact⟨s,e2,i3⟩
structure ArX (w:AN) (W:Nat) (r:List (List Int)×List AV×List AT×List Int):Prop where
 own:Ih w.b.A.length W r.1
 at_:∀(p:Nat) x,w.s.D[p]? =some x→r.1[p]? =some (G5 x (UB W w.s.B w.s.G p))
 rest:r.2.1=LZ w.s.B w.s.G
 pk:r.2.2.2=r.1.map List.sum
 tot:EO r.1+Fi r.2.1=EO w.s.D+Fi w.s.G
def mD {N:Nat}(hN:1000000<N) {w:AN}{W:Nat}(hW:w.b.H.length=W) (ab:W≤16) (hP:w.b.A.length≤64) (hL:w.b.E.length≤96) (ac:∀l∈w.b.E,Js w.b l) (ho:Ih w.b.A.length W w.s.D) (hq:w.s.G.length≤100000) (z:QX w.b.A.length W w.s.G) (ht:EO w.s.D+Fi w.s.G≤1125899906842624) (g:w.peaks.length=w.b.A.length) (hg:w.s.M.length=w.b.E.length):
  ∃r,Ex N w=some r∧ArX w W r∧r.2.2.1.length=w.b.E.length:=by
 have ai:=ho.sum0;have ad:=(FA z 0).2;rw[wD,show Fi ([]:List AV)=0 from rfl] at ad;unfold Ex;rw[hW];obtain⟨⟨t,q⟩,hy,⟨y1,K,y3,y4⟩⟩:=jO hN hP ab hq z (by omega) w.s.B;simp only at y1 K y3 y4 hy;rw[uZ] at y1 y3 y4;rw[hy,tJ];have ag:0≤Fi t:=by
  rw[y1];exact Rb λl hl=>(z l ((vL.1 hl).1)).1.sum0
 have ah:=K.sum0;obtain⟨⟨o,y⟩,⟨m,Q,U,V,X,Y⟩,e⟩:=Em w.b.A.length (λn i (s:List (List Int)×List Int)=>CS N w (q,t) (Ce N w (q,t)) n i s.1 s.2) (λs=>Ce N w (q,t) s.1 s.2) (λk s=>Ih w.b.A.length W s.1∧s.2.length=w.b.A.length∧(∀(p:Nat) x,p<k→w.s.D[p]? =some x→s.1[p]? =some (G5 x (UB W w.s.B w.s.G p)))∧(∀p,k≤p→s.1[p]? =w.s.D[p]?)∧(∀(p:Nat) x,p<k→s.1[p]? =some x→s.2[p]? =some x.sum)∧EO s.1=EO w.s.D+EO (q.take k)) (λn k s d=>by
  simp only[CS];rw[Eg d];rfl) (λn k s hi d=>by
  obtain⟨o,y⟩:=s;obtain⟨m,Q,U,V,X,Y⟩:=hi;simp only at m Q U V X Y;obtain⟨a,ha,u,C⟩:=m.ix d;obtain⟨c,hc,v,I⟩:=K.ix d;have J:k<q.length:=by rw[K.len];exact d
  have Z:q[k]=c:=by rw[uC J] at v;exact tN v
  have t1:=Kc K (k+1);rw[L5 J,Z] at t1;have t2:=m.le u;have hd:=C.add I (by omega);have aa:k<(upd o (k:Int) (G5 a c)).length:=by rw[MC,m.len];exact d
  simp only[CS];rw[EZ d,tL,BH (by omega),ha,tJ,tJ,hc,tJ,tJ,C.padd hN (by omega) I,tJ,tJ,tJ];have ae:ix (upd o (k:Int) (G5 a c)) (k:Int)=some (G5 a c):=by
   rw[BG aa];have:=Gs (l:=o) (k:=k) (by rw[m.len];exact d) (G5 a c);rw[uC aa] at this;exact this
  rw[ae,tJ,tJ,hd.total hN (by omega),tJ,BG (show k<y.length by omega),tJ,tJ];refine⟨(_,_),⟨m.upd _ hd,by show(upd y _ _).length=_;rw[MC];exact Q,λp x hp j=>?_,λp hp=>?_,λp x hp j=>?_,?_⟩,rfl⟩
  ·show(upd o (k:Int) _)[p]? =_
   by_cases g:k=p
   ·subst g;rw[Gs (by rw[m.len];exact d)];rw[V k (tX _),j] at u;cases u;rw[y3 k d] at v;rw[tN v]
   ·rw[Ii g];exact U p x (by omega) j
  ·show(upd o (k:Int) _)[p]? =_
   rw[Ii (by omega)];exact V p (by omega)
  ·change (upd o (k:Int) (G5 a c))[p]? =some x at j;show(upd y (k:Int) _)[p]? =_
   by_cases g:k=p
   ·subst g;rw[Gs (by rw[m.len];exact d)] at j;rw[Gs (by omega),tN j]
   ·rw[Ii g] at j ⊢;exact X p x (by omega) j
  ·show EO (upd o (k:Int) _)=_
   rw[P8 u,LW (C.len.trans I.len.symm),L5 J,Z,Y];omega) N 0 (w.s.D,w.peaks) ⟨ho,g,λp x hp=>by omega,λp _=>rfl,λp x hp=>by omega,by simp [EO]⟩ (by omega) (tU _)
 rw[show CS N w (q,t) (Ce N w (q,t)) N 0 w.s.D w.peaks=Ce N w (q,t) o y from e];simp only at m Q U V X Y;have af:q.take w.b.A.length=q:=by rw[←K.len,uZ]
 rw[af] at Y;unfold Ce;obtain⟨gs,j1,e2⟩:=Em w.b.E.length (λn i s=>CC N w (q,t) o y n i s) (λs=>some (o,t,s,y)) (λi s=>s.length=w.b.E.length) (λn k s d=>by
  simp only[CC];rw[Eg d];rfl) (λn i s hi d=>by
  simp only[CC,Er];have ok:=ac _ (uE d);rw[EZ d,tL,BG d,tJ,BH (by omega)];cases decide ((w.b.E[i]).F=3)
  ·exact⟨s,hi,rfl⟩
  ·rw[tL,BG (show i<s.length by omega),tJ,tJ,iT ok.fr.1 (by rw[Q];exact ok.fr.2),tJ,tJ,(oY N _ _ _).1,tJ,tJ,tJ];exact⟨_,by rw[MC];exact hi,rfl⟩) N 0 w.s.M hg (by omega) (tU _)
 refine⟨_,e2,⟨m,λp x j=>U p x ?_ j,y1,?_,?_⟩,j1⟩
 ·rw[←ho.len];exact(uB.1 j).1
 ·show y=o.map List.sum
  apply vG;intro p;rcases uM p w.b.A.length with h|h
  ·obtain⟨x,_,j,_⟩:=m.ix h;rw[X p x h j,wQ,j];rfl
  ·rw[uW (by omega),uW (by rw[List.length_map,m.len];omega)]
 ·show EO o+Fi t=_
  omega
def P7 {N:Nat}(a:18446744073709551616<N) (v n d:Int):Df (Hj N v n d):=by
 unfold Hj;rw[OK a,tJ];exact Df.cond (λ_=>Df.mk _) λ_=>Df.mk _
def Ut {N:Nat}(a:18446744073709551616<N) (v n d:Int):Df (KT N v n d):=by
 unfold KT;rw[OK a,tJ];exact Df.cond (λ_=>Df.mk _) λ_=>Df.mk _
def pY {N:Nat}(a:18446744073709551616<N) (c:List BS) (x:Int):Df (MT N c x):=by
 unfold MT;obtain⟨v,b,k⟩:=Ja (N:=N) (by omega) c;rw[b,tJ];cases v
 ·exact Df.mk _
 ·have g:=k rfl;obtain⟨y,d⟩:=Rj a g.1 g.2.1 x;exact⟨y.1,by rw[d];rfl⟩
def Wz {N:Nat}(i:18446744073709551616<N) (l:BM) (g:AT) (fr to:Int):Df (MS N l g fr to):=by
 have head:Df (Lf N l fr to):=by
  unfold Lf;refine Df.cond (λ_=>Df.mk _) λ_=>?_;refine(P7 i _ _ _).bind λv _=>(Rn N _ _).bind λu _=>Df.mk _
 have j:Df (Lg N l g.V g.Ai l.Av fr to):=by
  unfold Lg Km Kn Ko Kp Iu Iv;have n:Df ((GK N fr l.Bc).bind λm=>(Hj N (max 0 m) l.Y l.S).bind λk=>some k):=(Rn N _ _).bind λu _=>(P7 i _ _ _).bind λv _=>Df.mk _;refine Df.cond (λ_=>?_) λ_=>Df.cond (λ_=>(P7 i _ _ _).bind λv _=>Df.mk _) λ_=>Df.cond (λ_=>Df.cond (λ_=>(P7 i _ _ _).bind λv _=>Df.mk _) λ_=>Df.mk _) λ_=>Df.cond (λ_=>Df.cond (λ_=>Df.mk _) λ_=>n) λ_=>Df.cond (λ_=>n) λ_=>Df.mk _;exact head.bind λa _=>(pY i _ _).bind λb _=>(P7 i _ _ _).bind λc _=>(WB N _ _).bind λd _=>Df.mk _
 unfold MS;exact j.bind λv _=>Df.mk _
def Wc {N:Nat}(c:18446744073709551616<N) (l:BM) (fr to:Int):Df (K7 N l fr to):=by
 unfold K7;exact Df.cond (λ_=>Df.mk _) λ_=>(Ut c _ _ _).bind λa _=>(Ut c _ _ _).bind λb _=>Df.mk _
def qA (W:Nat) (f:List Int→Option (List Int×List Int)):Prop:=∀x,x.length=W→∃r,f x=some r∧r.1.length=W∧r.2.length=W
def sP (W:Nat) (l:List AD):Prop:=∀e∈l,qA W e.take
def sP.snoc {W:Nat}{l:List AD}(c:sP W l) {e:AD}(b:qA W e.take):sP W (l++[e]):=λx a=>by
 rcases vC.1 a with a|a
 ·exact c x a
 ·rw[vX.1 a];exact b
def YJ {N:Nat}(i:1000000<N) (a b:List AD) (j:a.length≤100000) (k:b.length≤100000):B6 N [a,b]=some (a++b):=by
 obtain⟨n,rfl⟩:∃n,N=n+3:=⟨N-3,by omega⟩
 have d:BD ((a.length:Int)+(b.length:Int))=((a.length+b.length:Nat):Int):=by rw[Cv (by omega) (by omega)];rfl
 have g:BD (0+(a.length:Int))=((a.length:Nat):Int):=by rw[Cv (by omega) (by omega)];omega
 have c:CG (n+3) ((a.length+b.length:Nat):Int)=some []:=by
  unfold CG B5;rw[tY (show ¬((a.length+b.length:Nat):Int)<0 by omega),tM,Cv (n:=(0:Int)-0) (by decide) (by decide),Cv (n:=((a.length+b.length:Nat):Int)-(0-0)) (by omega) (by omega)];cases l:decide (0<((a.length+b.length:Nat):Int)-(0-0))
  ·rfl
  ·rw[tL,H9 (by omega)];rfl
 unfold B6;simp only[BW];rw[show decide ((0:Int)<(([a,b]:List (List AD)).length:Int))=true by simp,tL,show Go.Proofs.YtedgiljmffngoaaGreat.ix [a,b] 0=some a from rfl,tJ,g,tY (show ¬((a.length:Nat):Int)<0 by omega),tM,show BD (0+1)=1 from rfl,show decide ((1:Int)<(([a,b]:List (List AD)).length:Int))=true by simp,tL,show Go.Proofs.YtedgiljmffngoaaGreat.ix [a,b] 1=some b from rfl,tJ,d,tY (show ¬((a.length+b.length:Nat):Int)<0 by omega),tM,show BD (1+1)=2 from rfl,show decide ((2:Int)<(([a,b]:List (List AD)).length:Int))=false by simp,tM];unfold B1;rw[c,tJ];simp only[BV];rw[show decide ((0:Int)<(([a,b]:List (List AD)).length:Int))=true by simp,tL,show Go.Proofs.YtedgiljmffngoaaGreat.ix [a,b] 0=some a from rfl,tJ,H9 (by simp;omega),show BD (0+1)=1 from rfl,show decide ((1:Int)<(([a,b]:List (List AD)).length:Int))=true by simp,tL,show Go.Proofs.YtedgiljmffngoaaGreat.ix [a,b] 1=some b from rfl,tJ,H9 (by simp;omega),show BD (1+1)=2 from rfl,show decide ((2:Int)<(([a,b]:List (List AD)).length:Int))=false by simp,tM];rfl
def ZD {N:Nat}(a:18446744073709551616<N) (b:EW) (v m:Int):Df (Id N b v m):=by
 unfold Id Gy;rw[OK a,tJ];exact Df.cond (λ_=>Df.mk _) λ_=>Df.cond (λ_=>Df.cond (λ_=>Df.mk _) λ_=>Df.mk _) λ_=>Df.cond (λ_=>Df.mk _) λ_=>Df.mk _
structure sO (P W:Nat) (o:List (List Int)) (out:List Int) (ms:List AK) (sn:List AV) (M:Nat):Prop where
 own:YP P W o
 out:out.length=W
 mv:ms.length≤M
 sn:sn.length≤M
def sO.le {P W:Nat}{o:List (List Int)}{out:List Int}{a:List AK}{b:List AV}{M c:Nat}(g:sO P W o out a b M) (d:M≤c):sO P W o out a b c:=⟨g.own,g.out,vH g.mv d,vH g.sn d⟩
def Pd (b:AF) (p:Nat) (a:Int):Int:=if 0≤a∧a<b.E.length then (Ws b a.toNat).Q else if a= -3 then 0 else (b.A.getD p default).Q
structure nA (b:AF) (W p:Nat) (e:AD):Prop where
 tk:∀x,PX W x→∃t,e.take x=some (t,I0 x t)∧VV t x
 way:e.way≠ -4
 to:e.to_= -1∨(0≤e.to_∧e.to_<b.A.length)
 dl:e.delay=Pd b p e.way
structure qY (b:AF) (H:Int) (W p:Nat) (m:AK):Prop where
 hour:m.B=H
 fr:m.J=(p:Int)
 way:m.Ba≠ -4
 to:m.C= -1∨(0≤m.C∧m.C<b.A.length)
 px:PX W m.T
 pos:0<m.T.sum
def Lq (b:AF) (H:Int) (m:AK):Option AV:=if m.C<0 then none else some ⟨BD (BD (H+1)+Pd b m.J.toNat m.Ba),m.C,m.T⟩
def Sm (N:Nat) (out:List Int) (a:List AK):List Int:=a.foldl (λo m=>if m.C<0 then (Gz N o m.T).getD [] else o) out
def RQ (o:List (List Int)) (a:List AK):List (List Int):=a.foldl (λo m=>upd o m.J (I0 (o.getD m.J.toNat []) m.T)) o
def Qt:List AK→List (List Int)→Prop
 |[],_=>True
 |m::a,o=>(∃x,o[m.J.toNat]? =some x∧VV m.T x)∧Qt a (upd o m.J (I0 (o.getD m.J.toNat []) m.T))
def K6 (a:List AK):Int:=(a.map λm=>m.T.sum).sum
def Qt.app:∀{l1 a:List AK}{o:List (List Int)},Qt l1 o→Qt a (RQ o l1)→Qt (l1++a) o
 |[],_,_,_,d=>d
 |m::l1,a,o,b,c=>⟨b.1,Qt.app (l1:=l1) b.2 c⟩
structure UP (b:AF) (H:Int) (N W p:Nat) (o:List (List Int)) (out:List Int) (ms:List AK) (sn:List AV) (o':List (List Int)) (out':List Int) (ms':List AK) (sn':List AV) (l:List AK):Prop where
 mv:∀m∈l,qY b H W p m
 ms_:ms'=ms++l
 own:o'=RQ o l
 out_:out'=Sm N out l
 sn_:sn'=sn++l.filterMap (Lq b H)
 val:Qt l o
 ox:Ih b.A.length W o'
 ol:out'.length=W
 tot:EO o'+K6 l=EO o
def UP.nil {b:AF}{H:Int}{N W p:Nat}{o:List (List Int)}{out:List Int}{a:List AK}{c:List AV}(d:Ih b.A.length W o) (g:out.length=W):UP b H N W p o out a c o out a c []:=
 ⟨λm i=>(by cases i),by simp,rfl,rfl,by simp,trivial,d,g,by simp [K6]⟩
def U9 (a b:List AK):K6 (a++b)=K6 a+K6 b:=by unfold K6;rw[wM,wG]
def UP.trans {b:AF}{H:Int}{N W p:Nat}{o q i:List (List Int)}{out c a:List Int}{s j d:List AK}{t n g:List AV}{l u:List AK}(w:UP b H N W p o out s t q c j n l) (k:UP b H N W p q c j n i a d g u):UP b H N W p o out s t i a d g (l++u):=
 ⟨λm v=>(vC.1 v).elim (w.mv m) (k.mv m),by rw[k.ms_,w.ms_,xU],by rw[k.own,w.own];unfold RQ;rw[xY],by rw[k.out_,w.out_];unfold Sm;rw[xY],by rw[k.sn_,w.sn_,List.filterMap_append,xU],w.val.app (by rw[←w.own];exact k.val),k.ox,k.ol,by rw[U9];have:=w.tot;have:=k.tot;omega⟩
def cQ {N:Nat}(w:1000000<N) (t:Int) {to:Int}(h0:0≤to) {p:List Int}(y:p.length≤1000) (l:∀x∈p,0≤x) (z:0<p.sum):Kk N t to p=some [⟨t,to,p⟩]:=by
 obtain⟨i,c,a⟩:∃(i:Nat) (A:i<p.length),0<p[i]:=by
  apply wY;intro d;have:p.sum≤p.length*0:=K3 λx m=>by
   obtain⟨i,c,rfl⟩:=xF.1 m;have:=d;apply wY;intro A;exact d ⟨i,c,by omega⟩
  omega
 have o:∃j:Int,0≤j∧Ey N p (λx=>Hv N x)=some j:=by
  unfold Ey;have:∀(n k:Nat),p.length<n+k→k≤i→∃j:Int,0≤j∧Cm N p (λx=>Hv N x) (EC N) n (k:Int)=some j:=by
   intro n
   induction n with
   |zero=>intro k q s;omega
   |succ n u=>
    intro k q s;have g:k<p.length:=by omega
    simp only[Cm,Hv];rw[EZ g,tL,BG g,BH (by omega),tJ,tJ];by_cases A:0<p[k]
    ·rw[uQ A];exact⟨(k:Int),by omega,rfl⟩
    ·rw[tY A,tM];have:k≠i:=λe=>by subst e;exact A a
     exact u (k+1) (by omega) (by omega)
  exact this N 0 (by omega) (tU _)
 obtain⟨j,b,v⟩:=o;unfold Kk FY;rw[v,tY (show ¬to<0 by omega),tM,tJ,tJ,uQ b,uP,tJ,tM,L6 N (by omega),tJ,H9 (by simp)];rfl
def Us {α}{l:List α}{k:Nat}{x:α}(a:l[k]? =some x):upd l (k:Int) x=l:=by
 apply vG;intro i;by_cases e:k=i
 ·subst e;rw[Gs (uB.1 a).1,a]
 ·rw[Ii e]
def Tw {N:Nat}(I:1000000<N) {w:AN}{b:AF}{H:Int}{W:Nat}(X:w.s.B=H) (Y:W≤1000) (C:Ih b.A.length W w.s.D) {p:Nat}(Z:p<b.A.length) {e:AD}(o:nA b W p e) (d:w.s.K.length=W) (F:w.moves.length≤1000000) (hs:w.sent.length≤1000000):
  ∃r l x t,Gx N w (p:Int) e=some r∧w.s.D[p]? =some x∧e.take x=some (t,I0 x t)∧VV t x∧r.1=upd w.s.D (p:Int) (I0 x t)∧UP b H N W p w.s.D w.s.K w.moves w.sent r.1 r.2.1 r.2.2.1 r.2.2.2 l∧l=if t.sum≤0 then [] else [⟨H,(p:Int),e.to_,e.way,t⟩]:=by
 obtain⟨x,hx,c,n⟩:=C.ix Z;obtain⟨t,G,u⟩:=o.tk x n;obtain⟨U,s2,i⟩:=u.sub n;have J:w.s.D.getD p []=x:=by simp [vO,c]
 have v:EO (upd w.s.D (p:Int) (I0 x t))=EO w.s.D-t.sum:=by rw[P8 c,s2];omega
 unfold Gx;rw[hx,tJ,tJ,G,tJ,tJ,tJ,i.total I Y,tJ];by_cases h0:t.sum≤0
 ·rw[uQ h0,tL];have hz:I0 x t=x:=Xn n.len i.len (UZ i.nn h0);refine⟨_,[],x,t,rfl,c,G,u,rfl,?_,by rw[tT h0]⟩;show UP b H N W p w.s.D w.s.K w.moves w.sent (upd w.s.D (p:Int) (I0 x t)) w.s.K w.moves w.sent []
  rw[hz,Us c];exact UP.nil C d
 ·have y:qY b H W p ⟨H,(p:Int),e.to_,e.way,t⟩:=⟨rfl,rfl,o.way,o.to,i,by show 0<t.sum;omega⟩
  have j:Qt [(⟨H,(p:Int),e.to_,e.way,t⟩:AK)] w.s.D:=⟨⟨x,by show w.s.D[((p:Int)).toNat]? =_;rw[vR];exact c,u⟩,trivial⟩
  have k:upd w.s.D (p:Int) (I0 x t)=RQ w.s.D [(⟨H,(p:Int),e.to_,e.way,t⟩:AK)]:=by
   show _=upd w.s.D (p:Int) (I0 (w.s.D.getD ((p:Int)).toNat []) t)
   rw[vR,J]
  rw[tY h0,tM,H9 (by simp;omega),X];by_cases g:e.to_= -1
  ·obtain⟨a,V,M⟩:=ZK I (p:=w.s.K) (q:=t) (by omega) (by rw[i.len];omega);rw[uQ g,tL,V,tJ];refine⟨_,[⟨H,(p:Int),e.to_,e.way,t⟩],x,t,rfl,c,G,u,rfl,⟨λm F=>by rw[vX.1 F];exact y,rfl,k,?_,?_,j,C.upd _ U,?_,?_⟩,by rw[tQ h0]⟩
   ·show a=if e.to_<0 then (Gz N w.s.K t).getD [] else _
    rw[tT (by omega),V];rfl
   ·show w.sent=w.sent++_
    rw[show ([(⟨H,(p:Int),e.to_,e.way,t⟩:AK)].filterMap (Lq b H))=[] by simp [Lq,g],uU]
   ·show a.length=W
    rw[M,d,i.len,Nat.max_self]
   ·show EO (upd _ _ _)+K6 _=_
    rw[v];simp [K6]
  ·have z:=o.to.resolve_left g;rw[tY g,tM,cQ I _ z.1 (by rw[i.len];omega) i.nn (by omega),tJ,H9 (by simp;omega)];refine⟨_,[⟨H,(p:Int),e.to_,e.way,t⟩],x,t,rfl,c,G,u,rfl,⟨λm F=>by rw[vX.1 F];exact y,rfl,k,?_,?_,j,C.upd _ U,d,?_⟩,by rw[tQ h0]⟩
   ·show w.s.K=if e.to_<0 then _ else w.s.K
    rw[tQ (by omega)]
   ·show w.sent++_=w.sent++_
    congr 1;have Q:¬e.to_<0:=by omega
    simp only[yN,List.filterMap_nil,Lq,tQ Q,vR];rw[o.dl]
   ·show EO (upd _ _ _)+K6 _=_
    rw[v];simp [K6]
def Pz {N W:Nat}(a:18446744073709551616<N) (b:W≤64) (n:Int):∀x,PX W x→∃t,AL N n x=some (t,I0 x t)∧VV t x∧t.sum=max 0 (min n x.sum):=λx c=>by
 obtain⟨t,e,d,g⟩:=cC a b c n;unfold AL;rw[e,tJ];exact⟨t,rfl,d,g⟩
def dC {N W:Nat}(a:1000000<N) (d:W≤64) (t:Hb):∀x,PX W x→∃y,DP N t x=some (y,I0 x y)∧VV y x:=λx b=>by
 obtain⟨y,e,c,_⟩:=dD a (by omega) b t.Bg t.Bd;unfold DP;rw[e,tJ];exact⟨y,rfl,c⟩
def XL (b:AF) (W p:Nat) (l:List AD):Prop:=∀e∈l,nA b W p e
def XL.snoc {b:AF}{W p:Nat}{l:List AD}(d:XL b W p l) {e:AD}(c:nA b W p e):XL b W p (l++[e]):=λx a=>by
 rcases vC.1 a with a|a
 ·exact d x a
 ·rw[vX.1 a];exact c
end Go.Proofs.YtedgiljmffngoaaGreat
