import Derived.Test.YtedgiljmffngoaaGreatPPureRight2
import Derived.Test.YtedgiljmffngoaaGreatPPureRight
namespace Go.Proofs.YtedgiljmffngoaaGreat
set_option linter.all false
open Go.RowKit
def dC (N:Nat) (n z:Int):E2 N n z=some (Zp n 0 (A9 (z-1))):=rfl
structure VI (b:AE) (t:OK):Prop where
 place:0≤t.Ar∧t.Ar<b.A.length
 flood:JD t.Bo
 lead:0≤t.Bl∧t.Bl≤24
 watch:JD t.Bp
 quorum:0≤t.Bk∧t.Bk≤128
def aV {N:Nat}(w:1000<N) (b:AE) (a:II b):∃v,H3 N b=some v∧(v=true→∀t∈b.Ab,VI b t):=by
 have x:=a.pl;have y:=a.to;have z:=a.sh;have j:Df (Do N b):=by
  unfold Do;rcases I3 b.Ai.length (Dm N b (Fd N)) (Fd N) (λ_=>True) (λn k D=>by
   simp only[Dm];rw[E5 D];rfl) (λn k D=>by
   simp only[Dm];rw[Ef D,zV,BM D];simp only[zU,NA,BK (show k<4611686018427387904 by omega)];cases Zp (b.Ai[k]).Al 0 1073741824
   ·exact .inl rfl
   ·exact .inr ⟨trivial,rfl⟩) N 0 (by omega) (Aad _) with D|⟨_,D⟩
  ·exact⟨_,D⟩
  ·exact⟨true,D⟩
 unfold H3;rcases I3 b.Ab.length (Dn N b (Do N b)) (Do N b) (λi=>∀t,b.Ab[i]? =some t→VI b t) (λn k D=>by
  simp only[Dn];rw[E5 D];rfl) (λn k D=>by
  simp only[Dn];rw[Ef D,zV,BM D];simp only[zU,NA,MT,Qs N _ (show b.A.length<4611686018427387904 by omega),Fo,LP,BK (show k<4611686018427387904 by omega)];generalize d:(_|| !Zp (b.Ab[k]).Bk 0 128)=B
  cases B
  ·simp only[Aa2,Ach] at d;obtain⟨⟨⟨⟨⟨l,m⟩,o⟩,C⟩,p⟩,q⟩:=d;refine .inr ⟨λt c=>?_,rfl⟩;have:t=b.Ab[k]:=by simpa [D] using c.symm
   rw[this];have s:=Kf l;exact⟨⟨s.1,by omega⟩,LH m,Kf o,LH p,Kf q⟩
  ·exact .inl rfl) N 0 (by omega) (Aad _) with D|⟨hp,D⟩
 ·exact⟨false,D,λD=>by cases D⟩
 ·obtain⟨v,u⟩:=j;refine⟨v,D.trans u,λ_ t c=>?_⟩;obtain⟨i,g,rfl⟩:=Adx.1 c;exact hp i (Aad _) g _ (by simp [g])
def ZZ {N:Nat}(j:1000<N) (b:AE) (c:II b):Df (Hg N b):=by
 have m:=c.ga;unfold Hg;rcases I3 b.Ae.length (De N b (FI N)) (FI N) (λ_=>True) (λn k o=>by
  simp only[De];rw[E5 o];rfl) (λn k o=>by
  simp only[De];rw[Ef o,zV,BM o];simp only[zU,NA,dC,Fo,LP,BK (show k<4611686018427387904 by omega)];generalize a:(_|| !Zp (b.Ae[k]).Bq 0 1440)=B
  cases B
  ·simp only[Aa2,Ach] at a;have d:=Kf a.1.1;obtain⟨z,g⟩:=Df.ix (l:=[(b.A.length:Int),b.P,(b.F.length:Int)]) (i:=(b.Ae[k]).G) d.1 (by simp;omega);rw[g];simp only[zX,zU];cases Zp (b.Ae[k]).X 0 (A9 (z-1))
   ·exact .inl rfl
   ·exact .inr ⟨trivial,rfl⟩
  ·exact .inl rfl) N 0 (by omega) (Aad _) with o|⟨_,o⟩
 ·exact⟨_,o⟩
 ·exact⟨true,o⟩
def bX {N:Nat}(d:1000<N) (b:AE) (a:II b):Df (H4 N b):=by
 have g:=a.ro;unfold H4;rcases I3 b.Af.length (Dp N b (Fe N)) (Fe N) (λ_=>True) (λn k i=>by
  simp only[Dp];rw[E5 i];rfl) (λn k i=>by
  simp only[Dp];rw[Ef i,zV,BM i];simp only[zU,NA,MT,dC,Fo,LP,QI,BK (show k<4611686018427387904 by omega)];generalize (_|| !Uf (b.Af[k]).Bj)=B
  cases B
  ·simp only[zX];generalize ((decide ((b.Af[k]).Bi= -1)&&decide ((b.Af[k]).Bj≠0))||_)=c
   cases c
   ·exact .inr ⟨trivial,rfl⟩
   ·exact .inl rfl
  ·exact .inl rfl) N 0 (by omega) (Aad _) with i|⟨_,i⟩
 ·exact⟨_,i⟩
 ·exact⟨true,i⟩
structure Jv (b:AE):Prop where
 head:II b
 places:∀p∈b.A,H9 b p
 links:∀l∈b.F,J1 b l
 towns:∀t∈b.Ab,VI b t
def chainB {b:Bool}{x:Option Bool}{f:Bool→Option Bool}(Q:Prop) {G:Option Bool→Prop}(i:b=true→∃v,x=some v∧(v=true→Q)) (k:∀c,(c=true→b=true∧Q)→G (f c)):G ((cond b (x.bind λy=>some y) (some false)).bind f):=by
 cases b
 ·exact k false λi=>by cases i
 ·obtain⟨v,a,d⟩:=i rfl;rw[a];exact k v λg=>⟨rfl,d g⟩
def Df.q {x:Option Bool}(b:Df x):∃v,x=some v∧(v=true→True):=by obtain⟨v,a⟩:=b;exact⟨v,a,λ_=>trivial⟩
def V1 {N:Nat}(s:18446744073709551616<N) (b:AE):∃v,Fm N b=some v∧(v=true→Jv b):=by
 have a:1000<N:=by omega
 unfold Fm;obtain⟨H,z,k⟩:=iS a b;rw[z];simp only[zU];refine chainB True (G:=λx=>∃v,x=some v∧(v=true→Jv b)) (λU=>(cL a (k U)).q) λI u=>?_;refine chainB (∀p∈b.A,H9 b p) (G:=λx=>∃v,x=some v∧(v=true→Jv b)) (λU=>ZN a b (k (u U).1)) λB w=>?_;have m:B=true→II b∧∀p∈b.A,H9 b p:=λU=>⟨k (u (w U).1).1,(w U).2⟩
 refine chainB (∀l∈b.F,J1 b l) (G:=λx=>∃v,x=some v∧(v=true→Jv b)) (λU=>cR s b (m U).1) λC n=>?_;have c:C=true→II b∧(∀p∈b.A,H9 b p)∧∀l∈b.F,J1 b l:=λU=>⟨(m (n U).1).1,(m (n U).1).2,(n U).2⟩
 refine chainB True (G:=λx=>∃v,x=some v∧(v=true→Jv b)) (λU=>(XB a b (c U).1 (c U).2.1 (c U).2.2).q) λJ g=>?_;refine chainB True (G:=λx=>∃v,x=some v∧(v=true→Jv b)) (λU=>(ZC s b (c (g U).1).1 (c (g U).1).2.1 (c (g U).1).2.2).q) λK i=>?_;refine chainB (∀t∈b.Ab,VI b t) (G:=λx=>∃v,x=some v∧(v=true→Jv b)) (λU=>aV a b (c (g (i U).1).1).1) λM j=>?_;refine chainB True (G:=λx=>∃v,x=some v∧(v=true→Jv b)) (λU=>(ZZ a b (c (g (i (j U).1).1).1).1).q) λQ o=>?_;refine chainB True (G:=λx=>∃v,x=some v∧(v=true→Jv b)) (λU=>(bX a b (c (g (i (j (o U).1).1).1).1).1).q) λD y=>?_;refine⟨D,rfl,λU=>?_⟩;have d:=c (g (i (j (o (y U).1).1).1).1).1;exact⟨d.1,d.2.1,d.2.2,(j (o (y U).1).1).2⟩
def EI {σ q:Type}(L:Nat) (f:Nat→Int→σ→Option q) (kj:σ→Option q) (I:Nat→σ→Prop) (a:∀n (k:Nat) s,L≤k→f (n+1) (k:Int) s=kj s) (b:∀n (k:Nat) s,I k s→k<L→∃s',I (k+1) s'∧f (n+1) (k:Int) s=f n ((k+1:Nat):Int) s'):
  ∀n (k:Nat) s,I k s→L<n+k→k≤L→∃s',I L s'∧f n (k:Int) s=kj s'
 |0,k,s,_,t,g=>by omega
 |n+1,k,s,d,t,g=>by
  rcases Aar k L with c|c
  ·obtain⟨i,j,l⟩:=b n k s d c;obtain⟨m,o,p⟩:=EI L f kj I a b n (k+1) i j (by omega) (by omega);exact⟨m,o,l.trans p⟩
  ·have:k=L:=by omega
   subst this;exact⟨s,d,a n k s c⟩
def M9 {σ l:Type}(L:Nat) (f:Nat→Int→σ→Option l) (kj:σ→Option l) (c:Option l) (I:Nat→σ→Prop) (a:∀n (k:Nat) s,L≤k→f (n+1) (k:Int) s=kj s) (b:∀n (k:Nat) s,I k s→k<L→f (n+1) (k:Int) s=c∨∃s',I (k+1) s'∧f (n+1) (k:Int) s=f n ((k+1:Nat):Int) s'):
  ∀n (k:Nat) s,I k s→L<n+k→k≤L→f n (k:Int) s=c∨∃s',I L s'∧f n (k:Int) s=kj s'
 |0,k,s,_,m,j=>by omega
 |n+1,k,s,i,m,j=>by
  rcases Aar k L with d|d
  ·rcases b n k s i d with h0|⟨s1,i1,h1⟩
   ·exact .inl h0
   ·rcases M9 L f kj c I a b n (k+1) s1 i1 (by omega) (by omega) with g|⟨s2,i2,g⟩
    ·exact .inl (h1.trans g)
    ·exact .inr ⟨s2,i2,h1.trans g⟩
  ·have:k=L:=by omega
   subst this;exact .inr ⟨s,i,a n k s d⟩
def Kj {l:List Int}{k:Nat}(a:k<l.length):(l.take (k+1)).sum=(l.take k).sum+l[k]:=by
 rw[Ab6 a,Abq];simp
def Jz:∀{l:List Int},(∀x∈l,0≤x)→0≤l.sum
 |[],_=>by simp
 |a::l,g=>by
  have c:=g a (Aax ..);have d:=Jz (l:=l) λx b=>g x (Aa1 _ b);simp only[Aba];omega
def Iy {l:List Int}(g:∀x∈l,0≤x) (k:Nat):0≤(l.take k).sum∧(l.take k).sum≤l.sum:=by
 have b:=Jz (l:=l.take k) λx a=>g x (Aca a);have c:=Jz (l:=l.drop k) λx a=>g x (List.mem_of_mem_drop a);have d:(l.take k).sum+(l.drop k).sum=l.sum:=by rw[←Abq,List.take_append_drop]
 omega
def QR (N:Nat) {a b:Int}(l: -4611686018427387903≤a) (m:a≤4611686018427387903) (n: -4611686018427387903≤b) (o:b≤4611686018427387903):Er N a b=some (a+b):=by
 unfold Er;have d:A9 (a+b)=a+b:=C7 (by omega) (by omega);by_cases p:0<b
 ·have i:A9 (9223372036854775807-b)=9223372036854775807-b:=C7 (by omega) (by omega);rw[i,d];have g:decide (9223372036854775807-b<a)=false:=by simp;omega
  have c:decide (b<0)=false:=by simp;omega
  rw[g,c];simp
 ·have g:decide (0<b)=false:=by simp;omega
  rw[g];by_cases j:b<0
  ·have k:A9 (-9223372036854775808-b)= -9223372036854775808-b:=C7 (by omega) (by omega);have c:decide (a< -9223372036854775808-b)=false:=by simp;omega
   rw[k,d,c];simp
  ·have c:decide (b<0)=false:=by simp;omega
   rw[c,d];simp
def bA (N:Nat) {a b:Int}(l: -4611686018427387903≤a) (m:a≤4611686018427387903) (n: -4611686018427387903≤b) (o:b≤4611686018427387903):GM N a b=some (a-b):=by
 unfold GM;have d:A9 (a-b)=a-b:=C7 (by omega) (by omega);by_cases p:b<0
 ·have i:A9 (9223372036854775807+b)=9223372036854775807+b:=C7 (by omega) (by omega);have g:decide (9223372036854775807+b<a)=false:=by simp;omega
  have c:decide (0<b)=false:=by simp;omega
  rw[i,d,g,c];simp
 ·have g:decide (b<0)=false:=by simp;omega
  rw[g];by_cases j:0<b
  ·have k:A9 (-9223372036854775808+b)= -9223372036854775808+b:=C7 (by omega) (by omega);have c:decide (a< -9223372036854775808+b)=false:=by simp;omega
   rw[k,d,c];simp
  ·have c:decide (0<b)=false:=by simp;omega
   rw[c,d];simp
def LW {α}{l:List α}{k:Nat}(d:k<l.length) {P:α→Prop}(b:∀x∈l.take k,P x) (c:P l[k]):∀x∈l.take (k+1),P x:=by
 intro x a;rw[Ab6 d,Aa0] at a;rcases a with a|a
 ·exact b x a
 ·simp only[Abi] at a;subst a;exact c
def MM {α}{f:α→Int}{l:List α}{k:Nat}(a:k<l.length):((l.take (k+1)).map f).sum=((l.take k).map f).sum+f l[k]:=by
 rw[Ab6 a,Abt,Abq];simp
def SW {α}{f:α→Int}{l:List α}(c:∀x∈l,0≤f x):0≤(l.map f).sum:=Jz λy a=>by
 obtain⟨x,b,rfl⟩:=Abg.1 a;exact c x b
def JY {n a:Nat}(b:n*a≤140737488355328) {α}(x:Option α):chk (I2 n a) x=x:=by
 unfold chk I2;rw[Aaq b];rfl
def X9 {g:Type}(L:Nat) (f:Nat→Int→Option g) (kj:Option g) (a:∀n (k:Nat),L≤k→f (n+1) (k:Int)=kj) (b:∀n (k:Nat),k<L→f (n+1) (k:Int)=f n ((k+1:Nat):Int)):
  ∀n (k:Nat),L<n+k→k≤L→f n (k:Int)=kj
 |0,k,i,d=>by omega
 |n+1,k,i,d=>by
  rcases Aar k L with c|c
  ·rw[b n k c];exact X9 L f kj a b n (k+1) (by omega) (by omega)
  ·exact a n k c
def XS (N:Nat) (a b:Int):Df (Er N a b):=by
 unfold Er;exact Df.cond (λ_=>Df.mk _) λ_=>Df.cond (λ_=>Df.mk _) λ_=>Df.mk _
def So (N:Nat) (a b:Int):Df (GM N a b):=by
 unfold GM;exact Df.cond (λ_=>Df.mk _) λ_=>Df.cond (λ_=>Df.mk _) λ_=>Df.mk _
def Ko {k:Nat}(b:k≤1000) (c:Nat) (a:c≤1000) {α}(x:Option α):chk (KR (k:Int) (k:Int) c) x=x:=by
 have:KR (k:Int) (k:Int) c=true:=by
  simp only[KR,Aaa,Aam];refine⟨⟨by omega,by omega⟩,?_⟩;have:(c:Int)*(k:Int)≤1000*1000:=Int.mul_le_mul (by omega) (by omega) (by omega) (by omega);omega
 rw[this];rfl
def zE {α}{l:List α}{i:Nat}(a:i<l.length):∃x,ix l (i:Int)=some x∧x∈l:=⟨l[i],BM a,Aap a⟩
def jL {α}(l xs:List α):(Pf l xs).length=l.length:=by unfold Pf;simp;omega
def dV {α}{l xs:List α}(a:l.length=xs.length):Pf l xs=xs:=by
 unfold Pf;rw[a,Aa9,List.drop_of_length_le (by omega),Aa3]
def Nx (k:Nat) (z:Int):(List.replicate ((k:Int)).toNat z).length=k:=by simp
def Ql {α}(k:Nat) (z:α):(List.replicate ((k:Int)).toNat z).length=k:=by simp
def VA (p:List Int):Pf (List.replicate ((p.length:Int)).toNat (0:Int)) p=p:=dV (by simp)
def MV {α}(l:List α) (i:Int) (x:α):(upd l i x).length=l.length:=by simp [upd]
def MQ (N:Nat) {p:List Int}(a:p.length≤1000000):Cg N p=some p:=by
 unfold Cg;rw[JY (by simp;omega)];rfl
def XK (N:Nat) {p:List AQ}(a:p.length≤1000000):CR N p=some p:=by
 unfold CR;rw[JY (by simp;omega)];rfl
def cD {N:Nat}(l:1000000<N) {p q:List Int}(m:p.length≤1000) (o:q.length≤1000):∃r,Gg N p q=some r∧r.length=max p.length q.length:=by
 unfold Gg;have c:max (p.length:Int) (q.length:Int)=((max p.length q.length:Nat):Int):=by omega
 rw[c,Ko (by omega) _ (by decide)];obtain⟨s,d,e⟩:=EI q.length (λn i s=>Fj N q (Hm N) n i s) (Hm N) (λ_ s=>s.length=max p.length q.length) (λn k s a=>by
  simp only[Fj];rw[E5 a];rfl) (λn k s g a=>by
  simp only[Fj];have b:k<s.length:=by omega
  obtain⟨v,j⟩:=XS N s[k] q[k];rw[Ef a,zV,BM a];simp only[BM b,zU];rw[j,zU,BK (by omega)];exact⟨_,by rw[MV];exact g,rfl⟩) N 0 (Pf (List.replicate (((max p.length q.length:Nat):Int)).toNat (0:Int)) p) (by rw[jL,Nx]) (by omega) (Aad _)
 exact⟨s,e,d⟩
def ZM {N:Nat}(l:1000000<N) {p:List Int}(m:p.length≤1000):∃v,IS N p=some v∧(v=true→(∀x∈p,0≤x)∧p.sum≤1125899906842624):=by
 unfold IS;rcases M9 p.length (λn i s=>EH N p (Gs N) n s i) (λ_=>Gs N) (some false) (λk s=>(∀x∈p.take k,0≤x)∧s=(p.take k).sum∧s≤1125899906842624∧0≤s) (λn k s a=>by
  simp only[EH];rw[E5 a];rfl) (λn k s d a=>by
  obtain⟨b,c,g,o⟩:=d;simp only[EH];rw[Ef a,zV,BM a,zU,C7 (n:=1125899906842624-s) (by omega) (by omega)];cases j:(decide (p[k]<0)||decide (1125899906842624-s<p[k]))
  ·simp only[Aa2,Aat] at j;rw[zX,BK (by omega),C7 (n:=s+p[k]) (by omega) (by omega)];exact .inr ⟨_,⟨LW a b (by omega),by rw[Kj a,c],by omega,by omega⟩,rfl⟩
  ·exact .inl rfl) N 0 0 ⟨by simp,rfl,by decide,by decide⟩ (by omega) (Aad _) with e|⟨s,⟨b,c,g,_⟩,e⟩
 ·exact⟨false,e,λq=>by cases q⟩
 ·rw[Aa9] at b c;exact⟨true,e,λ_=>⟨b,by omega⟩⟩
def iZ {t t' n d:Int}(hd:0≤d) (a:0≤n) (b:t≤t'):t*n/d≤t'*n/d:=by
 rcases Int.lt_or_eq_of_le hd with c|c
 ·exact Int.ediv_le_ediv c (Ac1 b a)
 ·rw[←c];simp
def WP {t n d:Int}(hd:0≤d) (a:0≤n) (b:0≤t):0≤t*n/d:=Int.ediv_nonneg (Int.mul_nonneg b a) hd
def dI {t n d:Int}(hd:0≤d) (b:n≤d) (a:0≤t):t*n/d≤t:=by
 rcases Int.lt_or_eq_of_le hd with h0|h0
 ·refine Int.ediv_le_of_le_mul h0 (Int.mul_le_mul_of_nonneg_left b a)
 ·rw[←h0];simp [a]
def wU (e:List BU):Prop:=∀k l r,e[k]? =some l→e[k+1]? =some r→l.R<r.R∧l.W≤r.W
def IA.vol {c:List BU}(b:IA c) {k:Nat}{p:BU}(a:c[k]? =some p):JD p.R∧JD p.W:=⟨(b.2.2 k p a).1,(b.2.2 k p a).2.1⟩
def IA.step {c:List BU}(d:IA c) {k:Nat}{p q:BU}(a:c[k]? =some p) (b:c[k+1]? =some q):p.R<q.R∧p.W≤q.W:=(d.2.2 (k+1) q b).2.2 p (by omega) a
def wU.mono {e:List BU}(s:wU e) {i:Nat}:∀{j:Nat}{a b:BU},i≤j→e[i]? =some a→e[j]? =some b→a.R≤b.R∧a.W≤b.W∧(i<j→a.R<b.R)
 |j,a,b,l,g,d=>by
  rcases Aar i j with n|hge
  ·obtain⟨j,rfl⟩:∃m,j=m+1:=⟨j-1,by omega⟩
   have o:=(Aai.1 d).1;obtain⟨c,k⟩:∃c,e[j]? =some c:=⟨e[j],by simp [show j<e.length by omega]⟩
   have p:=wU.mono s (j:=j) (by omega) g k;have q:=s j c b k d;exact⟨by omega,by omega,λ_=>by omega⟩
  ·have:i=j:=by omega
   subst this;rw[g] at d;cases d;exact⟨Aa6 _,Aa6 _,λs=>by omega⟩
structure wN (e:List BU) (x:Int) (k:Nat) (l r:BU):Prop where
 l_:e[k]? =some l
 r_:e[k+1]? =some r
 lo:l.R≤x
 hi:x<r.R
def SD (l r:BU) (x:Int):Int:=l.W+(x-l.R)*(r.W-l.W)/(r.R-l.R)
def Y7 (l r:BU) (x:Int):Int:=(x-l.R)*(r.W-l.W)%(r.R-l.R)
def wN.bounds {e:List BU}(m:wU e) {x:Int}{k:Nat}{l r:BU}(a:wN e x k l r):l.W≤SD l r x∧SD l r x≤r.W:=by
 have b:=m k l r a.l_ a.r_;have c:=a.lo;have g:=a.hi;have i:=WP (t:=x-l.R) (n:=r.W-l.W) (d:=r.R-l.R) (by omega) (by omega) (by omega);have j:(x-l.R)*(r.W-l.W)/(r.R-l.R)≤r.W-l.W:=by
  refine Int.ediv_le_of_le_mul (by omega) ?_;rw[Int.mul_comm];exact Int.mul_le_mul_of_nonneg_left (by omega) (by omega)
 unfold SD;omega
def wN.mono {e:List BU}(v:wU e) {x c:Int}{k g:Nat}{l r i r':BU}(a:wN e x k l r) (b:wN e c g i r') (u:x≤c):SD l r x≤SD i r' c:=by
 rcases Nat.lt_trichotomy k g with m|heq|hgt
 ·have j:=v.mono (show k+1≤g by omega) a.r_ b.l_;have o:=(a.bounds v).2;have p:=(b.bounds v).1;omega
 ·subst heq;have q:=a.l_.symm.trans b.l_;have s:=a.r_.symm.trans b.r_;cases q;cases s;have j:=v k l r a.l_ a.r_;have:=iZ (t:=x-l.R) (t':=c-l.R) (n:=r.W-l.W) (d:=r.R-l.R) (by omega) (by omega) (by omega);unfold SD;omega
 ·have j:=v.mono (show g+1≤k by omega) b.r_ a.l_;have o:=a.lo;have p:=b.hi;omega
def yO (e:List BU) (s:Int):Prop:=∀k l r,e[k]? =some l→e[k+1]? =some r→(r.W-l.W)*1099511627776≤s*(r.R-l.R)
def yO.mono {e:List BU}{s:Int}(t:yO e s) {i:Nat}:∀{j:Nat}{a b:BU},i≤j→e[i]? =some a→e[j]? =some b→(b.W-a.W)*1099511627776≤s*(b.R-a.R)
 |j,a,b,l,g,d=>by
  rcases Aar i j with n|hge
  ·obtain⟨j,rfl⟩:∃m,j=m+1:=⟨j-1,by omega⟩
   have o:=(Aai.1 d).1;obtain⟨c,k⟩:∃c,e[j]? =some c:=⟨e[j],by simp [show j<e.length by omega]⟩
   have p:=yO.mono t (j:=j) (by omega) g k;have q:=t j c b k d;grind
  ·have:i=j:=by omega
   subst this;rw[g] at d;cases d;grind
def oC {a n d:Int}(b:0≤a∧a≤1125899906842624) (c:0≤n∧n≤1125899906842624) (g:1≤d∧d≤1125899906842624) (i:a*n/d≤1125899906842624):uF a n d=(a*n/d,a*n%d,true):=by
 unfold uF;rw[Aab ⟨b,c,g,i⟩]
def QH {N:Nat}(i:33<N) {c:List BU}(o:IA c):EM N c=some true:=by
 unfold EM;have j:=o.1;have l:=o.2.1;rw[show (decide ((c.length:Int)<1)||decide (32<(c.length:Int)))=false by simp;omega,zX];exact X9 c.length (EL N c (G8 N)) (G8 N) (λn k a=>by
  simp only[EL];rw[E5 a];rfl) (λn k a=>by
  have b:c[k]? =some c[k]:=by simp [a]
  have v:=o.vol b;unfold JD at v;simp only[EL];rw[Ef a,zV,BM a,zU,show(((decide ((c[k]).R<0)||decide (1125899906842624<(c[k]).R))||decide ((c[k]).W<0))||decide (1125899906842624<(c[k]).W))=false by simp only[Aa2,Aat];omega,zX,BK (by omega)];by_cases h0:k=0
  ·subst h0;rfl
  ·have d:c[k-1]? =some c[k-1]:=by simp
   have m:=o.step d (q:=c[k]) (by rw[show k-1+1=k by omega];exact b);have g:A9 ((k:Int)-1)=((k-1:Nat):Int):=by rw[C7 (by omega) (by omega)];omega
   rw[show decide ((0:Int)<(k:Int))=true by simp;omega,zV,g,BM (show k-1<c.length by omega)];simp only[zU];rw[show decide ((c[k]).R≤(c[k-1]).R)=false by simp only[Aat];omega,show decide ((c[k]).W<(c[k-1]).W)=false by simp only[Aat];omega];rfl) N 0 (by omega) (Aad _)
def WE (l r:BU) (x:Int):Int:=l.W*(r.R-l.R)+(x-l.R)*(r.W-l.W)
def T3 {l r:BU}(a:l.R<r.R) (x:Int):SD l r x*(r.R-l.R)+Y7 l r x=WE l r x:=by
 have:=Int.ediv_mul_add_emod ((x-l.R)*(r.W-l.W)) (r.R-l.R);unfold SD Y7 WE;grind
def Xg {l r:BU}(a:l.R<r.R) (x:Int):0≤Y7 l r x∧Y7 l r x<r.R-l.R:=⟨Int.emod_nonneg _ (by omega),Int.emod_lt_of_pos _ (by omega)⟩
def mS (l r a r':BU) (x:Int):Prop:=WE l r x*(r'.R-a.R)≤WE a r' x*(r.R-l.R)
def mS.mid {l r b r':BU}{x u v:Int}(c:mS l r b r' u) (d:mS l r b r' v) (i:u≤x) (j:x≤v) (g:u<v):mS l r b r' x:=by
 unfold mS WE at*;have k:=Ac1 c (show 0≤v-x by omega);have m:=Ac1 d (show 0≤x-u by omega);refine Int.le_of_mul_le_mul_right (a:=v-u) ?_ (by omega);grind
def mS.val {l r c r':BU}{x:Int}(z:mS l r c r' x) (j:l.R<r.R) (g:c.R<r'.R):SD l r x≤SD c r' x:=by
 have k:=T3 j x;have n:=T3 g x;have o:=Xg j x;have p:=Xg g x;unfold mS at z;rw[←k,←n] at z;refine Int.not_lt.1 λt=>?_;generalize SD l r x=a at*
 generalize SD c r' x=b at*
 generalize Y7 l r x=m at*
 generalize Y7 c r' x=q at*
 have s:0<r.R-l.R:=by omega
 have u:0<r'.R-c.R:=by omega
 generalize r.R-l.R=d at*
 generalize r'.R-c.R=i at*
 have v:(b+1)*(d*i)≤a*(d*i):=Ac1 (by omega) (Int.mul_nonneg (by omega) (by omega));have w:0≤m*i:=Int.mul_nonneg o.1 (by omega);have y:q*d<i*d:=Int.mul_lt_mul_of_pos_right p.2 s;grind
def GY {α}{l:List α}{k:Nat}(a:k<l.length) (x:α):(upd l (k:Int) x)[k]? =some x:=by
 simp [upd,a]
def IY {α}{l:List α}{k j:Nat}(a:k≠j) (x:α):(upd l (k:Int) x)[j]? =l[j]? :=by
 simp [upd,Acd a]
def GA (p q:List Int):List Int:=List.zipWith (· + ·) p q
def IE (p q:List Int):List Int:=List.zipWith (· - ·) p q
def Ki {p q:List Int}{W:Nat}(a:p.length=W) (b:q.length=W):(GA p q).length=W:=by simp [GA,a,b]
def aA {p q:List Int}{W:Nat}(a:p.length=W) (b:q.length=W):(IE p q).length=W:=by simp [IE,a,b]
def JE:∀{p q:List Int},p.length=q.length→(GA p q).sum=p.sum+q.sum
 |[],[],_=>rfl
 |a::p,b::q,c=>by
  have:=JE (p:=p) (q:=q) (by simpa using c);simp only[GA,List.zipWith_cons_cons,Aba] at this ⊢;omega
def Sg:∀{p q:List Int},p.length=q.length→(IE p q).sum=p.sum-q.sum
 |[],[],_=>rfl
 |a::p,b::q,c=>by
  have:=Sg (p:=p) (q:=q) (by simpa using c);simp only[IE,List.zipWith_cons_cons,Aba] at this ⊢;omega
structure PX (W:Nat) (p:List Int):Prop where
 len:p.length=W
 nn:∀x∈p,0≤x
 mv:p.sum≤1125899906842624
def Hw:∀{p:List Int},(∀x∈p,0≤x)→∀x∈p,x≤p.sum
 |a::p,g,x,b=>by
  have h0:=Jz (l:=p) λy c=>g y (Aa1 _ c);have d:=g a (Aax ..);rw[Aba];rcases Aae.1 b with rfl|b
  ·omega
  ·have:=Hw (p:=p) (λy c=>g y (Aa1 _ c)) x b;omega
def PX.mem {W:Nat}{p:List Int}(b:PX W p) {x:Int}(a:x∈p):0≤x∧x≤1125899906842624:=⟨b.nn x a,Int.le_trans (Hw b.nn x a) b.mv⟩
def PX.sum0 {W:Nat}{p:List Int}(a:PX W p):0≤p.sum:=Jz a.nn
def PV {p q:List Int}(d:∀x∈p,0≤x) (g:∀x∈q,0≤x):∀x∈GA p q,0≤x:=λx j=>by
 obtain⟨i,c⟩:=Ab3.1 j;rw[GA,Acl] at c;split at c
 ·rename_i a b k l;have:=d a (Abf k);have:=g b (Abf l);cases c;omega
 ·cases c
def PX.add {W:Nat}{p q:List Int}(a:PX W p) (b:PX W q) (c:p.sum+q.sum≤1125899906842624):PX W (GA p q):=
 ⟨Ki a.len b.len,PV a.nn b.nn,by rw[JE (a.len.trans b.len.symm)];exact c⟩
def PX.zero (W:Nat):PX W (List.replicate W 0):=⟨by simp,λx a=>by rw[(List.mem_replicate.1 a).2];exact Aa6 0,by simp⟩
def Xt (W:Nat):(List.replicate W (0:Int)).sum=0:=by simp
structure Wk (t p:List Int):Prop where
 len:t.length=p.length
 le:∀(i:Nat) (x y:Int),t[i]? =some x→p[i]? =some y→0≤x∧x≤y
def Wk.sub {W:Nat}{t p:List Int}(z:Wk t p) (j:PX W p):PX W (IE p t)∧(IE p t).sum=p.sum-t.sum∧PX W t:=by
 have n:t.length=W:=z.len.trans j.len;have d:∀x∈t,0≤x:=λx k=>by
  obtain⟨i,c⟩:=Ab3.1 k;have l:=(Aai.1 c).1;have m:i<p.length:=by rw[←z.len];exact l
  exact(z.le i x _ c (Aao m)).1
 have o:=Sg (p:=p) (q:=t) z.len.symm;have g:∀x∈IE p t,0≤x:=λx k=>by
  obtain⟨i,c⟩:=Ab3.1 k;rw[IE,Acl] at c;split at c
  ·rename_i a b s u;have:=z.le i b a u s;cases c;omega
  ·cases c
 have v:=Jz g;have w:=Jz d;have y:=j.mv;exact⟨⟨aA j.len n,g,by omega⟩,o,n,d,by omega⟩
def Y5 {W:Nat}{p t:List Int}(d:p.length=W) (g:t.length=W) (j:∀x∈t,x=0):IE p t=p:=by
 apply Abj;intro i;rw[IE,Acl];rcases Aar i W with b|b
 ·have c:i<p.length:=by omega
  have a:i<t.length:=by omega
  rw[Aao c,Aao a];have:=j _ (Aap a);simp [this]
 ·rw[Aa8 (show p.length≤i by omega)]
def Vd:∀{t:List Int},(∀x∈t,0≤x)→t.sum≤0→∀x∈t,x=0:=λ{t} g b x a=>by
 have c:=Hw g x a;have d:=g x a;omega
def Vk {N:Nat}(j:1000000<N) {p:List Int}(l:p.length≤1000) (h0:∀x∈p,0≤x) (m:p.sum≤2305843009213693952):Cr N p=some p.sum:=by
 unfold Cr;obtain⟨s,⟨b,c⟩,e⟩:=EI p.length (λn i s=>Gt N p (IK N) n s i) (IK N) (λk s=>s=(p.take k).sum∧0≤s) (λn k s a=>by
  simp only[Gt];rw[E5 a];rfl) (λn k s d a=>by
  obtain⟨b,c⟩:=d;have g:=Iy h0 (k+1);have o:=Iy h0 k;have q:=h0 _ (Aap a);rw[Kj a] at g;simp only[Gt];rw[Ef a,zV,BM a,zU,QR N (by omega) (by omega) (by omega) (by omega),zU,BK (by omega)];exact⟨_,⟨by rw[Kj a,b],by omega⟩,rfl⟩) N 0 0 ⟨rfl,Aa6 _⟩ (by omega) (Aad _)
 rw[Aa9] at b;subst b;exact e
def Uv {N:Nat}(y:1000000<N) {p q:List Int}(t:p.length≤1000) (z:q.length=p.length) (u:∀x∈p, -2305843009213693952≤x∧x≤2305843009213693952) (v:∀x∈q, -2305843009213693952≤x∧x≤2305843009213693952):Gg N p q=some (GA p q):=by
 unfold Gg;have w:max (p.length:Int) (q.length:Int)=(p.length:Int):=by omega
 rw[w,Ko t _ (by decide),VA];obtain⟨s,⟨o,j,l⟩,e⟩:=EI q.length (λn i s=>Fj N q (Hm N) n i s) (Hm N) (λk s=>s.length=p.length∧(∀i,k≤i→s[i]? =p[i]?)∧∀i,i<k→s[i]? =(GA p q)[i]?) (λn k s c=>by
  simp only[Fj];rw[E5 c];rfl) (λn k s g c=>by
  obtain⟨o,j,l⟩:=g;simp only[Fj];have a:k<s.length:=by omega
  have b:k<p.length:=by omega
  have m:s[k]=p[k]:=by
   have:=j k (Aal _);rw[Aao a,Aao b] at this;exact zZ this
  have A:=u _ (Aap b);have B:=v _ (Aap c);rw[Ef c,zV,BM c,zU,BM a,zU,zU,m,QR N (by omega) (by omega) (by omega) (by omega),zU,zU,zU,BK (by omega)];refine⟨_,⟨by rw[MV];exact o,λi g=>by rw[IY (by omega)];exact j i (by omega),λi g=>?_⟩,rfl⟩;by_cases d:k=i
  ·subst d;rw[GY a,GA,Acl,Aao b,Aao c]
  ·rw[IY d];exact l i (by omega)) N 0 p ⟨rfl,λi _=>rfl,λi g=>by omega⟩ (by omega) (Aad _)
 have:s=GA p q:=Abj λi=>by
  rcases Aar i q.length with C|C
  ·exact l i C
  ·rw[Aa8 (by omega),Aa8 (by simp [GA];omega)]
 subst this;exact e
def Wo {N:Nat}(w:1000000<N) {p t:List Int}(q:p.length≤1000) (y:t.length=p.length) (u:∀x∈p, -2305843009213693952≤x∧x≤2305843009213693952) (v:∀x∈t, -2305843009213693952≤x∧x≤2305843009213693952):H2 N p t=some (IE p t):=by
 unfold H2;rw[Ko q _ (by decide),VA];obtain⟨s,⟨o,j,l⟩,e⟩:=EI t.length (λn i s=>FY N t (HS N) n i s) (HS N) (λk s=>s.length=p.length∧(∀i,k≤i→s[i]? =p[i]?)∧∀i,i<k→s[i]? =(IE p t)[i]?) (λn k s c=>by
  simp only[FY];rw[E5 c];rfl) (λn k s g c=>by
  obtain⟨o,j,l⟩:=g;simp only[FY];have a:k<s.length:=by omega
  have b:k<p.length:=by omega
  have m:s[k]=p[k]:=by
   have:=j k (Aal _);rw[Aao a,Aao b] at this;exact zZ this
  have z:=u _ (Aap b);have A:=v _ (Aap c);rw[Ef c,zV,BM c,zU,BM a,zU,zU,zU,zU,m,C7 (n:=p[k]-t[k]) (by omega) (by omega),BK (by omega)];refine⟨_,⟨by rw[MV];exact o,λi g=>by rw[IY (by omega)];exact j i (by omega),λi g=>?_⟩,rfl⟩;by_cases d:k=i
  ·subst d;rw[GY a,IE,Acl,Aao b,Aao c]
  ·rw[IY d];exact l i (by omega)) N 0 p ⟨rfl,λi _=>rfl,λi g=>by omega⟩ (by omega) (Aad _)
 have:s=IE p t:=Abj λi=>by
  rcases Aar i t.length with B|B
  ·exact l i B
  ·rw[Aa8 (by omega),Aa8 (by simp [IE];omega)]
 subst this;exact e
def PX.big {W:Nat}{p:List Int}(b:PX W p):∀x∈p, -2305843009213693952≤x∧x≤2305843009213693952:=λx a=>by
 have:=b.mem a;omega
def PX.total {N W:Nat}(a:1000000<N) (b:W≤1000) {p:List Int}(c:PX W p):Cr N p=some p.sum:=Vk a (by rw[c.len];exact b) c.nn (by have:=c.mv;omega)
def PX.padd {N W:Nat}(c:1000000<N) (d:W≤1000) {p q:List Int}(a:PX W p) (b:PX W q):Gg N p q=some (GA p q):=Uv c (by rw[a.len];exact d) (b.len.trans a.len.symm) a.big b.big
def PX.wo {N W:Nat}(c:1000000<N) (d:W≤1000) {p t:List Int}(a:PX W p) (b:PX W t):H2 N p t=some (IE p t):=Wo c (by rw[a.len];exact d) (b.len.trans a.len.symm) a.big b.big
def Nr:∀{l:List Int}{i:Nat}(b:i<l.length) (x:Int),(l.set i x).sum=l.sum-l[i]+x
 |a::l,0,_,x=>by simp;omega
 |a::l,i+1,b,x=>by
  have:=Nr (l:=l) (i:=i) (by simpa using b) x;simp only[List.set_cons_succ,Aba,List.getElem_cons_succ,this];omega
def iX {N W:Nat}(A:1000000<N) (v:W≤1000) {p:List Int}(a:PX W p) (o n:Int):∃t,Lr N p o n=some (t,IE p t)∧Wk t p∧(t=List.replicate W 0∨∃i:Nat,o=(i:Int)∧i<W∧0<n∧0<p.getD i 0∧t=(List.replicate W 0).set i (min n (p.getD i 0)))∧((∃i:Nat,o=(i:Int)∧i<W∧0<n)→t=(List.replicate W 0).set o.toNat (min n (p.getD o.toNat 0))):=by
 have d:Wk (List.replicate W 0) p:=⟨by simp [a.len],λi x y b g=>by
  rw[Aco] at b;split at b
  ·cases b;exact⟨Aa6 _,a.nn y (Abf g)⟩
  ·cases b⟩
 have q:∀t,Wk t p→Ip N p t=some (t,IE p t):=λt B=>by
  unfold Ip;rw[a.wo A v (B.sub a).2.2,zU]
 have C:List.replicate ((p.length:Int)).toNat (0:Int)=List.replicate W 0:=by rw[a.len];rfl
 unfold Lr KZ;rw[Ko (by rw[a.len];exact v) _ (by decide),C];by_cases D:0≤o∧o<W
 ·obtain⟨i,rfl⟩:∃i:Nat,o=i:=⟨o.toNat,by omega⟩
  have c:i<p.length:=by rw[a.len];omega
  have s:p.getD i 0=p[i]:=by simp [Aa5,c]
  have h0:=a.nn _ (Aap c);rw[Aan (show ¬(i:Int)<0 by omega),Aan (show ¬(p.length:Int)≤(i:Int) by omega),Bool.or_self,zX,BM c,zU,zU,Aan (show ¬p[i]<0 by omega),zX,zU,zU];rw[Abh,s];by_cases w:0<min n p[i]
  ·rw[Aaq w,zV,BM (show i<(List.replicate W (0:Int)).length by simp;omega),zU,zU];have z:Wk ((List.replicate W (0:Int)).set i (min n p[i])) p:=⟨by simp [a.len],λj x y b g=>by
    by_cases l:i=j
    ·subst l;rw[Acm (by simp;omega)] at b;rw[Aao c] at g;cases b;cases g;omega
    ·rw[Acd l] at b;exact d.le j x y b g⟩
   exact⟨_,q _ z,z,.inr ⟨i,rfl,by omega,by omega,by rw[s];omega,by rw[s];rfl⟩,λ_=>rfl⟩
  ·rw[Aan w,zX];refine⟨_,q _ d,d,.inl rfl,λ⟨j,F,u,H⟩=>?_⟩;have:min n p[i]=0:=by omega
   rw[this];apply Abj;intro k;by_cases m:i=k
   ·subst m;rw[Acm (by simp;omega),Aco,Aab (by omega)]
   ·rw[Acd m]
 ·have G:(decide (o<0)||decide ((p.length:Int)≤o))=true:=by
   rw[a.len];simp only[Aay,Aam];omega
  rw[G,zV,zU,zV,zU,Aan (show ¬0<min n 0 by omega),zX];exact⟨_,q _ d,d,.inl rfl,λ⟨j,F,u,_⟩=>absurd ⟨by omega,by omega⟩ D⟩
end Go.Proofs.YtedgiljmffngoaaGreat
