import Derived.Test.YtabonambpbofgaaGreatKPureRight2
namespace Go.Proofs.YtabonambpbofgaaGreat
set_option linter.all false
open Go.RowKit
def dJ (N:Nat) (n z:Int):GG N n z=some (dI n 0 (BQ (z-1))):=rfl
structure VF (b:AF) (t:Kn):Prop where
 place:0≤t.Ap∧t.Ap<b.A.length
 flood:Jv t.Br
 lead:0≤t.Bp∧t.Bp≤24
 watch:Jv t.Bs
 quorum:0≤t.Bo∧t.Bo≤128
def aZ {N:Nat}(w:1000<N) (b:AF) (a:IG b):∃v,Iu N b=some v∧(v=true→∀t∈b.Af,VF b t):=by
 have x:=a.pl;have y:=a.to;have z:=a.sh;have j:Df (Eo N b):=by
  unfold Eo;rcases Jw b.Ak.length (Em N b (Gn N)) (Gn N) (λ_=>True) (λn k D=>by
   simp only[Em];rw[Fj D];rfl) (λn k D=>by
   simp only[Em];rw[FD D,Abj,BF D];simp only[Abi,Nr,A9 (show k<4611686018427387904 by omega)];cases dI (b.Ak[k]).Aj 0 1073741824
   ·exact .inl rfl
   ·exact .inr ⟨trivial,rfl⟩) N 0 (by omega) (Abn _) with D|⟨_,D⟩
  ·exact⟨_,D⟩
  ·exact⟨true,D⟩
 unfold Iu;rcases Jw b.Af.length (En N b (Eo N b)) (Eo N b) (λi=>∀t,b.Af[i]? =some t→VF b t) (λn k D=>by
  simp only[En];rw[Fj D];rfl) (λn k D=>by
  simp only[En];rw[FD D,Abj,BF D];simp only[Abi,Nr,MV,Qo N _ (show b.A.length<4611686018427387904 by omega),Gy,Lu,A9 (show k<4611686018427387904 by omega)];generalize d:(_|| !dI (b.Af[k]).Bo 0 128)=B
  cases B
  ·simp only[Acd,Adz] at d;obtain⟨⟨⟨⟨⟨l,m⟩,o⟩,C⟩,p⟩,q⟩:=d;refine .inr ⟨λt c=>?_,rfl⟩;have:t=b.Af[k]:=by simpa [D] using c.symm
   rw[this];have s:=LD l;exact⟨⟨s.1,by omega⟩,LK m,LD o,LK p,LD q⟩
  ·exact .inl rfl) N 0 (by omega) (Abn _) with D|⟨hp,D⟩
 ·exact⟨false,D,λD=>by cases D⟩
 ·obtain⟨v,u⟩:=j;refine⟨v,D.trans u,λ_ t c=>?_⟩;obtain⟨i,g,rfl⟩:=Afb.1 c;exact hp i (Abn _) g _ (by simp [g])
def Ze {N:Nat}(j:1000<N) (b:AF) (c:IG b):Df (IM N b):=by
 have m:=c.ga;unfold IM;rcases Jw b.Ah.length (Ea N b (GT N)) (GT N) (λ_=>True) (λn k o=>by
  simp only[Ea];rw[Fj o];rfl) (λn k o=>by
  simp only[Ea];rw[FD o,Abj,BF o];simp only[Abi,Nr,dJ,Gy,Lu,A9 (show k<4611686018427387904 by omega)];generalize a:(_|| !dI (b.Ah[k]).Bt 0 1440)=B
  cases B
  ·simp only[Acd,Adz] at a;have d:=LD a.1.1;obtain⟨z,g⟩:=Df.ix (l:=[(b.A.length:Int),b.J,(b.C.length:Int)]) (i:=(b.Ah[k]).F) d.1 (by simp;omega);rw[g];simp only[Abk,Abi];cases dI (b.Ah[k]).Aa 0 (BQ (z-1))
   ·exact .inl rfl
   ·exact .inr ⟨trivial,rfl⟩
  ·exact .inl rfl) N 0 (by omega) (Abn _) with o|⟨_,o⟩
 ·exact⟨_,o⟩
 ·exact⟨true,o⟩
def cE {N:Nat}(d:1000<N) (b:AF) (a:IG b):Df (Iv N b):=by
 have g:=a.ro;unfold Iv;rcases Jw b.Ai.length (Ep N b (Gp N)) (Gp N) (λ_=>True) (λn k i=>by
  simp only[Ep];rw[Fj i];rfl) (λn k i=>by
  simp only[Ep];rw[FD i,Abj,BF i];simp only[Abi,Nr,MV,dJ,Gy,Lu,QI,A9 (show k<4611686018427387904 by omega)];generalize (_|| !Te (b.Ai[k]).Bm)=B
  cases B
  ·simp only[Abk];generalize ((decide ((b.Ai[k]).Bj= -1)&&decide ((b.Ai[k]).Bm≠0))||_)=c
   cases c
   ·exact .inr ⟨trivial,rfl⟩
   ·exact .inl rfl
  ·exact .inl rfl) N 0 (by omega) (Abn _) with i|⟨_,i⟩
 ·exact⟨_,i⟩
 ·exact⟨true,i⟩
structure KA (b:AF):Prop where
 head:IG b
 places:∀p∈b.A,I1 b p
 links:∀l∈b.C,KN b l
 towns:∀t∈b.Af,VF b t
def chainB {b:Bool}{x:Option Bool}{f:Bool→Option Bool}(Q:Prop) {G:Option Bool→Prop}(i:b=true→∃v,x=some v∧(v=true→Q)) (k:∀c,(c=true→b=true∧Q)→G (f c)):G ((cond b (x.bind λy=>some y) (some false)).bind f):=by
 cases b
 ·exact k false λi=>by cases i
 ·obtain⟨v,a,d⟩:=i rfl;rw[a];exact k v λg=>⟨rfl,d g⟩
def Df.q {x:Option Bool}(b:Df x):∃v,x=some v∧(v=true→True):=by obtain⟨v,a⟩:=b;exact⟨v,a,λ_=>trivial⟩
def V4 {N:Nat}(s:18446744073709551616<N) (b:AF):∃v,Gx N b=some v∧(v=true→KA b):=by
 have a:1000<N:=by omega
 unfold Gx;obtain⟨H,z,k⟩:=jE a b;rw[z];simp only[Abi];refine chainB True (G:=λx=>∃v,x=some v∧(v=true→KA b)) (λU=>(cQ a (k U)).q) λI u=>?_;refine chainB (∀p∈b.A,I1 b p) (G:=λx=>∃v,x=some v∧(v=true→KA b)) (λU=>ZU a b (k (u U).1)) λB w=>?_;have m:B=true→IG b∧∀p∈b.A,I1 b p:=λU=>⟨k (u (w U).1).1,(w U).2⟩
 refine chainB (∀l∈b.C,KN b l) (G:=λx=>∃v,x=some v∧(v=true→KA b)) (λU=>cV s b (m U).1) λD n=>?_;have c:D=true→IG b∧(∀p∈b.A,I1 b p)∧∀l∈b.C,KN b l:=λU=>⟨(m (n U).1).1,(m (n U).1).2,(n U).2⟩
 refine chainB True (G:=λx=>∃v,x=some v∧(v=true→KA b)) (λU=>(XB a b (c U).1 (c U).2.1 (c U).2.2).q) λJ g=>?_;refine chainB True (G:=λx=>∃v,x=some v∧(v=true→KA b)) (λU=>(ZE s b (c (g U).1).1 (c (g U).1).2.1 (c (g U).1).2.2).q) λK i=>?_;refine chainB (∀t∈b.Af,VF b t) (G:=λx=>∃v,x=some v∧(v=true→KA b)) (λU=>aZ a b (c (g (i U).1).1).1) λM j=>?_;refine chainB True (G:=λx=>∃v,x=some v∧(v=true→KA b)) (λU=>(Ze a b (c (g (i (j U).1).1).1).1).q) λQ o=>?_;refine chainB True (G:=λx=>∃v,x=some v∧(v=true→KA b)) (λU=>(cE a b (c (g (i (j (o U).1).1).1).1).1).q) λF y=>?_;refine⟨F,rfl,λU=>?_⟩;have d:=c (g (i (j (o (y U).1).1).1).1).1;exact⟨d.1,d.2.1,d.2.2,(j (o (y U).1).1).2⟩
def Fs {σ q:Type}(L:Nat) (f:Nat→Int→σ→Option q) (kj:σ→Option q) (I:Nat→σ→Prop) (a:∀n (k:Nat) s,L≤k→f (n+1) (k:Int) s=kj s) (b:∀n (k:Nat) s,I k s→k<L→∃s',I (k+1) s'∧f (n+1) (k:Int) s=f n ((k+1:Nat):Int) s'):
  ∀n (k:Nat) s,I k s→L<n+k→k≤L→∃s',I L s'∧f n (k:Int) s=kj s'
 |0,k,s,_,t,g=>by omega
 |n+1,k,s,d,t,g=>by
  rcases Ab4 k L with c|c
  ·obtain⟨i,j,l⟩:=b n k s d c;obtain⟨m,o,p⟩:=Fs L f kj I a b n (k+1) i j (by omega) (by omega);exact⟨m,o,l.trans p⟩
  ·have:k=L:=by omega
   subst this;exact⟨s,d,a n k s c⟩
def NP {σ l:Type}(L:Nat) (f:Nat→Int→σ→Option l) (kj:σ→Option l) (c:Option l) (I:Nat→σ→Prop) (a:∀n (k:Nat) s,L≤k→f (n+1) (k:Int) s=kj s) (b:∀n (k:Nat) s,I k s→k<L→f (n+1) (k:Int) s=c∨∃s',I (k+1) s'∧f (n+1) (k:Int) s=f n ((k+1:Nat):Int) s'):
  ∀n (k:Nat) s,I k s→L<n+k→k≤L→f n (k:Int) s=c∨∃s',I L s'∧f n (k:Int) s=kj s'
 |0,k,s,_,m,j=>by omega
 |n+1,k,s,i,m,j=>by
  rcases Ab4 k L with d|d
  ·rcases b n k s i d with h0|⟨s1,i1,h1⟩
   ·exact .inl h0
   ·rcases NP L f kj c I a b n (k+1) s1 i1 (by omega) (by omega) with g|⟨s2,i2,g⟩
    ·exact .inl (h1.trans g)
    ·exact .inr ⟨s2,i2,h1.trans g⟩
  ·have:k=L:=by omega
   subst this;exact .inr ⟨s,i,a n k s d⟩
def WH (L:Nat) (f:Nat→Int→Option Bool) (kj:Option Bool) (c:Nat→Bool) (a:∀n (k:Nat),L≤k→f (n+1) (k:Int)=kj) (b:∀n (k:Nat),k<L→f (n+1) (k:Int)=cond (c k) (f n ((k+1:Nat):Int)) (some false)):
  ∀n (k:Nat),L<n+k→k≤L→((∀i,k≤i→i<L→c i=true)∧f n (k:Int)=kj)∨((∃i,k≤i∧i<L∧c i=false)∧f n (k:Int)=some false)
 |0,k,s,p=>by omega
 |n+1,k,s,p=>by
  rcases Ab4 k L with j|j
  ·have d:=b n k j;cases l:c k with
   |false=>rw[l] at d;exact .inr ⟨⟨k,Ab1 _,j,l⟩,d⟩
   |true=>
    rw[l] at d;rcases WH L f kj c a b n (k+1) (by omega) (by omega) with ⟨o,m⟩|⟨⟨i,o,m,h4⟩,h5⟩
    ·refine .inl ⟨λi q g=>?_,d.trans m⟩;by_cases e:i=k
     ·subst e;exact l
     ·exact o i (by omega) g
    ·exact .inr ⟨⟨i,by omega,m,h4⟩,d.trans h5⟩
  ·exact .inl ⟨λi q g=>by omega,a n k j⟩
def Ke {l:List Int}{k:Nat}(a:k<l.length):(l.take (k+1)).sum=(l.take k).sum+l[k]:=by
 rw[Ac1 a,Adh];simp
def Ka:∀{l:List Int},(∀x∈l,0≤x)→0≤l.sum
 |[],_=>by simp
 |a::l,g=>by
  have c:=g a (Ab8 ..);have d:=Ka (l:=l) λx b=>g x (Acn _ b);simp only[Acz];omega
def Ju {l:List Int}(g:∀x∈l,0≤x) (k:Nat):0≤(l.take k).sum∧(l.take k).sum≤l.sum:=by
 have b:=Ka (l:=l.take k) λx a=>g x (Afc a);have c:=Ka (l:=l.drop k) λx a=>g x (List.mem_of_mem_drop a);have d:(l.take k).sum+(l.drop k).sum=l.sum:=by rw[←Adh,List.take_append_drop]
 omega
def VD (N:Nat) {a b:Int}(l: -4611686018427387903≤a) (m:a≤4611686018427387903) (n: -4611686018427387903≤b) (o:b≤4611686018427387903):H3 N a b=some (a+b):=by
 unfold H3;have d:BQ (a+b)=a+b:=ER (by omega) (by omega);by_cases p:0<b
 ·have i:BQ (9223372036854775807-b)=9223372036854775807-b:=ER (by omega) (by omega);rw[i,d];have g:decide (9223372036854775807-b<a)=false:=by simp;omega
  have c:decide (b<0)=false:=by simp;omega
  rw[g,c];simp
 ·have g:decide (0<b)=false:=by simp;omega
  rw[g];by_cases j:b<0
  ·have k:BQ (-9223372036854775808-b)= -9223372036854775808-b:=ER (by omega) (by omega);have c:decide (a< -9223372036854775808-b)=false:=by simp;omega
   rw[k,d,c];simp
  ·have c:decide (b<0)=false:=by simp;omega
   rw[c,d];simp
def bG (N:Nat) {a b:Int}(l: -4611686018427387903≤a) (m:a≤4611686018427387903) (n: -4611686018427387903≤b) (o:b≤4611686018427387903):Hi N a b=some (a-b):=by
 unfold Hi;have d:BQ (a-b)=a-b:=ER (by omega) (by omega);by_cases p:b<0
 ·have i:BQ (9223372036854775807+b)=9223372036854775807+b:=ER (by omega) (by omega);have g:decide (9223372036854775807+b<a)=false:=by simp;omega
  have c:decide (0<b)=false:=by simp;omega
  rw[i,d,g,c];simp
 ·have g:decide (b<0)=false:=by simp;omega
  rw[g];by_cases j:0<b
  ·have k:BQ (-9223372036854775808+b)= -9223372036854775808+b:=ER (by omega) (by omega);have c:decide (a< -9223372036854775808+b)=false:=by simp;omega
   rw[k,d,c];simp
  ·have c:decide (0<b)=false:=by simp;omega
   rw[c,d];simp
def Ly {α}{l:List α}{k:Nat}(d:k<l.length) {P:α→Prop}(b:∀x∈l.take k,P x) (c:P l[k]):∀x∈l.take (k+1),P x:=by
 intro x a;rw[Ac1 d,Acb] at a;rcases a with a|a
 ·exact b x a
 ·simp only[Acf] at a;subst a;exact c
def RL {α}{f:α→Int}{l:List α}{k:Nat}(a:k<l.length):((l.take (k+1)).map f).sum=((l.take k).map f).sum+f l[k]:=by
 rw[Ac1 a,Adb,Adh];simp
def SK {α}{f:α→Int}{l:List α}(c:∀x∈l,0≤f x):0≤(l.map f).sum:=Ka λy a=>by
 obtain⟨x,b,rfl⟩:=Ach.1 a;exact c x b
def GZ {n a:Nat}(c:n*a≤175921860444160) {α}(x:Option α) (b:a≤274877906944:=by decide):chk (Ha n a) x=x:=by
 unfold chk Ha;rw[Ab3 c,Ab3 b,Bool.and_self,Bool.or_true];rfl
def Lz {g:Type}(L:Nat) (f:Nat→Int→Option g) (kj:Option g) (a:∀n (k:Nat),L≤k→f (n+1) (k:Int)=kj) (b:∀n (k:Nat),k<L→f (n+1) (k:Int)=f n ((k+1:Nat):Int)):
  ∀n (k:Nat),L<n+k→k≤L→f n (k:Int)=kj
 |0,k,i,d=>by omega
 |n+1,k,i,d=>by
  rcases Ab4 k L with c|c
  ·rw[b n k c];exact Lz L f kj a b n (k+1) (by omega) (by omega)
  ·exact a n k c
def XS (N:Nat) (a b:Int):Df (H3 N a b):=by
 unfold H3;exact Df.cond (λ_=>Df.mk _) λ_=>Df.cond (λ_=>Df.mk _) λ_=>Df.mk _
def Sf (N:Nat) (a b:Int):Df (Hi N a b):=by
 unfold Hi;exact Df.cond (λ_=>Df.mk _) λ_=>Df.cond (λ_=>Df.mk _) λ_=>Df.mk _
def Kz {k:Nat}(b:k≤1000) (c:Nat) (a:c≤1000) {α}(x:Option α):chk (LI (k:Int) (k:Int) c) x=x:=by
 have:LI (k:Int) (k:Int) c=true:=by
  simp only[LI,Abq,Ab6];refine⟨⟨by omega,by omega⟩,?_⟩;have:(c:Int)*(k:Int)≤1000*1000:=Int.mul_le_mul (by omega) (by omega) (by omega) (by omega);omega
 rw[this];rfl
def Aa6 {α}{l:List α}{i:Nat}(a:i<l.length):∃x,ix l (i:Int)=some x∧x∈l:=⟨l[i],BF a,Ab2 a⟩
def kB {α}(l xs:List α):(Pb l xs).length=l.length:=by unfold Pb;simp;omega
def eR {α}{l xs:List α}(a:l.length=xs.length):Pb l xs=xs:=by
 unfold Pb;rw[a,Ack,List.drop_of_length_le (by omega),Acx]
def N5 (k:Nat) (z:Int):(List.replicate ((k:Int)).toNat z).length=k:=by simp
def Qh {α}(k:Nat) (z:α):(List.replicate ((k:Int)).toNat z).length=k:=by simp
def U3 (p:List Int):Pb (List.replicate ((p.length:Int)).toNat (0:Int)) p=p:=eR (by simp)
def Mu {α}(l:List α) (i:Int) (x:α):(upd l i x).length=l.length:=by simp [upd]
def Mr (N:Nat) {p:List Int}(a:p.length≤1000000):BK N p=some p:=by
 unfold BK;rw[GZ (by simp;omega)];rfl
def XK (N:Nat) {p:List A4}(a:p.length≤1000000):BY N p=some p:=by
 unfold BY;rw[GZ (by simp;omega)];rfl
def cN {N:Nat}(l:8000000000000<N) {p q:List Int}(m:p.length≤1000) (o:q.length≤1000):∃r,Hq N p q=some r∧r.length=max p.length q.length:=by
 unfold Hq;have c:max (p.length:Int) (q.length:Int)=((max p.length q.length:Nat):Int):=by omega
 rw[c,Kz (by omega) _ (by decide)];obtain⟨s,d,e⟩:=Fs q.length (λn i s=>Gu N q (IY N) n i s) (IY N) (λ_ s=>s.length=max p.length q.length) (λn k s a=>by
  simp only[Gu];rw[Fj a];rfl) (λn k s g a=>by
  simp only[Gu];have b:k<s.length:=by omega
  obtain⟨v,j⟩:=XS N s[k] q[k];rw[FD a,Abj,BF a];simp only[BF b,Abi];rw[j,Abi,A9 (by omega)];exact⟨_,by rw[Mu];exact g,rfl⟩) N 0 (Pb (List.replicate (((max p.length q.length:Nat):Int)).toNat (0:Int)) p) (by rw[kB,N5]) (by omega) (Abn _)
 exact⟨s,e,d⟩
def ZT {N:Nat}(l:8000000000000<N) {p:List Int}(m:p.length≤1000):∃v,JQ N p=some v∧(v=true→(∀x∈p,0≤x)∧p.sum≤1125899906842624):=by
 unfold JQ;rcases NP p.length (λn i s=>FT N p (Hf N) n s i) (λ_=>Hf N) (some false) (λk s=>(∀x∈p.take k,0≤x)∧s=(p.take k).sum∧s≤1125899906842624∧0≤s) (λn k s a=>by
  simp only[FT];rw[Fj a];rfl) (λn k s d a=>by
  obtain⟨b,c,g,o⟩:=d;simp only[FT];rw[FD a,Abj,BF a,Abi,ER (n:=1125899906842624-s) (by omega) (by omega)];cases j:(decide (p[k]<0)||decide (1125899906842624-s<p[k]))
  ·simp only[Acd,Ab7] at j;rw[Abk,A9 (by omega),ER (n:=s+p[k]) (by omega) (by omega)];exact .inr ⟨_,⟨Ly a b (by omega),by rw[Ke a,c],by omega,by omega⟩,rfl⟩
  ·exact .inl rfl) N 0 0 ⟨by simp,rfl,by decide,by decide⟩ (by omega) (Abn _) with e|⟨s,⟨b,c,g,_⟩,e⟩
 ·exact⟨false,e,λq=>by cases q⟩
 ·rw[Ack] at b c;exact⟨true,e,λ_=>⟨b,by omega⟩⟩
def jK {t t' n d:Int}(hd:0≤d) (a:0≤n) (b:t≤t'):t*n/d≤t'*n/d:=by
 rcases Int.lt_or_eq_of_le hd with c|c
 ·exact Int.ediv_le_ediv c (Aec b a)
 ·rw[←c];simp
def WN {t n d:Int}(hd:0≤d) (a:0≤n) (b:0≤t):0≤t*n/d:=Int.ediv_nonneg (Int.mul_nonneg b a) hd
def dQ {t n d:Int}(hd:0≤d) (b:n≤d) (a:0≤t):t*n/d≤t:=by
 rcases Int.lt_or_eq_of_le hd with h0|h0
 ·refine Int.ediv_le_of_le_mul h0 (Int.mul_le_mul_of_nonneg_left b a)
 ·rw[←h0];simp [a]
def yS (e:List By):Prop:=∀k l r,e[k]? =some l→e[k+1]? =some r→l.Q<r.Q∧l.X≤r.X
def I2.vol {c:List By}(b:I2 c) {k:Nat}{p:By}(a:c[k]? =some p):Jv p.Q∧Jv p.X:=⟨(b.2.2 k p a).1,(b.2.2 k p a).2.1⟩
def I2.step {c:List By}(d:I2 c) {k:Nat}{p q:By}(a:c[k]? =some p) (b:c[k+1]? =some q):p.Q<q.Q∧p.X≤q.X:=(d.2.2 (k+1) q b).2.2 p (by omega) a
def yS.mono {e:List By}(s:yS e) {i:Nat}:∀{j:Nat}{a b:By},i≤j→e[i]? =some a→e[j]? =some b→a.Q≤b.Q∧a.X≤b.X∧(i<j→a.Q<b.Q)
 |j,a,b,l,g,d=>by
  rcases Ab4 i j with n|hge
  ·obtain⟨j,rfl⟩:∃m,j=m+1:=⟨j-1,by omega⟩
   have o:=(Aby.1 d).1;obtain⟨c,k⟩:∃c,e[j]? =some c:=⟨e[j],by simp [show j<e.length by omega]⟩
   have p:=yS.mono s (j:=j) (by omega) g k;have q:=s j c b k d;exact⟨by omega,by omega,λ_=>by omega⟩
  ·have:i=j:=by omega
   subst this;rw[g] at d;cases d;exact⟨Acj _,Acj _,λs=>by omega⟩
structure yL (e:List By) (x:Int) (k:Nat) (l r:By):Prop where
 l_:e[k]? =some l
 r_:e[k+1]? =some r
 lo:l.Q≤x
 hi:x<r.Q
def Rx (l r:By) (x:Int):Int:=l.X+(x-l.Q)*(r.X-l.X)/(r.Q-l.Q)
def Y7 (l r:By) (x:Int):Int:=(x-l.Q)*(r.X-l.X)%(r.Q-l.Q)
def yL.bounds {e:List By}(m:yS e) {x:Int}{k:Nat}{l r:By}(a:yL e x k l r):l.X≤Rx l r x∧Rx l r x≤r.X:=by
 have b:=m k l r a.l_ a.r_;have c:=a.lo;have g:=a.hi;have i:=WN (t:=x-l.Q) (n:=r.X-l.X) (d:=r.Q-l.Q) (by omega) (by omega) (by omega);have j:(x-l.Q)*(r.X-l.X)/(r.Q-l.Q)≤r.X-l.X:=by
  refine Int.ediv_le_of_le_mul (by omega) ?_;rw[Int.mul_comm];exact Int.mul_le_mul_of_nonneg_left (by omega) (by omega)
 unfold Rx;omega
def yL.mono {e:List By}(v:yS e) {x c:Int}{k g:Nat}{l r i r':By}(a:yL e x k l r) (b:yL e c g i r') (u:x≤c):Rx l r x≤Rx i r' c:=by
 rcases Nat.lt_trichotomy k g with m|heq|hgt
 ·have j:=v.mono (show k+1≤g by omega) a.r_ b.l_;have o:=(a.bounds v).2;have p:=(b.bounds v).1;omega
 ·subst heq;have q:=a.l_.symm.trans b.l_;have s:=a.r_.symm.trans b.r_;cases q;cases s;have j:=v k l r a.l_ a.r_;have:=jK (t:=x-l.Q) (t':=c-l.Q) (n:=r.X-l.X) (d:=r.Q-l.Q) (by omega) (by omega) (by omega);unfold Rx;omega
 ·have j:=v.mono (show g+1≤k by omega) b.r_ a.l_;have o:=a.lo;have p:=b.hi;omega
def Aao (e:List By) (s:Int):Prop:=∀k l r,e[k]? =some l→e[k+1]? =some r→(r.X-l.X)*1099511627776≤s*(r.Q-l.Q)
def Aao.mono {e:List By}{s:Int}(t:Aao e s) {i:Nat}:∀{j:Nat}{a b:By},i≤j→e[i]? =some a→e[j]? =some b→(b.X-a.X)*1099511627776≤s*(b.Q-a.Q)
 |j,a,b,l,g,d=>by
  rcases Ab4 i j with n|hge
  ·obtain⟨j,rfl⟩:∃m,j=m+1:=⟨j-1,by omega⟩
   have o:=(Aby.1 d).1;obtain⟨c,k⟩:∃c,e[j]? =some c:=⟨e[j],by simp [show j<e.length by omega]⟩
   have p:=Aao.mono t (j:=j) (by omega) g k;have q:=t j c b k d;grind
  ·have:i=j:=by omega
   subst this;rw[g] at d;cases d;grind
def pU {a n d:Int}(b:0≤a∧a≤1125899906842624) (c:0≤n∧n≤1125899906842624) (g:1≤d∧d≤1125899906842624) (i:a*n/d≤1125899906842624):vG a n d=(a*n/d,a*n%d,true):=by
 unfold vG;rw[Abm ⟨b,c,g,i⟩]
def QH {N:Nat}(i:33<N) {c:List By}(o:I2 c):Fa N c=some true:=by
 unfold Fa;have j:=o.1;have l:=o.2.1;rw[show (decide ((c.length:Int)<1)||decide (32<(c.length:Int)))=false by simp;omega,Abk];exact Lz c.length (FZ N c (Hs N)) (Hs N) (λn k a=>by
  simp only[FZ];rw[Fj a];rfl) (λn k a=>by
  have b:c[k]? =some c[k]:=by simp [a]
  have v:=o.vol b;unfold Jv at v;simp only[FZ];rw[FD a,Abj,BF a,Abi,show(((decide ((c[k]).Q<0)||decide (1125899906842624<(c[k]).Q))||decide ((c[k]).X<0))||decide (1125899906842624<(c[k]).X))=false by simp only[Acd,Ab7];omega,Abk,A9 (by omega)];by_cases h0:k=0
  ·subst h0;rfl
  ·have d:c[k-1]? =some c[k-1]:=by simp
   have m:=o.step d (q:=c[k]) (by rw[show k-1+1=k by omega];exact b);have g:BQ ((k:Int)-1)=((k-1:Nat):Int):=by rw[ER (by omega) (by omega)];omega
   rw[show decide ((0:Int)<(k:Int))=true by simp;omega,Abj,g,BF (show k-1<c.length by omega)];simp only[Abi];rw[show decide ((c[k]).Q≤(c[k-1]).Q)=false by simp only[Ab7];omega,show decide ((c[k]).X<(c[k-1]).X)=false by simp only[Ab7];omega];rfl) N 0 (by omega) (Abn _)
def WI (l r:By) (x:Int):Int:=l.X*(r.Q-l.Q)+(x-l.Q)*(r.X-l.X)
def Tu {l r:By}(a:l.Q<r.Q) (x:Int):Rx l r x*(r.Q-l.Q)+Y7 l r x=WI l r x:=by
 have:=Int.ediv_mul_add_emod ((x-l.Q)*(r.X-l.X)) (r.Q-l.Q);unfold Rx Y7 WI;grind
def Xk {l r:By}(a:l.Q<r.Q) (x:Int):0≤Y7 l r x∧Y7 l r x<r.Q-l.Q:=⟨Int.emod_nonneg _ (by omega),Int.emod_lt_of_pos _ (by omega)⟩
def nZ (l r a r':By) (x:Int):Prop:=WI l r x*(r'.Q-a.Q)≤WI a r' x*(r.Q-l.Q)
def nZ.mid {l r b r':By}{x u v:Int}(c:nZ l r b r' u) (d:nZ l r b r' v) (i:u≤x) (j:x≤v) (g:u<v):nZ l r b r' x:=by
 unfold nZ WI at*;have k:=Aec c (show 0≤v-x by omega);have m:=Aec d (show 0≤x-u by omega);refine Int.le_of_mul_le_mul_right (a:=v-u) ?_ (by omega);grind
def nZ.val {l r c r':By}{x:Int}(z:nZ l r c r' x) (j:l.Q<r.Q) (g:c.Q<r'.Q):Rx l r x≤Rx c r' x:=by
 have k:=Tu j x;have n:=Tu g x;have o:=Xk j x;have p:=Xk g x;unfold nZ at z;rw[←k,←n] at z;refine Int.not_lt.1 λt=>?_;generalize Rx l r x=a at*
 generalize Rx c r' x=b at*
 generalize Y7 l r x=m at*
 generalize Y7 c r' x=q at*
 have s:0<r.Q-l.Q:=by omega
 have u:0<r'.Q-c.Q:=by omega
 generalize r.Q-l.Q=d at*
 generalize r'.Q-c.Q=i at*
 have v:(b+1)*(d*i)≤a*(d*i):=Aec (by omega) (Int.mul_nonneg (by omega) (by omega));have w:0≤m*i:=Int.mul_nonneg o.1 (by omega);have y:q*d<i*d:=Int.mul_lt_mul_of_pos_right p.2 s;grind
def Hk {α}{l:List α}{k:Nat}(a:k<l.length) (x:α):(upd l (k:Int) x)[k]? =some x:=by
 simp [upd,a]
def Jf {α}{l:List α}{k j:Nat}(a:k≠j) (x:α):(upd l (k:Int) x)[j]? =l[j]? :=by
 simp [upd,Ads a]
def Hw (p q:List Int):List Int:=List.zipWith (· + ·) p q
def Jt (p q:List Int):List Int:=List.zipWith (· - ·) p q
def QV {p q:List Int}{W:Nat}(a:p.length=W) (b:q.length=W):(Hw p q).length=W:=by simp [Hw,a,b]
def Z6 {p q:List Int}{W:Nat}(a:p.length=W) (b:q.length=W):(Jt p q).length=W:=by simp [Jt,a,b]
def L9:∀{p q:List Int},p.length=q.length→(Hw p q).sum=p.sum+q.sum
 |[],[],_=>rfl
 |a::p,b::q,c=>by
  have:=L9 (p:=p) (q:=q) (by simpa using c);simp only[Hw,List.zipWith_cons_cons,Acz] at this ⊢;omega
def Vh:∀{p q:List Int},p.length=q.length→(Jt p q).sum=p.sum-q.sum
 |[],[],_=>rfl
 |a::p,b::q,c=>by
  have:=Vh (p:=p) (q:=q) (by simpa using c);simp only[Jt,List.zipWith_cons_cons,Acz] at this ⊢;omega
structure PX (W:Nat) (p:List Int):Prop where
 len:p.length=W
 nn:∀x∈p,0≤x
 mv:p.sum≤1125899906842624
def Jb:∀{p:List Int},(∀x∈p,0≤x)→∀x∈p,x≤p.sum
 |a::p,g,x,b=>by
  have h0:=Ka (l:=p) λy c=>g y (Acn _ c);have d:=g a (Ab8 ..);rw[Acz];rcases Abr.1 b with rfl|b
  ·omega
  ·have:=Jb (p:=p) (λy c=>g y (Acn _ c)) x b;omega
def PX.mem {W:Nat}{p:List Int}(b:PX W p) {x:Int}(a:x∈p):0≤x∧x≤1125899906842624:=⟨b.nn x a,Int.le_trans (Jb b.nn x a) b.mv⟩
def PX.sum0 {W:Nat}{p:List Int}(a:PX W p):0≤p.sum:=Ka a.nn
def SE {p q:List Int}(d:∀x∈p,0≤x) (g:∀x∈q,0≤x):∀x∈Hw p q,0≤x:=λx j=>by
 obtain⟨i,c⟩:=Adr.1 j;rw[Hw,Adu] at c;split at c
 ·rename_i a b k l;have:=d a (Acy k);have:=g b (Acy l);cases c;omega
 ·cases c
def PX.add {W:Nat}{p q:List Int}(a:PX W p) (b:PX W q) (c:p.sum+q.sum≤1125899906842624):PX W (Hw p q):=
 ⟨QV a.len b.len,SE a.nn b.nn,by rw[L9 (a.len.trans b.len.symm)];exact c⟩
def PX.zero (W:Nat):PX W (List.replicate W 0):=⟨by simp,λx a=>by rw[(List.mem_replicate.1 a).2];exact Acj 0,by simp⟩
def Xy (W:Nat):(List.replicate W (0:Int)).sum=0:=by simp
structure Wr (t p:List Int):Prop where
 len:t.length=p.length
 le:∀(i:Nat) (x y:Int),t[i]? =some x→p[i]? =some y→0≤x∧x≤y
def Wr.sub {W:Nat}{t p:List Int}(z:Wr t p) (j:PX W p):PX W (Jt p t)∧(Jt p t).sum=p.sum-t.sum∧PX W t:=by
 have n:t.length=W:=z.len.trans j.len;have d:∀x∈t,0≤x:=λx k=>by
  obtain⟨i,c⟩:=Adr.1 k;have l:=(Aby.1 c).1;have m:i<p.length:=by rw[←z.len];exact l
  exact(z.le i x _ c (Abw m)).1
 have o:=Vh (p:=p) (q:=t) z.len.symm;have g:∀x∈Jt p t,0≤x:=λx k=>by
  obtain⟨i,c⟩:=Adr.1 k;rw[Jt,Adu] at c;split at c
  ·rename_i a b s u;have:=z.le i b a u s;cases c;omega
  ·cases c
 have v:=Ka g;have w:=Ka d;have y:=j.mv;exact⟨⟨Z6 j.len n,g,by omega⟩,o,n,d,by omega⟩
def Y5 {W:Nat}{p t:List Int}(d:p.length=W) (g:t.length=W) (j:∀x∈t,x=0):Jt p t=p:=by
 apply Acr;intro i;rw[Jt,Adu];rcases Ab4 i W with b|b
 ·have c:i<p.length:=by omega
  have a:i<t.length:=by omega
  rw[Abw c,Abw a];have:=j _ (Ab2 a);simp [this]
 ·rw[Acc (show p.length≤i by omega)]
def Ve:∀{t:List Int},(∀x∈t,0≤x)→t.sum≤0→∀x∈t,x=0:=λ{t} g b x a=>by
 have c:=Jb g x a;have d:=g x a;omega
def Vo {N:Nat}(j:8000000000000<N) {p:List Int}(l:p.length≤1000) (h0:∀x∈p,0≤x) (m:p.sum≤2305843009213693952):FE N p=some p.sum:=by
 unfold FE;obtain⟨s,⟨b,c⟩,e⟩:=Fs p.length (λn i s=>Hg N p (JL N) n s i) (JL N) (λk s=>s=(p.take k).sum∧0≤s) (λn k s a=>by
  simp only[Hg];rw[Fj a];rfl) (λn k s d a=>by
  obtain⟨b,c⟩:=d;have g:=Ju h0 (k+1);have o:=Ju h0 k;have q:=h0 _ (Ab2 a);rw[Ke a] at g;simp only[Hg];rw[FD a,Abj,BF a,Abi,VD N (by omega) (by omega) (by omega) (by omega),Abi,A9 (by omega)];exact⟨_,⟨by rw[Ke a,b],by omega⟩,rfl⟩) N 0 0 ⟨rfl,Acj _⟩ (by omega) (Abn _)
 rw[Ack] at b;subst b;exact e
def X3 {N:Nat}(y:8000000000000<N) {p q:List Int}(t:p.length≤1000) (z:q.length=p.length) (u:∀x∈p, -2305843009213693952≤x∧x≤2305843009213693952) (v:∀x∈q, -2305843009213693952≤x∧x≤2305843009213693952):Hq N p q=some (Hw p q):=by
 unfold Hq;have w:max (p.length:Int) (q.length:Int)=(p.length:Int):=by omega
 rw[w,Kz t _ (by decide),U3];obtain⟨s,⟨o,j,l⟩,e⟩:=Fs q.length (λn i s=>Gu N q (IY N) n i s) (IY N) (λk s=>s.length=p.length∧(∀i,k≤i→s[i]? =p[i]?)∧∀i,i<k→s[i]? =(Hw p q)[i]?) (λn k s c=>by
  simp only[Gu];rw[Fj c];rfl) (λn k s g c=>by
  obtain⟨o,j,l⟩:=g;simp only[Gu];have a:k<s.length:=by omega
  have b:k<p.length:=by omega
  have m:s[k]=p[k]:=by
   have:=j k (Ab1 _);rw[Abw a,Abw b] at this;exact Abo this
  have A:=u _ (Ab2 b);have B:=v _ (Ab2 c);rw[FD c,Abj,BF c,Abi,BF a,Abi,Abi,m,VD N (by omega) (by omega) (by omega) (by omega),Abi,Abi,Abi,A9 (by omega)];refine⟨_,⟨by rw[Mu];exact o,λi g=>by rw[Jf (by omega)];exact j i (by omega),λi g=>?_⟩,rfl⟩;by_cases d:k=i
  ·subst d;rw[Hk a,Hw,Adu,Abw b,Abw c]
  ·rw[Jf d];exact l i (by omega)) N 0 p ⟨rfl,λi _=>rfl,λi g=>by omega⟩ (by omega) (Abn _)
 have:s=Hw p q:=Acr λi=>by
  rcases Ab4 i q.length with C|C
  ·exact l i C
  ·rw[Acc (by omega),Acc (by simp [Hw];omega)]
 subst this;exact e
def Wu {N:Nat}(w:8000000000000<N) {p t:List Int}(q:p.length≤1000) (y:t.length=p.length) (u:∀x∈p, -2305843009213693952≤x∧x≤2305843009213693952) (v:∀x∈t, -2305843009213693952≤x∧x≤2305843009213693952):Io N p t=some (Jt p t):=by
 unfold Io;rw[Kz q _ (by decide),U3];obtain⟨s,⟨o,j,l⟩,e⟩:=Fs t.length (λn i s=>Gh N t (H9 N) n i s) (H9 N) (λk s=>s.length=p.length∧(∀i,k≤i→s[i]? =p[i]?)∧∀i,i<k→s[i]? =(Jt p t)[i]?) (λn k s c=>by
  simp only[Gh];rw[Fj c];rfl) (λn k s g c=>by
  obtain⟨o,j,l⟩:=g;simp only[Gh];have a:k<s.length:=by omega
  have b:k<p.length:=by omega
  have m:s[k]=p[k]:=by
   have:=j k (Ab1 _);rw[Abw a,Abw b] at this;exact Abo this
  have z:=u _ (Ab2 b);have A:=v _ (Ab2 c);rw[FD c,Abj,BF c,Abi,BF a,Abi,Abi,Abi,Abi,m,ER (n:=p[k]-t[k]) (by omega) (by omega),A9 (by omega)];refine⟨_,⟨by rw[Mu];exact o,λi g=>by rw[Jf (by omega)];exact j i (by omega),λi g=>?_⟩,rfl⟩;by_cases d:k=i
  ·subst d;rw[Hk a,Jt,Adu,Abw b,Abw c]
  ·rw[Jf d];exact l i (by omega)) N 0 p ⟨rfl,λi _=>rfl,λi g=>by omega⟩ (by omega) (Abn _)
 have:s=Jt p t:=Acr λi=>by
  rcases Ab4 i t.length with B|B
  ·exact l i B
  ·rw[Acc (by omega),Acc (by simp [Jt];omega)]
 subst this;exact e
def PX.big {W:Nat}{p:List Int}(b:PX W p):∀x∈p, -2305843009213693952≤x∧x≤2305843009213693952:=λx a=>by
 have:=b.mem a;omega
def PX.total {N W:Nat}(a:8000000000000<N) (b:W≤1000) {p:List Int}(c:PX W p):FE N p=some p.sum:=Vo a (by rw[c.len];exact b) c.nn (by have:=c.mv;omega)
def PX.padd {N W:Nat}(c:8000000000000<N) (d:W≤1000) {p q:List Int}(a:PX W p) (b:PX W q):Hq N p q=some (Hw p q):=X3 c (by rw[a.len];exact d) (b.len.trans a.len.symm) a.big b.big
def PX.wo {N W:Nat}(c:8000000000000<N) (d:W≤1000) {p t:List Int}(a:PX W p) (b:PX W t):Io N p t=some (Jt p t):=Wu c (by rw[a.len];exact d) (b.len.trans a.len.symm) a.big b.big
def N1:∀{l:List Int}{i:Nat}(b:i<l.length) (x:Int),(l.set i x).sum=l.sum-l[i]+x
 |a::l,0,_,x=>by simp;omega
 |a::l,i+1,b,x=>by
  have:=N1 (l:=l) (i:=i) (by simpa using b) x;simp only[List.set_cons_succ,Acz,List.getElem_cons_succ,this];omega
def jJ {N W:Nat}(A:8000000000000<N) (v:W≤1000) {p:List Int}(a:PX W p) (o n:Int):∃t,ML N p o n=some (t,Jt p t)∧Wr t p∧(t=List.replicate W 0∨∃i:Nat,o=(i:Int)∧i<W∧0<n∧0<p.getD i 0∧t=(List.replicate W 0).set i (min n (p.getD i 0)))∧((∃i:Nat,o=(i:Int)∧i<W∧0<n)→t=(List.replicate W 0).set o.toNat (min n (p.getD o.toNat 0))):=by
 have d:Wr (List.replicate W 0) p:=⟨by simp [a.len],λi x y b g=>by
  rw[Adv] at b;split at b
  ·cases b;exact⟨Acj _,a.nn y (Acy g)⟩
  ·cases b⟩
 have q:∀t,Wr t p→Jn N p t=some (t,Jt p t):=λt B=>by
  unfold Jn;rw[a.wo A v (B.sub a).2.2,Abi]
 have C:List.replicate ((p.length:Int)).toNat (0:Int)=List.replicate W 0:=by rw[a.len];rfl
 unfold ML K0;rw[Kz (by rw[a.len];exact v) _ (by decide),C];by_cases D:0≤o∧o<W
 ·obtain⟨i,rfl⟩:∃i:Nat,o=i:=⟨o.toNat,by omega⟩
  have c:i<p.length:=by rw[a.len];omega
  have s:p.getD i 0=p[i]:=by simp [Acv,c]
  have h0:=a.nn _ (Ab2 c);rw[Abs (show ¬(i:Int)<0 by omega),Abs (show ¬(p.length:Int)≤(i:Int) by omega),Bool.or_self,Abk,BF c,Abi,Abi,Abs (show ¬p[i]<0 by omega),Abk,Abi,Abi];rw[Acs,s];by_cases w:0<min n p[i]
  ·rw[Ab3 w,Abj,BF (show i<(List.replicate W (0:Int)).length by simp;omega),Abi,Abi];have z:Wr ((List.replicate W (0:Int)).set i (min n p[i])) p:=⟨by simp [a.len],λj x y b g=>by
    by_cases l:i=j
    ·subst l;rw[Adw (by simp;omega)] at b;rw[Abw c] at g;cases b;cases g;omega
    ·rw[Ads l] at b;exact d.le j x y b g⟩
   exact⟨_,q _ z,z,.inr ⟨i,rfl,by omega,by omega,by rw[s];omega,by rw[s];rfl⟩,λ_=>rfl⟩
  ·rw[Abs w,Abk];refine⟨_,q _ d,d,.inl rfl,λ⟨j,F,u,H⟩=>?_⟩;have:min n p[i]=0:=by omega
   rw[this];apply Acr;intro k;by_cases m:i=k
   ·subst m;rw[Adw (by simp;omega),Adv,Abm (by omega)]
   ·rw[Ads m]
 ·have G:(decide (o<0)||decide ((p.length:Int)≤o))=true:=by
   rw[a.len];simp only[Aca,Ab6];omega
  rw[G,Abj,Abi,Abj,Abi,Abs (show ¬0<min n 0 by omega),Abk];exact⟨_,q _ d,d,.inl rfl,λ⟨j,F,u,_⟩=>absurd ⟨by omega,by omega⟩ D⟩
end Go.Proofs.YtabonambpbofgaaGreat
