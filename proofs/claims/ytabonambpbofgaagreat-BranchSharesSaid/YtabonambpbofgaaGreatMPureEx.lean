import Derived.Test.YtabonambpbofgaaGreatMPureRight2
namespace Go.Proofs.YtabonambpbofgaaGreat
set_option linter.all false
open Go.RowKit
def cP (N:Nat) (n z:Int):Fq N n z=some (cO n 0 (BO (z-1))):=rfl
structure Uy (b:AF) (t:Kc):Prop where
 place:0≤t.Ap∧t.Ap<b.A.length
 flood:Jc t.Bp
 lead:0≤t.Bn∧t.Bn≤24
 watch:Jc t.Bq
 quorum:0≤t.Bm∧t.Bm≤128
def aG {N:Nat}(w:1000<N) (b:AF) (a:Ig b):∃v,Ie N b=some v∧(v=true→∀t∈b.Af,Uy b t):=by
 have x:=a.pl;have y:=a.to;have z:=a.sh;have j:Df (EW N b):=by
  unfold EW;rcases Jd b.Ak.length (EU N b (GX N)) (GX N) (λ_=>True) (λn k D=>by
   simp only[EU];rw[Ft D];rfl) (λn k D=>by
   simp only[EU];rw[FW D,Aaq,BB D];simp only[Aap,NV,A9 (show k<4611686018427387904 by omega)];cases cO (b.Ak[k]).Aj 0 1073741824
   ·exact .inl rfl
   ·exact .inr ⟨trivial,rfl⟩) N 0 (by omega) (Aaw _) with D|⟨_,D⟩
  ·exact⟨_,D⟩
  ·exact⟨true,D⟩
 unfold Ie;rcases Jd b.Af.length (EV N b (EW N b)) (EW N b) (λi=>∀t,b.Af[i]? =some t→Uy b t) (λn k D=>by
  simp only[EV];rw[Ft D];rfl) (λn k D=>by
  simp only[EV];rw[FW D,Aaq,BB D];simp only[Aap,NV,L8,QZ N _ (show b.A.length<4611686018427387904 by omega),Gh,LW,A9 (show k<4611686018427387904 by omega)];generalize d:(_|| !cO (b.Af[k]).Bm 0 128)=B
  cases B
  ·simp only[Abk,Ac4] at d;obtain⟨⟨⟨⟨⟨l,m⟩,o⟩,C⟩,p⟩,q⟩:=d;refine .inr ⟨λt c=>?_,rfl⟩;have:t=b.Af[k]:=by simpa [D] using c.symm
   rw[this];have s:=Kw l;exact⟨⟨s.1,by omega⟩,Ky m,Kw o,Ky p,Kw q⟩
  ·exact .inl rfl) N 0 (by omega) (Aaw _) with D|⟨hp,D⟩
 ·exact⟨false,D,λD=>by cases D⟩
 ·obtain⟨v,u⟩:=j;refine⟨v,D.trans u,λ_ t c=>?_⟩;obtain⟨i,g,rfl⟩:=Aef.1 c;exact hp i (Aaw _) g _ (by simp [g])
def ZJ {N:Nat}(j:1000<N) (b:AF) (c:Ig b):Df (H4 N b):=by
 have m:=c.ga;unfold H4;rcases Jd b.Ah.length (EH N b (GC N)) (GC N) (λ_=>True) (λn k o=>by
  simp only[EH];rw[Ft o];rfl) (λn k o=>by
  simp only[EH];rw[FW o,Aaq,BB o];simp only[Aap,NV,cP,Gh,LW,A9 (show k<4611686018427387904 by omega)];generalize a:(_|| !cO (b.Ah[k]).Br 0 1440)=B
  cases B
  ·simp only[Abk,Ac4] at a;have d:=Kw a.1.1;obtain⟨z,g⟩:=Df.ix (l:=[(b.A.length:Int),b.J,(b.C.length:Int)]) (i:=(b.Ah[k]).F) d.1 (by simp;omega);rw[g];simp only[Aar,Aap];cases cO (b.Ah[k]).Aa 0 (BO (z-1))
   ·exact .inl rfl
   ·exact .inr ⟨trivial,rfl⟩
  ·exact .inl rfl) N 0 (by omega) (Aaw _) with o|⟨_,o⟩
 ·exact⟨_,o⟩
 ·exact⟨true,o⟩
def bJ {N:Nat}(d:1000<N) (b:AF) (a:Ig b):Df (If N b):=by
 have g:=a.ro;unfold If;rcases Jd b.Ai.length (EY N b (GY N)) (GY N) (λ_=>True) (λn k i=>by
  simp only[EY];rw[Ft i];rfl) (λn k i=>by
  simp only[EY];rw[FW i,Aaq,BB i];simp only[Aap,NV,L8,cP,Gh,LW,Pz,A9 (show k<4611686018427387904 by omega)];generalize (_|| !TS (b.Ai[k]).Bk)=B
  cases B
  ·simp only[Aar];generalize ((decide ((b.Ai[k]).Bi= -1)&&decide ((b.Ai[k]).Bk≠0))||_)=c
   cases c
   ·exact .inr ⟨trivial,rfl⟩
   ·exact .inl rfl
  ·exact .inl rfl) N 0 (by omega) (Aaw _) with i|⟨_,i⟩
 ·exact⟨_,i⟩
 ·exact⟨true,i⟩
structure Jw (b:AF):Prop where
 head:Ig b
 places:∀p∈b.A,Il b p
 links:∀l∈b.C,KA b l
 towns:∀t∈b.Af,Uy b t
def chainB {b:Bool}{x:Option Bool}{f:Bool→Option Bool}(Q:Prop) {G:Option Bool→Prop}(i:b=true→∃v,x=some v∧(v=true→Q)) (k:∀c,(c=true→b=true∧Q)→G (f c)):G ((cond b (x.bind λy=>some y) (some false)).bind f):=by
 cases b
 ·exact k false λi=>by cases i
 ·obtain⟨v,a,d⟩:=i rfl;rw[a];exact k v λg=>⟨rfl,d g⟩
def Df.q {x:Option Bool}(b:Df x):∃v,x=some v∧(v=true→True):=by obtain⟨v,a⟩:=b;exact⟨v,a,λ_=>trivial⟩
def Vi {N:Nat}(s:18446744073709551616<N) (b:AF):∃v,Gg N b=some v∧(v=true→Jw b):=by
 have a:1000<N:=by omega
 unfold Gg;obtain⟨H,z,k⟩:=iE a b;rw[z];simp only[Aap];refine chainB True (G:=λx=>∃v,x=some v∧(v=true→Jw b)) (λU=>(bV a (k U)).q) λI u=>?_;refine chainB (∀p∈b.A,Il b p) (G:=λx=>∃v,x=some v∧(v=true→Jw b)) (λU=>Y8 a b (k (u U).1)) λB w=>?_;have m:B=true→Ig b∧∀p∈b.A,Il b p:=λU=>⟨k (u (w U).1).1,(w U).2⟩
 refine chainB (∀l∈b.C,KA b l) (G:=λx=>∃v,x=some v∧(v=true→Jw b)) (λU=>cB s b (m U).1) λD n=>?_;have c:D=true→Ig b∧(∀p∈b.A,Il b p)∧∀l∈b.C,KA b l:=λU=>⟨(m (n U).1).1,(m (n U).1).2,(n U).2⟩
 refine chainB True (G:=λx=>∃v,x=some v∧(v=true→Jw b)) (λU=>(Ws a b (c U).1 (c U).2.1 (c U).2.2).q) λJ g=>?_;refine chainB True (G:=λx=>∃v,x=some v∧(v=true→Jw b)) (λU=>(Yw s b (c (g U).1).1 (c (g U).1).2.1 (c (g U).1).2.2).q) λK i=>?_;refine chainB (∀t∈b.Af,Uy b t) (G:=λx=>∃v,x=some v∧(v=true→Jw b)) (λU=>aG a b (c (g (i U).1).1).1) λM j=>?_;refine chainB True (G:=λx=>∃v,x=some v∧(v=true→Jw b)) (λU=>(ZJ a b (c (g (i (j U).1).1).1).1).q) λQ o=>?_;refine chainB True (G:=λx=>∃v,x=some v∧(v=true→Jw b)) (λU=>(bJ a b (c (g (i (j (o U).1).1).1).1).1).q) λF y=>?_;refine⟨F,rfl,λU=>?_⟩;have d:=c (g (i (j (o (y U).1).1).1).1).1;exact⟨d.1,d.2.1,d.2.2,(j (o (y U).1).1).2⟩
def GO {σ q:Type}(L:Nat) (f:Nat→Int→σ→Option q) (kj:σ→Option q) (I:Nat→σ→Prop) (a:∀n (k:Nat) s,L≤k→f (n+1) (k:Int) s=kj s) (b:∀n (k:Nat) s,I k s→k<L→∃s',I (k+1) s'∧f (n+1) (k:Int) s=f n ((k+1:Nat):Int) s'):
  ∀n (k:Nat) s,I k s→L<n+k→k≤L→∃s',I L s'∧f n (k:Int) s=kj s'
 |0,k,s,_,t,g=>by omega
 |n+1,k,s,d,t,g=>by
  rcases Abb k L with c|c
  ·obtain⟨i,j,l⟩:=b n k s d c;obtain⟨m,o,p⟩:=GO L f kj I a b n (k+1) i j (by omega) (by omega);exact⟨m,o,l.trans p⟩
  ·have:k=L:=by omega
   subst this;exact⟨s,d,a n k s c⟩
def My {σ l:Type}(L:Nat) (f:Nat→Int→σ→Option l) (kj:σ→Option l) (c:Option l) (I:Nat→σ→Prop) (a:∀n (k:Nat) s,L≤k→f (n+1) (k:Int) s=kj s) (b:∀n (k:Nat) s,I k s→k<L→f (n+1) (k:Int) s=c∨∃s',I (k+1) s'∧f (n+1) (k:Int) s=f n ((k+1:Nat):Int) s'):
  ∀n (k:Nat) s,I k s→L<n+k→k≤L→f n (k:Int) s=c∨∃s',I L s'∧f n (k:Int) s=kj s'
 |0,k,s,_,m,j=>by omega
 |n+1,k,s,i,m,j=>by
  rcases Abb k L with d|d
  ·rcases b n k s i d with h0|⟨s1,i1,h1⟩
   ·exact .inl h0
   ·rcases My L f kj c I a b n (k+1) s1 i1 (by omega) (by omega) with g|⟨s2,i2,g⟩
    ·exact .inl (h1.trans g)
    ·exact .inr ⟨s2,i2,h1.trans g⟩
  ·have:k=L:=by omega
   subst this;exact .inr ⟨s,i,a n k s d⟩
def Vv (L:Nat) (f:Nat→Int→Option Bool) (kj:Option Bool) (c:Nat→Bool) (a:∀n (k:Nat),L≤k→f (n+1) (k:Int)=kj) (b:∀n (k:Nat),k<L→f (n+1) (k:Int)=cond (c k) (f n ((k+1:Nat):Int)) (some false)):
  ∀n (k:Nat),L<n+k→k≤L→((∀i,k≤i→i<L→c i=true)∧f n (k:Int)=kj)∨((∃i,k≤i∧i<L∧c i=false)∧f n (k:Int)=some false)
 |0,k,s,p=>by omega
 |n+1,k,s,p=>by
  rcases Abb k L with j|j
  ·have d:=b n k j;cases l:c k with
   |false=>rw[l] at d;exact .inr ⟨⟨k,Aa7 _,j,l⟩,d⟩
   |true=>
    rw[l] at d;rcases Vv L f kj c a b n (k+1) (by omega) (by omega) with ⟨o,m⟩|⟨⟨i,o,m,h4⟩,h5⟩
    ·refine .inl ⟨λi q g=>?_,d.trans m⟩;by_cases e:i=k
     ·subst e;exact l
     ·exact o i (by omega) g
    ·exact .inr ⟨⟨i,by omega,m,h4⟩,d.trans h5⟩
  ·exact .inl ⟨λi q g=>by omega,a n k j⟩
def KR {l:List Int}{k:Nat}(a:k<l.length):(l.take (k+1)).sum=(l.take k).sum+l[k]:=by
 rw[Ab9 a,Acm];simp
def KN:∀{l:List Int},(∀x∈l,0≤x)→0≤l.sum
 |[],_=>by simp
 |a::l,g=>by
  have c:=g a (Abf ..);have d:=KN (l:=l) λx b=>g x (Abs _ b);simp only[Ab4];omega
def Jb {l:List Int}(g:∀x∈l,0≤x) (k:Nat):0≤(l.take k).sum∧(l.take k).sum≤l.sum:=by
 have b:=KN (l:=l.take k) λx a=>g x (Aeg a);have c:=KN (l:=l.drop k) λx a=>g x (List.mem_of_mem_drop a);have d:(l.take k).sum+(l.drop k).sum=l.sum:=by rw[←Acm,List.take_append_drop]
 omega
def Uw (N:Nat) {a b:Int}(l: -4611686018427387903≤a) (m:a≤4611686018427387903) (n: -4611686018427387903≤b) (o:b≤4611686018427387903):Hn N a b=some (a+b):=by
 unfold Hn;have d:BO (a+b)=a+b:=D5 (by omega) (by omega);by_cases p:0<b
 ·have i:BO (9223372036854775807-b)=9223372036854775807-b:=D5 (by omega) (by omega);rw[i,d];have g:decide (9223372036854775807-b<a)=false:=by simp;omega
  have c:decide (b<0)=false:=by simp;omega
  rw[g,c];simp
 ·have g:decide (0<b)=false:=by simp;omega
  rw[g];by_cases j:b<0
  ·have k:BO (-9223372036854775808-b)= -9223372036854775808-b:=D5 (by omega) (by omega);have c:decide (a< -9223372036854775808-b)=false:=by simp;omega
   rw[k,d,c];simp
  ·have c:decide (b<0)=false:=by simp;omega
   rw[c,d];simp
def aO (N:Nat) {a b:Int}(l: -4611686018427387903≤a) (m:a≤4611686018427387903) (n: -4611686018427387903≤b) (o:b≤4611686018427387903):HR N a b=some (a-b):=by
 unfold HR;have d:BO (a-b)=a-b:=D5 (by omega) (by omega);by_cases p:b<0
 ·have i:BO (9223372036854775807+b)=9223372036854775807+b:=D5 (by omega) (by omega);have g:decide (9223372036854775807+b<a)=false:=by simp;omega
  have c:decide (0<b)=false:=by simp;omega
  rw[i,d,g,c];simp
 ·have g:decide (b<0)=false:=by simp;omega
  rw[g];by_cases j:0<b
  ·have k:BO (-9223372036854775808+b)= -9223372036854775808+b:=D5 (by omega) (by omega);have c:decide (a< -9223372036854775808+b)=false:=by simp;omega
   rw[k,d,c];simp
  ·have c:decide (0<b)=false:=by simp;omega
   rw[c,d];simp
def Lc {α}{l:List α}{k:Nat}(d:k<l.length) {P:α→Prop}(b:∀x∈l.take k,P x) (c:P l[k]):∀x∈l.take (k+1),P x:=by
 intro x a;rw[Ab9 d,Abp] at a;rcases a with a|a
 ·exact b x a
 ·simp only[Ab0] at a;subst a;exact c
def Q0 {α}{f:α→Int}{l:List α}{k:Nat}(a:k<l.length):((l.take (k+1)).map f).sum=((l.take k).map f).sum+f l[k]:=by
 rw[Ab9 a,Ach,Acm];simp
def R4 {α}{f:α→Int}{l:List α}(c:∀x∈l,0≤f x):0≤(l.map f).sum:=KN λy a=>by
 obtain⟨x,b,rfl⟩:=Abm.1 a;exact c x b
def GI {n a:Nat}(c:n*a≤175921860444160) {α}(x:Option α) (b:a≤274877906944:=by decide):chk (HJ n a) x=x:=by
 unfold chk HJ;rw[Aba c,Aba b,Bool.and_self,Bool.or_true];rfl
def Nn {g:Type}(L:Nat) (f:Nat→Int→Option g) (kj:Option g) (a:∀n (k:Nat),L≤k→f (n+1) (k:Int)=kj) (b:∀n (k:Nat),k<L→f (n+1) (k:Int)=f n ((k+1:Nat):Int)):
  ∀n (k:Nat),L<n+k→k≤L→f n (k:Int)=kj
 |0,k,i,d=>by omega
 |n+1,k,i,d=>by
  rcases Abb k L with c|c
  ·rw[b n k c];exact Nn L f kj a b n (k+1) (by omega) (by omega)
  ·exact a n k c
def W8 (N:Nat) (a b:Int):Df (Hn N a b):=by
 unfold Hn;exact Df.cond (λ_=>Df.mk _) λ_=>Df.cond (λ_=>Df.mk _) λ_=>Df.mk _
def SP (N:Nat) (a b:Int):Df (HR N a b):=by
 unfold HR;exact Df.cond (λ_=>Df.mk _) λ_=>Df.cond (λ_=>Df.mk _) λ_=>Df.mk _
def K2 {k:Nat}(b:k≤1000) (c:Nat) (a:c≤1000) {α}(x:Option α):chk (K3 (k:Int) (k:Int) c) x=x:=by
 have:K3 (k:Int) (k:Int) c=true:=by
  simp only[K3,Aax,Abd];refine⟨⟨by omega,by omega⟩,?_⟩;have:(c:Int)*(k:Int)≤1000*1000:=Int.mul_le_mul (by omega) (by omega) (by omega) (by omega);omega
 rw[this];rfl
def Aac {α}{l:List α}{i:Nat}(a:i<l.length):∃x,ix l (i:Int)=some x∧x∈l:=⟨l[i],BB a,Aa9 a⟩
def iY {α}(l xs:List α):(PI l xs).length=l.length:=by unfold PI;simp;omega
def dN {α}{l xs:List α}(a:l.length=xs.length):PI l xs=xs:=by
 unfold PI;rw[a,Abu,List.drop_of_length_le (by omega),Ab2]
def Nk (k:Nat) (z:Int):(List.replicate ((k:Int)).toNat z).length=k:=by simp
def QP {α}(k:Nat) (z:α):(List.replicate ((k:Int)).toNat z).length=k:=by simp
def Un (p:List Int):PI (List.replicate ((p.length:Int)).toNat (0:Int)) p=p:=dN (by simp)
def Ma {α}(l:List α) (i:Int) (x:α):(upd l i x).length=l.length:=by simp [upd]
def MY (N:Nat) {p:List Int}(a:p.length≤1000000):BG N p=some p:=by
 unfold BG;rw[GI (by simp;omega)];rfl
def W0 (N:Nat) {p:List A0}(a:p.length≤1000000):BR N p=some p:=by
 unfold BR;rw[GI (by simp;omega)];rfl
def bS {N:Nat}(l:8000000000000<N) {p q:List Int}(m:p.length≤1000) (o:q.length≤1000):∃r,HY N p q=some r∧r.length=max p.length q.length:=by
 unfold HY;have c:max (p.length:Int) (q.length:Int)=((max p.length q.length:Nat):Int):=by omega
 rw[c,K2 (by omega) _ (by decide)];obtain⟨s,d,e⟩:=GO q.length (λn i s=>Gc N q (IG N) n i s) (IG N) (λ_ s=>s.length=max p.length q.length) (λn k s a=>by
  simp only[Gc];rw[Ft a];rfl) (λn k s g a=>by
  simp only[Gc];have b:k<s.length:=by omega
  obtain⟨v,j⟩:=W8 N s[k] q[k];rw[FW a,Aaq,BB a];simp only[BB b,Aap];rw[j,Aap,A9 (by omega)];exact⟨_,by rw[Ma];exact g,rfl⟩) N 0 (PI (List.replicate (((max p.length q.length:Nat):Int)).toNat (0:Int)) p) (by rw[iY,Nk]) (by omega) (Aaw _)
 exact⟨s,e,d⟩
def Y7 {N:Nat}(l:8000000000000<N) {p:List Int}(m:p.length≤1000):∃v,I5 N p=some v∧(v=true→(∀x∈p,0≤x)∧p.sum≤1125899906842624):=by
 unfold I5;rcases My p.length (λn i s=>E9 N p (HN N) n s i) (λ_=>HN N) (some false) (λk s=>(∀x∈p.take k,0≤x)∧s=(p.take k).sum∧s≤1125899906842624∧0≤s) (λn k s a=>by
  simp only[E9];rw[Ft a];rfl) (λn k s d a=>by
  obtain⟨b,c,g,o⟩:=d;simp only[E9];rw[FW a,Aaq,BB a,Aap,D5 (n:=1125899906842624-s) (by omega) (by omega)];cases j:(decide (p[k]<0)||decide (1125899906842624-s<p[k]))
  ·simp only[Abk,Abe] at j;rw[Aar,A9 (by omega),D5 (n:=s+p[k]) (by omega) (by omega)];exact .inr ⟨_,⟨Lc a b (by omega),by rw[KR a,c],by omega,by omega⟩,rfl⟩
  ·exact .inl rfl) N 0 0 ⟨by simp,rfl,by decide,by decide⟩ (by omega) (Aaw _) with e|⟨s,⟨b,c,g,_⟩,e⟩
 ·exact⟨false,e,λq=>by cases q⟩
 ·rw[Abu] at b c;exact⟨true,e,λ_=>⟨b,by omega⟩⟩
def iK {t t' n d:Int}(hd:0≤d) (a:0≤n) (b:t≤t'):t*n/d≤t'*n/d:=by
 rcases Int.lt_or_eq_of_le hd with c|c
 ·exact Int.ediv_le_ediv c (Adi b a)
 ·rw[←c];simp
def V0 {t n d:Int}(hd:0≤d) (a:0≤n) (b:0≤t):0≤t*n/d:=Int.ediv_nonneg (Int.mul_nonneg b a) hd
def cW {t n d:Int}(hd:0≤d) (b:n≤d) (a:0≤t):t*n/d≤t:=by
 rcases Int.lt_or_eq_of_le hd with h0|h0
 ·refine Int.ediv_le_of_le_mul h0 (Int.mul_le_mul_of_nonneg_left b a)
 ·rw[←h0];simp [a]
def xM (e:List BU):Prop:=∀k l r,e[k]? =some l→e[k+1]? =some r→l.P<r.P∧l.X≤r.X
def Im.vol {c:List BU}(b:Im c) {k:Nat}{p:BU}(a:c[k]? =some p):Jc p.P∧Jc p.X:=⟨(b.2.2 k p a).1,(b.2.2 k p a).2.1⟩
def Im.step {c:List BU}(d:Im c) {k:Nat}{p q:BU}(a:c[k]? =some p) (b:c[k+1]? =some q):p.P<q.P∧p.X≤q.X:=(d.2.2 (k+1) q b).2.2 p (by omega) a
def xM.mono {e:List BU}(s:xM e) {i:Nat}:∀{j:Nat}{a b:BU},i≤j→e[i]? =some a→e[j]? =some b→a.P≤b.P∧a.X≤b.X∧(i<j→a.P<b.P)
 |j,a,b,l,g,d=>by
  rcases Abb i j with n|hge
  ·obtain⟨j,rfl⟩:∃m,j=m+1:=⟨j-1,by omega⟩
   have o:=(Aa4.1 d).1;obtain⟨c,k⟩:∃c,e[j]? =some c:=⟨e[j],by simp [show j<e.length by omega]⟩
   have p:=xM.mono s (j:=j) (by omega) g k;have q:=s j c b k d;exact⟨by omega,by omega,λ_=>by omega⟩
  ·have:i=j:=by omega
   subst this;rw[g] at d;cases d;exact⟨Abo _,Abo _,λs=>by omega⟩
structure xF (e:List BU) (x:Int) (k:Nat) (l r:BU):Prop where
 l_:e[k]? =some l
 r_:e[k+1]? =some r
 lo:l.P≤x
 hi:x<r.P
def Rk (l r:BU) (x:Int):Int:=l.X+(x-l.P)*(r.X-l.X)/(r.P-l.P)
def Yq (l r:BU) (x:Int):Int:=(x-l.P)*(r.X-l.X)%(r.P-l.P)
def xF.bounds {e:List BU}(m:xM e) {x:Int}{k:Nat}{l r:BU}(a:xF e x k l r):l.X≤Rk l r x∧Rk l r x≤r.X:=by
 have b:=m k l r a.l_ a.r_;have c:=a.lo;have g:=a.hi;have i:=V0 (t:=x-l.P) (n:=r.X-l.X) (d:=r.P-l.P) (by omega) (by omega) (by omega);have j:(x-l.P)*(r.X-l.X)/(r.P-l.P)≤r.X-l.X:=by
  refine Int.ediv_le_of_le_mul (by omega) ?_;rw[Int.mul_comm];exact Int.mul_le_mul_of_nonneg_left (by omega) (by omega)
 unfold Rk;omega
def xF.mono {e:List BU}(v:xM e) {x c:Int}{k g:Nat}{l r i r':BU}(a:xF e x k l r) (b:xF e c g i r') (u:x≤c):Rk l r x≤Rk i r' c:=by
 rcases Nat.lt_trichotomy k g with m|heq|hgt
 ·have j:=v.mono (show k+1≤g by omega) a.r_ b.l_;have o:=(a.bounds v).2;have p:=(b.bounds v).1;omega
 ·subst heq;have q:=a.l_.symm.trans b.l_;have s:=a.r_.symm.trans b.r_;cases q;cases s;have j:=v k l r a.l_ a.r_;have:=iK (t:=x-l.P) (t':=c-l.P) (n:=r.X-l.X) (d:=r.P-l.P) (by omega) (by omega) (by omega);unfold Rk;omega
 ·have j:=v.mono (show g+1≤k by omega) b.r_ a.l_;have o:=a.lo;have p:=b.hi;omega
def zJ (e:List BU) (s:Int):Prop:=∀k l r,e[k]? =some l→e[k+1]? =some r→(r.X-l.X)*1099511627776≤s*(r.P-l.P)
def zJ.mono {e:List BU}{s:Int}(t:zJ e s) {i:Nat}:∀{j:Nat}{a b:BU},i≤j→e[i]? =some a→e[j]? =some b→(b.X-a.X)*1099511627776≤s*(b.P-a.P)
 |j,a,b,l,g,d=>by
  rcases Abb i j with n|hge
  ·obtain⟨j,rfl⟩:∃m,j=m+1:=⟨j-1,by omega⟩
   have o:=(Aa4.1 d).1;obtain⟨c,k⟩:∃c,e[j]? =some c:=⟨e[j],by simp [show j<e.length by omega]⟩
   have p:=zJ.mono t (j:=j) (by omega) g k;have q:=t j c b k d;grind
  ·have:i=j:=by omega
   subst this;rw[g] at d;cases d;grind
def oN {a n d:Int}(b:0≤a∧a≤1125899906842624) (c:0≤n∧n≤1125899906842624) (g:1≤d∧d≤1125899906842624) (i:a*n/d≤1125899906842624):uD a n d=(a*n/d,a*n%d,true):=by
 unfold uD;rw[Aav ⟨b,c,g,i⟩]
def Py {N:Nat}(i:33<N) {c:List BU}(o:Im c):FH N c=some true:=by
 unfold FH;have j:=o.1;have l:=o.2.1;rw[show (decide ((c.length:Int)<1)||decide (32<(c.length:Int)))=false by simp;omega,Aar];exact Nn c.length (FG N c (Ha N)) (Ha N) (λn k a=>by
  simp only[FG];rw[Ft a];rfl) (λn k a=>by
  have b:c[k]? =some c[k]:=by simp [a]
  have v:=o.vol b;unfold Jc at v;simp only[FG];rw[FW a,Aaq,BB a,Aap,show(((decide ((c[k]).P<0)||decide (1125899906842624<(c[k]).P))||decide ((c[k]).X<0))||decide (1125899906842624<(c[k]).X))=false by simp only[Abk,Abe];omega,Aar,A9 (by omega)];by_cases h0:k=0
  ·subst h0;rfl
  ·have d:c[k-1]? =some c[k-1]:=by simp
   have m:=o.step d (q:=c[k]) (by rw[show k-1+1=k by omega];exact b);have g:BO ((k:Int)-1)=((k-1:Nat):Int):=by rw[D5 (by omega) (by omega)];omega
   rw[show decide ((0:Int)<(k:Int))=true by simp;omega,Aaq,g,BB (show k-1<c.length by omega)];simp only[Aap];rw[show decide ((c[k]).P≤(c[k-1]).P)=false by simp only[Abe];omega,show decide ((c[k]).X<(c[k-1]).X)=false by simp only[Abe];omega];rfl) N 0 (by omega) (Aaw _)
def Vw (l r:BU) (x:Int):Int:=l.X*(r.P-l.P)+(x-l.P)*(r.X-l.X)
def Tj {l r:BU}(a:l.P<r.P) (x:Int):Rk l r x*(r.P-l.P)+Yq l r x=Vw l r x:=by
 have:=Int.ediv_mul_add_emod ((x-l.P)*(r.X-l.X)) (r.P-l.P);unfold Rk Yq Vw;grind
def XT {l r:BU}(a:l.P<r.P) (x:Int):0≤Yq l r x∧Yq l r x<r.P-l.P:=⟨Int.emod_nonneg _ (by omega),Int.emod_lt_of_pos _ (by omega)⟩
def mU (l r a r':BU) (x:Int):Prop:=Vw l r x*(r'.P-a.P)≤Vw a r' x*(r.P-l.P)
def mU.mid {l r b r':BU}{x u v:Int}(c:mU l r b r' u) (d:mU l r b r' v) (i:u≤x) (j:x≤v) (g:u<v):mU l r b r' x:=by
 unfold mU Vw at*;have k:=Adi c (show 0≤v-x by omega);have m:=Adi d (show 0≤x-u by omega);refine Int.le_of_mul_le_mul_right (a:=v-u) ?_ (by omega);grind
def mU.val {l r c r':BU}{x:Int}(z:mU l r c r' x) (j:l.P<r.P) (g:c.P<r'.P):Rk l r x≤Rk c r' x:=by
 have k:=Tj j x;have n:=Tj g x;have o:=XT j x;have p:=XT g x;unfold mU at z;rw[←k,←n] at z;refine Int.not_lt.1 λt=>?_;generalize Rk l r x=a at*
 generalize Rk c r' x=b at*
 generalize Yq l r x=m at*
 generalize Yq c r' x=q at*
 have s:0<r.P-l.P:=by omega
 have u:0<r'.P-c.P:=by omega
 generalize r.P-l.P=d at*
 generalize r'.P-c.P=i at*
 have v:(b+1)*(d*i)≤a*(d*i):=Adi (by omega) (Int.mul_nonneg (by omega) (by omega));have w:0≤m*i:=Int.mul_nonneg o.1 (by omega);have y:q*d<i*d:=Int.mul_lt_mul_of_pos_right p.2 s;grind
def HS {α}{l:List α}{k:Nat}(a:k<l.length) (x:α):(upd l (k:Int) x)[k]? =some x:=by
 simp [upd,a]
def JL {α}{l:List α}{k j:Nat}(a:k≠j) (x:α):(upd l (k:Int) x)[j]? =l[j]? :=by
 simp [upd,Acw a]
def Hf (p q:List Int):List Int:=List.zipWith (· + ·) p q
def Ja (p q:List Int):List Int:=List.zipWith (· - ·) p q
def QC {p q:List Int}{W:Nat}(a:p.length=W) (b:q.length=W):(Hf p q).length=W:=by simp [Hf,a,b]
def Zm {p q:List Int}{W:Nat}(a:p.length=W) (b:q.length=W):(Ja p q).length=W:=by simp [Ja,a,b]
def Lj:∀{p q:List Int},p.length=q.length→(Hf p q).sum=p.sum+q.sum
 |[],[],_=>rfl
 |a::p,b::q,c=>by
  have:=Lj (p:=p) (q:=q) (by simpa using c);simp only[Hf,List.zipWith_cons_cons,Ab4] at this ⊢;omega
def VP:∀{p q:List Int},p.length=q.length→(Ja p q).sum=p.sum-q.sum
 |[],[],_=>rfl
 |a::p,b::q,c=>by
  have:=VP (p:=p) (q:=q) (by simpa using c);simp only[Ja,List.zipWith_cons_cons,Ab4] at this ⊢;omega
structure PX (W:Nat) (p:List Int):Prop where
 len:p.length=W
 nn:∀x∈p,0≤x
 mv:p.sum≤1125899906842624
def JH:∀{p:List Int},(∀x∈p,0≤x)→∀x∈p,x≤p.sum
 |a::p,g,x,b=>by
  have h0:=KN (l:=p) λy c=>g y (Abs _ c);have d:=g a (Abf ..);rw[Ab4];rcases Aay.1 b with rfl|b
  ·omega
  ·have:=JH (p:=p) (λy c=>g y (Abs _ c)) x b;omega
def PX.mem {W:Nat}{p:List Int}(b:PX W p) {x:Int}(a:x∈p):0≤x∧x≤1125899906842624:=⟨b.nn x a,Int.le_trans (JH b.nn x a) b.mv⟩
def PX.sum0 {W:Nat}{p:List Int}(a:PX W p):0≤p.sum:=KN a.nn
def Ry {p q:List Int}(d:∀x∈p,0≤x) (g:∀x∈q,0≤x):∀x∈Hf p q,0≤x:=λx j=>by
 obtain⟨i,c⟩:=Acv.1 j;rw[Hf,Ac0] at c;split at c
 ·rename_i a b k l;have:=d a (Ab3 k);have:=g b (Ab3 l);cases c;omega
 ·cases c
def PX.add {W:Nat}{p q:List Int}(a:PX W p) (b:PX W q) (c:p.sum+q.sum≤1125899906842624):PX W (Hf p q):=
 ⟨QC a.len b.len,Ry a.nn b.nn,by rw[Lj (a.len.trans b.len.symm)];exact c⟩
def PX.zero (W:Nat):PX W (List.replicate W 0):=⟨by simp,λx a=>by rw[(List.mem_replicate.1 a).2];exact Abo 0,by simp⟩
def Xh (W:Nat):(List.replicate W (0:Int)).sum=0:=by simp
structure WW (t p:List Int):Prop where
 len:t.length=p.length
 le:∀(i:Nat) (x y:Int),t[i]? =some x→p[i]? =some y→0≤x∧x≤y
def WW.sub {W:Nat}{t p:List Int}(z:WW t p) (j:PX W p):PX W (Ja p t)∧(Ja p t).sum=p.sum-t.sum∧PX W t:=by
 have n:t.length=W:=z.len.trans j.len;have d:∀x∈t,0≤x:=λx k=>by
  obtain⟨i,c⟩:=Acv.1 k;have l:=(Aa4.1 c).1;have m:i<p.length:=by rw[←z.len];exact l
  exact(z.le i x _ c (Aa1 m)).1
 have o:=VP (p:=p) (q:=t) z.len.symm;have g:∀x∈Ja p t,0≤x:=λx k=>by
  obtain⟨i,c⟩:=Acv.1 k;rw[Ja,Ac0] at c;split at c
  ·rename_i a b s u;have:=z.le i b a u s;cases c;omega
  ·cases c
 have v:=KN g;have w:=KN d;have y:=j.mv;exact⟨⟨Zm j.len n,g,by omega⟩,o,n,d,by omega⟩
def Yo {W:Nat}{p t:List Int}(d:p.length=W) (g:t.length=W) (j:∀x∈t,x=0):Ja p t=p:=by
 apply Abw;intro i;rw[Ja,Ac0];rcases Abb i W with b|b
 ·have c:i<p.length:=by omega
  have a:i<t.length:=by omega
  rw[Aa1 c,Aa1 a];have:=j _ (Aa9 a);simp [this]
 ·rw[Abj (show p.length≤i by omega)]
def VM:∀{t:List Int},(∀x∈t,0≤x)→t.sum≤0→∀x∈t,x=0:=λ{t} g b x a=>by
 have c:=JH g x a;have d:=g x a;omega
def VT {N:Nat}(j:8000000000000<N) {p:List Int}(l:p.length≤1000) (h0:∀x∈p,0≤x) (m:p.sum≤2305843009213693952):Es N p=some p.sum:=by
 unfold Es;obtain⟨s,⟨b,c⟩,e⟩:=GO p.length (λn i s=>HO N p (I0 N) n s i) (I0 N) (λk s=>s=(p.take k).sum∧0≤s) (λn k s a=>by
  simp only[HO];rw[Ft a];rfl) (λn k s d a=>by
  obtain⟨b,c⟩:=d;have g:=Jb h0 (k+1);have o:=Jb h0 k;have q:=h0 _ (Aa9 a);rw[KR a] at g;simp only[HO];rw[FW a,Aaq,BB a,Aap,Uw N (by omega) (by omega) (by omega) (by omega),Aap,A9 (by omega)];exact⟨_,⟨by rw[KR a,b],by omega⟩,rfl⟩) N 0 0 ⟨rfl,Abo _⟩ (by omega) (Aaw _)
 rw[Abu] at b;subst b;exact e
def Xn {N:Nat}(y:8000000000000<N) {p q:List Int}(t:p.length≤1000) (z:q.length=p.length) (u:∀x∈p, -2305843009213693952≤x∧x≤2305843009213693952) (v:∀x∈q, -2305843009213693952≤x∧x≤2305843009213693952):HY N p q=some (Hf p q):=by
 unfold HY;have w:max (p.length:Int) (q.length:Int)=(p.length:Int):=by omega
 rw[w,K2 t _ (by decide),Un];obtain⟨s,⟨o,j,l⟩,e⟩:=GO q.length (λn i s=>Gc N q (IG N) n i s) (IG N) (λk s=>s.length=p.length∧(∀i,k≤i→s[i]? =p[i]?)∧∀i,i<k→s[i]? =(Hf p q)[i]?) (λn k s c=>by
  simp only[Gc];rw[Ft c];rfl) (λn k s g c=>by
  obtain⟨o,j,l⟩:=g;simp only[Gc];have a:k<s.length:=by omega
  have b:k<p.length:=by omega
  have m:s[k]=p[k]:=by
   have:=j k (Aa7 _);rw[Aa1 a,Aa1 b] at this;exact Aat this
  have A:=u _ (Aa9 b);have B:=v _ (Aa9 c);rw[FW c,Aaq,BB c,Aap,BB a,Aap,Aap,m,Uw N (by omega) (by omega) (by omega) (by omega),Aap,Aap,Aap,A9 (by omega)];refine⟨_,⟨by rw[Ma];exact o,λi g=>by rw[JL (by omega)];exact j i (by omega),λi g=>?_⟩,rfl⟩;by_cases d:k=i
  ·subst d;rw[HS a,Hf,Ac0,Aa1 b,Aa1 c]
  ·rw[JL d];exact l i (by omega)) N 0 p ⟨rfl,λi _=>rfl,λi g=>by omega⟩ (by omega) (Aaw _)
 have:s=Hf p q:=Abw λi=>by
  rcases Abb i q.length with C|C
  ·exact l i C
  ·rw[Abj (by omega),Abj (by simp [Hf];omega)]
 subst this;exact e
def WZ {N:Nat}(w:8000000000000<N) {p t:List Int}(q:p.length≤1000) (y:t.length=p.length) (u:∀x∈p, -2305843009213693952≤x∧x≤2305843009213693952) (v:∀x∈t, -2305843009213693952≤x∧x≤2305843009213693952):IY N p t=some (Ja p t):=by
 unfold IY;rw[K2 q _ (by decide),Un];obtain⟨s,⟨o,j,l⟩,e⟩:=GO t.length (λn i s=>GR N t (Hs N) n i s) (Hs N) (λk s=>s.length=p.length∧(∀i,k≤i→s[i]? =p[i]?)∧∀i,i<k→s[i]? =(Ja p t)[i]?) (λn k s c=>by
  simp only[GR];rw[Ft c];rfl) (λn k s g c=>by
  obtain⟨o,j,l⟩:=g;simp only[GR];have a:k<s.length:=by omega
  have b:k<p.length:=by omega
  have m:s[k]=p[k]:=by
   have:=j k (Aa7 _);rw[Aa1 a,Aa1 b] at this;exact Aat this
  have z:=u _ (Aa9 b);have A:=v _ (Aa9 c);rw[FW c,Aaq,BB c,Aap,BB a,Aap,Aap,Aap,Aap,m,D5 (n:=p[k]-t[k]) (by omega) (by omega),A9 (by omega)];refine⟨_,⟨by rw[Ma];exact o,λi g=>by rw[JL (by omega)];exact j i (by omega),λi g=>?_⟩,rfl⟩;by_cases d:k=i
  ·subst d;rw[HS a,Ja,Ac0,Aa1 b,Aa1 c]
  ·rw[JL d];exact l i (by omega)) N 0 p ⟨rfl,λi _=>rfl,λi g=>by omega⟩ (by omega) (Aaw _)
 have:s=Ja p t:=Abw λi=>by
  rcases Abb i t.length with B|B
  ·exact l i B
  ·rw[Abj (by omega),Abj (by simp [Ja];omega)]
 subst this;exact e
def PX.big {W:Nat}{p:List Int}(b:PX W p):∀x∈p, -2305843009213693952≤x∧x≤2305843009213693952:=λx a=>by
 have:=b.mem a;omega
def PX.total {N W:Nat}(a:8000000000000<N) (b:W≤1000) {p:List Int}(c:PX W p):Es N p=some p.sum:=VT a (by rw[c.len];exact b) c.nn (by have:=c.mv;omega)
def PX.padd {N W:Nat}(c:8000000000000<N) (d:W≤1000) {p q:List Int}(a:PX W p) (b:PX W q):HY N p q=some (Hf p q):=Xn c (by rw[a.len];exact d) (b.len.trans a.len.symm) a.big b.big
def PX.wo {N W:Nat}(c:8000000000000<N) (d:W≤1000) {p t:List Int}(a:PX W p) (b:PX W t):IY N p t=some (Ja p t):=WZ c (by rw[a.len];exact d) (b.len.trans a.len.symm) a.big b.big
def Nh:∀{l:List Int}{i:Nat}(b:i<l.length) (x:Int),(l.set i x).sum=l.sum-l[i]+x
 |a::l,0,_,x=>by simp;omega
 |a::l,i+1,b,x=>by
  have:=Nh (l:=l) (i:=i) (by simpa using b) x;simp only[List.set_cons_succ,Ab4,List.getElem_cons_succ,this];omega
def iJ {N W:Nat}(A:8000000000000<N) (v:W≤1000) {p:List Int}(a:PX W p) (o n:Int):∃t,Ly N p o n=some (t,Ja p t)∧WW t p∧(t=List.replicate W 0∨∃i:Nat,o=(i:Int)∧i<W∧0<n∧0<p.getD i 0∧t=(List.replicate W 0).set i (min n (p.getD i 0)))∧((∃i:Nat,o=(i:Int)∧i<W∧0<n)→t=(List.replicate W 0).set o.toNat (min n (p.getD o.toNat 0))):=by
 have d:WW (List.replicate W 0) p:=⟨by simp [a.len],λi x y b g=>by
  rw[Ac8] at b;split at b
  ·cases b;exact⟨Abo _,a.nn y (Ab3 g)⟩
  ·cases b⟩
 have q:∀t,WW t p→JS N p t=some (t,Ja p t):=λt B=>by
  unfold JS;rw[a.wo A v (B.sub a).2.2,Aap]
 have C:List.replicate ((p.length:Int)).toNat (0:Int)=List.replicate W 0:=by rw[a.len];rfl
 unfold Ly Kl;rw[K2 (by rw[a.len];exact v) _ (by decide),C];by_cases D:0≤o∧o<W
 ·obtain⟨i,rfl⟩:∃i:Nat,o=i:=⟨o.toNat,by omega⟩
  have c:i<p.length:=by rw[a.len];omega
  have s:p.getD i 0=p[i]:=by simp [Ab1,c]
  have h0:=a.nn _ (Aa9 c);rw[Aaz (show ¬(i:Int)<0 by omega),Aaz (show ¬(p.length:Int)≤(i:Int) by omega),Bool.or_self,Aar,BB c,Aap,Aap,Aaz (show ¬p[i]<0 by omega),Aar,Aap,Aap];rw[Abx,s];by_cases w:0<min n p[i]
  ·rw[Aba w,Aaq,BB (show i<(List.replicate W (0:Int)).length by simp;omega),Aap,Aap];have z:WW ((List.replicate W (0:Int)).set i (min n p[i])) p:=⟨by simp [a.len],λj x y b g=>by
    by_cases l:i=j
    ·subst l;rw[Ac1 (by simp;omega)] at b;rw[Aa1 c] at g;cases b;cases g;omega
    ·rw[Acw l] at b;exact d.le j x y b g⟩
   exact⟨_,q _ z,z,.inr ⟨i,rfl,by omega,by omega,by rw[s];omega,by rw[s];rfl⟩,λ_=>rfl⟩
  ·rw[Aaz w,Aar];refine⟨_,q _ d,d,.inl rfl,λ⟨j,F,u,H⟩=>?_⟩;have:min n p[i]=0:=by omega
   rw[this];apply Abw;intro k;by_cases m:i=k
   ·subst m;rw[Ac1 (by simp;omega),Ac8,Aav (by omega)]
   ·rw[Acw m]
 ·have G:(decide (o<0)||decide ((p.length:Int)≤o))=true:=by
   rw[a.len];simp only[Abh,Abd];omega
  rw[G,Aaq,Aap,Aaq,Aap,Aaz (show ¬0<min n 0 by omega),Aar];exact⟨_,q _ d,d,.inl rfl,λ⟨j,F,u,_⟩=>absurd ⟨by omega,by omega⟩ D⟩
end Go.Proofs.YtabonambpbofgaaGreat
