import Derived.Test.YtabonambpbofgaaGreatNPureRight2
namespace Go.Proofs.YtabonambpbofgaaGreat
set_option linter.all false
open Go.RowKit
def dY (N:Nat) (n z:Int):GF N n z=some (dX n 0 (BT (z-1))):=rfl
structure VV (b:AF) (t:Ku):Prop where
 place:0≤t.Ap∧t.Ap<b.A.length
 flood:J0 t.Bs
 lead:0≤t.Bq∧t.Bq≤24
 watch:J0 t.Bt
 quorum:0≤t.Bp∧t.Bp≤128
def bO {N:Nat}(w:1000<N) (b:AF) (a:II b):∃v,Iv N b=some v∧(v=true→∀t∈b.Af,VV b t):=by
 have x:=a.pl;have y:=a.to;have z:=a.sh;have j:Df (Ek N b):=by
  unfold Ek;rcases J1 b.Ak.length (Ei N b (Gl N)) (Gl N) (λ_=>True) (λn k D=>by
   simp only[Ei];rw[Fj D];rfl) (λn k D=>by
   simp only[Ei];rw[FA D,Acc,BG D];simp only[Acb,N1,BA (show k<4611686018427387904 by omega)];cases dX (b.Ak[k]).Aj 0 1073741824
   ·exact .inl rfl
   ·exact .inr ⟨trivial,rfl⟩) N 0 (by omega) (Aci _) with D|⟨_,D⟩
  ·exact⟨_,D⟩
  ·exact⟨true,D⟩
 unfold Iv;rcases J1 b.Af.length (Ej N b (Ek N b)) (Ek N b) (λi=>∀t,b.Af[i]? =some t→VV b t) (λn k D=>by
  simp only[Ej];rw[Fj D];rfl) (λn k D=>by
  simp only[Ej];rw[FA D,Acc,BG D];simp only[Acb,N1,Mi,Q7 N _ (show b.A.length<4611686018427387904 by omega),Gw,L3,BA (show k<4611686018427387904 by omega)];generalize d:(_|| !dX (b.Af[k]).Bp 0 128)=B
  cases B
  ·simp only[Ac9,Aeu] at d;obtain⟨⟨⟨⟨⟨l,m⟩,o⟩,C⟩,p⟩,q⟩:=d;refine .inr ⟨λt c=>?_,rfl⟩;have:t=b.Af[k]:=by simpa [D] using c.symm
   rw[this];have s:=LN l;exact⟨⟨s.1,by omega⟩,LP m,LN o,LP p,LN q⟩
  ·exact .inl rfl) N 0 (by omega) (Aci _) with D|⟨hp,D⟩
 ·exact⟨false,D,λD=>by cases D⟩
 ·obtain⟨v,u⟩:=j;refine⟨v,D.trans u,λ_ t c=>?_⟩;obtain⟨i,g,rfl⟩:=Af4.1 c;exact hp i (Aci _) g _ (by simp [g])
def Zs {N:Nat}(j:1000<N) (b:AF) (c:II b):Df (IP N b):=by
 have m:=c.ga;unfold IP;rcases J1 b.Ah.length (EV N b (GV N)) (GV N) (λ_=>True) (λn k o=>by
  simp only[EV];rw[Fj o];rfl) (λn k o=>by
  simp only[EV];rw[FA o,Acc,BG o];simp only[Acb,N1,dY,Gw,L3,BA (show k<4611686018427387904 by omega)];generalize a:(_|| !dX (b.Ah[k]).Bu 0 1440)=B
  cases B
  ·simp only[Ac9,Aeu] at a;have d:=LN a.1.1;obtain⟨z,g⟩:=Df.ix (l:=[(b.A.length:Int),b.K,(b.C.length:Int)]) (i:=(b.Ah[k]).G) d.1 (by simp;omega);rw[g];simp only[Acd,Acb];cases dX (b.Ah[k]).Ac 0 (BT (z-1))
   ·exact .inl rfl
   ·exact .inr ⟨trivial,rfl⟩
  ·exact .inl rfl) N 0 (by omega) (Aci _) with o|⟨_,o⟩
 ·exact⟨_,o⟩
 ·exact⟨true,o⟩
def cS {N:Nat}(d:1000<N) (b:AF) (a:II b):Df (Iw N b):=by
 have g:=a.ro;unfold Iw;rcases J1 b.Ai.length (El N b (Gm N)) (Gm N) (λ_=>True) (λn k i=>by
  simp only[El];rw[Fj i];rfl) (λn k i=>by
  simp only[El];rw[FA i,Acc,BG i];simp only[Acb,N1,Mi,dY,Gw,L3,QZ,BA (show k<4611686018427387904 by omega)];generalize (_|| !Tv (b.Ai[k]).Bn)=B
  cases B
  ·simp only[Acd];generalize ((decide ((b.Ai[k]).Bl= -1)&&decide ((b.Ai[k]).Bn≠0))||_)=c
   cases c
   ·exact .inr ⟨trivial,rfl⟩
   ·exact .inl rfl
  ·exact .inl rfl) N 0 (by omega) (Aci _) with i|⟨_,i⟩
 ·exact⟨_,i⟩
 ·exact⟨true,i⟩
structure KG (b:AF):Prop where
 head:II b
 places:∀p∈b.A,I2 b p
 links:∀l∈b.C,KY b l
 towns:∀t∈b.Af,VV b t
def chainB {b:Bool}{x:Option Bool}{f:Bool→Option Bool}(Q:Prop) {G:Option Bool→Prop}(i:b=true→∃v,x=some v∧(v=true→Q)) (k:∀c,(c=true→b=true∧Q)→G (f c)):G ((cond b (x.bind λy=>some y) (some false)).bind f):=by
 cases b
 ·exact k false λi=>by cases i
 ·obtain⟨v,a,d⟩:=i rfl;rw[a];exact k v λg=>⟨rfl,d g⟩
def Df.q {x:Option Bool}(b:Df x):∃v,x=some v∧(v=true→True):=by obtain⟨v,a⟩:=b;exact⟨v,a,λ_=>trivial⟩
def WL {N:Nat}(s:18446744073709551616<N) (b:AF):∃v,Gv N b=some v∧(v=true→KG b):=by
 have a:1000<N:=by omega
 unfold Gv;obtain⟨H,z,k⟩:=jW a b;rw[z];simp only[Acb];refine chainB True (G:=λx=>∃v,x=some v∧(v=true→KG b)) (λU=>(dF a (k U)).q) λI u=>?_;refine chainB (∀p∈b.A,I2 b p) (G:=λx=>∃v,x=some v∧(v=true→KG b)) (λU=>Zi a b (k (u U).1)) λB w=>?_;have m:B=true→II b∧∀p∈b.A,I2 b p:=λU=>⟨k (u (w U).1).1,(w U).2⟩
 refine chainB (∀l∈b.C,KY b l) (G:=λx=>∃v,x=some v∧(v=true→KG b)) (λU=>dK s b (m U).1) λD n=>?_;have c:D=true→II b∧(∀p∈b.A,I2 b p)∧∀l∈b.C,KY b l:=λU=>⟨(m (n U).1).1,(m (n U).1).2,(n U).2⟩
 refine chainB True (G:=λx=>∃v,x=some v∧(v=true→KG b)) (λU=>(XU a b (c U).1 (c U).2.1 (c U).2.2).q) λJ g=>?_;refine chainB True (G:=λx=>∃v,x=some v∧(v=true→KG b)) (λU=>(ZX s b (c (g U).1).1 (c (g U).1).2.1 (c (g U).1).2.2).q) λK i=>?_;refine chainB (∀t∈b.Af,VV b t) (G:=λx=>∃v,x=some v∧(v=true→KG b)) (λU=>bO a b (c (g (i U).1).1).1) λM j=>?_;refine chainB True (G:=λx=>∃v,x=some v∧(v=true→KG b)) (λU=>(Zs a b (c (g (i (j U).1).1).1).1).q) λQ o=>?_;refine chainB True (G:=λx=>∃v,x=some v∧(v=true→KG b)) (λU=>(cS a b (c (g (i (j (o U).1).1).1).1).1).q) λF y=>?_;refine⟨F,rfl,λU=>?_⟩;have d:=c (g (i (j (o (y U).1).1).1).1).1;exact⟨d.1,d.2.1,d.2.2,(j (o (y U).1).1).2⟩
def GK {σ q:Type}(L:Nat) (f:Nat→Int→σ→Option q) (kj:σ→Option q) (I:Nat→σ→Prop) (a:∀n (k:Nat) s,L≤k→f (n+1) (k:Int) s=kj s) (b:∀n (k:Nat) s,I k s→k<L→∃s',I (k+1) s'∧f (n+1) (k:Int) s=f n ((k+1:Nat):Int) s'):
  ∀n (k:Nat) s,I k s→L<n+k→k≤L→∃s',I L s'∧f n (k:Int) s=kj s'
 |0,k,s,_,t,g=>by omega
 |n+1,k,s,d,t,g=>by
  rcases Acy k L with c|c
  ·obtain⟨i,j,l⟩:=b n k s d c;obtain⟨m,o,p⟩:=GK L f kj I a b n (k+1) i j (by omega) (by omega);exact⟨m,o,l.trans p⟩
  ·have:k=L:=by omega
   subst this;exact⟨s,d,a n k s c⟩
def Na {σ l:Type}(L:Nat) (f:Nat→Int→σ→Option l) (kj:σ→Option l) (c:Option l) (I:Nat→σ→Prop) (a:∀n (k:Nat) s,L≤k→f (n+1) (k:Int) s=kj s) (b:∀n (k:Nat) s,I k s→k<L→f (n+1) (k:Int) s=c∨∃s',I (k+1) s'∧f (n+1) (k:Int) s=f n ((k+1:Nat):Int) s'):
  ∀n (k:Nat) s,I k s→L<n+k→k≤L→f n (k:Int) s=c∨∃s',I L s'∧f n (k:Int) s=kj s'
 |0,k,s,_,m,j=>by omega
 |n+1,k,s,i,m,j=>by
  rcases Acy k L with d|d
  ·rcases b n k s i d with h0|⟨s1,i1,h1⟩
   ·exact .inl h0
   ·rcases Na L f kj c I a b n (k+1) s1 i1 (by omega) (by omega) with g|⟨s2,i2,g⟩
    ·exact .inl (h1.trans g)
    ·exact .inr ⟨s2,i2,h1.trans g⟩
  ·have:k=L:=by omega
   subst this;exact .inr ⟨s,i,a n k s d⟩
def WW (L:Nat) (f:Nat→Int→Option Bool) (kj:Option Bool) (c:Nat→Bool) (a:∀n (k:Nat),L≤k→f (n+1) (k:Int)=kj) (b:∀n (k:Nat),k<L→f (n+1) (k:Int)=cond (c k) (f n ((k+1:Nat):Int)) (some false)):
  ∀n (k:Nat),L<n+k→k≤L→((∀i,k≤i→i<L→c i=true)∧f n (k:Int)=kj)∨((∃i,k≤i∧i<L∧c i=false)∧f n (k:Int)=some false)
 |0,k,s,p=>by omega
 |n+1,k,s,p=>by
  rcases Acy k L with j|j
  ·have d:=b n k j;cases l:c k with
   |false=>rw[l] at d;exact .inr ⟨⟨k,Acr _,j,l⟩,d⟩
   |true=>
    rw[l] at d;rcases WW L f kj c a b n (k+1) (by omega) (by omega) with ⟨o,m⟩|⟨⟨i,o,m,h4⟩,h5⟩
    ·refine .inl ⟨λi q g=>?_,d.trans m⟩;by_cases e:i=k
     ·subst e;exact l
     ·exact o i (by omega) g
    ·exact .inr ⟨⟨i,by omega,m,h4⟩,d.trans h5⟩
  ·exact .inl ⟨λi q g=>by omega,a n k j⟩
def Kk {l:List Int}{k:Nat}(a:k<l.length):(l.take (k+1)).sum=(l.take k).sum+l[k]:=by
 rw[Adx a,Ad9];simp
def Ki:∀{l:List Int},(∀x∈l,0≤x)→0≤l.sum
 |[],_=>by simp
 |a::l,g=>by
  have c:=g a (Ac4 ..);have d:=Ki (l:=l) λx b=>g x (Adi _ b);simp only[Adu];omega
def Jy {l:List Int}(g:∀x∈l,0≤x) (k:Nat):0≤(l.take k).sum∧(l.take k).sum≤l.sum:=by
 have b:=Ki (l:=l.take k) λx a=>g x (Af5 a);have c:=Ki (l:=l.drop k) λx a=>g x (List.mem_of_mem_drop a);have d:(l.take k).sum+(l.drop k).sum=l.sum:=by rw[←Ad9,List.take_append_drop]
 omega
def VT (N:Nat) {a b:Int}(l: -4611686018427387903≤a) (m:a≤4611686018427387903) (n: -4611686018427387903≤b) (o:b≤4611686018427387903):H4 N a b=some (a+b):=by
 unfold H4;have d:BT (a+b)=a+b:=EM (by omega) (by omega);by_cases p:0<b
 ·have i:BT (9223372036854775807-b)=9223372036854775807-b:=EM (by omega) (by omega);rw[i,d];have g:decide (9223372036854775807-b<a)=false:=by simp;omega
  have c:decide (b<0)=false:=by simp;omega
  rw[g,c];simp
 ·have g:decide (0<b)=false:=by simp;omega
  rw[g];by_cases j:b<0
  ·have k:BT (-9223372036854775808-b)= -9223372036854775808-b:=EM (by omega) (by omega);have c:decide (a< -9223372036854775808-b)=false:=by simp;omega
   rw[k,d,c];simp
  ·have c:decide (b<0)=false:=by simp;omega
   rw[c,d];simp
def bW (N:Nat) {a b:Int}(l: -4611686018427387903≤a) (m:a≤4611686018427387903) (n: -4611686018427387903≤b) (o:b≤4611686018427387903):Hk N a b=some (a-b):=by
 unfold Hk;have d:BT (a-b)=a-b:=EM (by omega) (by omega);by_cases p:b<0
 ·have i:BT (9223372036854775807+b)=9223372036854775807+b:=EM (by omega) (by omega);have g:decide (9223372036854775807+b<a)=false:=by simp;omega
  have c:decide (0<b)=false:=by simp;omega
  rw[i,d,g,c];simp
 ·have g:decide (b<0)=false:=by simp;omega
  rw[g];by_cases j:0<b
  ·have k:BT (-9223372036854775808+b)= -9223372036854775808+b:=EM (by omega) (by omega);have c:decide (a< -9223372036854775808+b)=false:=by simp;omega
   rw[k,d,c];simp
  ·have c:decide (0<b)=false:=by simp;omega
   rw[c,d];simp
def L7 {α}{l:List α}{k:Nat}(d:k<l.length) {P:α→Prop}(b:∀x∈l.take k,P x) (c:P l[k]):∀x∈l.take (k+1),P x:=by
 intro x a;rw[Adx d,Ac7] at a;rcases a with a|a
 ·exact b x a
 ·simp only[Ac3] at a;subst a;exact c
def Rh {α}{f:α→Int}{l:List α}{k:Nat}(a:k<l.length):((l.take (k+1)).map f).sum=((l.take k).map f).sum+f l[k]:=by
 rw[Adx a,Adw,Ad9];simp
def Se {α}{f:α→Int}{l:List α}(c:∀x∈l,0≤f x):0≤(l.map f).sum:=Ki λy a=>by
 obtain⟨x,b,rfl⟩:=Adb.1 a;exact c x b
def F7 {n a:Nat}(c:n*a≤175921860444160) {α}(x:Option α) (b:a≤274877906944:=by decide):chk (HQ n a) x=x:=by
 unfold chk HQ;rw[Acx c,Acx b,Bool.and_self,Bool.or_true];rfl
def Mu {g:Type}(L:Nat) (f:Nat→Int→Option g) (kj:Option g) (a:∀n (k:Nat),L≤k→f (n+1) (k:Int)=kj) (b:∀n (k:Nat),k<L→f (n+1) (k:Int)=f n ((k+1:Nat):Int)):
  ∀n (k:Nat),L<n+k→k≤L→f n (k:Int)=kj
 |0,k,i,d=>by omega
 |n+1,k,i,d=>by
  rcases Acy k L with c|c
  ·rw[b n k c];exact Mu L f kj a b n (k+1) (by omega) (by omega)
  ·exact a n k c
def Xj (N:Nat) (a b:Int):Df (H4 N a b):=by
 unfold H4;exact Df.cond (λ_=>Df.mk _) λ_=>Df.cond (λ_=>Df.mk _) λ_=>Df.mk _
def Sx (N:Nat) (a b:Int):Df (Hk N a b):=by
 unfold Hk;exact Df.cond (λ_=>Df.mk _) λ_=>Df.cond (λ_=>Df.mk _) λ_=>Df.mk _
def LT {k:Nat}(b:k≤1000) (c:Nat) (a:c≤1000) {α}(x:Option α):chk (LU (k:Int) (k:Int) c) x=x:=by
 have:LU (k:Int) (k:Int) c=true:=by
  simp only[LU,Acj,Ac1];refine⟨⟨by omega,by omega⟩,?_⟩;have:(c:Int)*(k:Int)≤1000*1000:=Int.mul_le_mul (by omega) (by omega) (by omega) (by omega);omega
 rw[this];rfl
def Abz {α}{l:List α}{i:Nat}(a:i<l.length):∃x,ix l (i:Int)=some x∧x∈l:=⟨l[i],BG a,Acw a⟩
def kV {α}(l xs:List α):(Pr l xs).length=l.length:=by unfold Pr;simp;omega
def fN {α}{l xs:List α}(a:l.length=xs.length):Pr l xs=xs:=by
 unfold Pr;rw[a,Adk,List.drop_of_length_le (by omega),Adr]
def OF (k:Nat) (z:Int):(List.replicate ((k:Int)).toNat z).length=k:=by simp
def Qy {α}(k:Nat) (z:α):(List.replicate ((k:Int)).toNat z).length=k:=by simp
def VJ (p:List Int):Pr (List.replicate ((p.length:Int)).toNat (0:Int)) p=p:=fN (by simp)
def M7 {α}(l:List α) (i:Int) (x:α):(upd l i x).length=l.length:=by simp [upd]
def M5 (N:Nat) {p:List Int}(a:p.length≤1000000):BO N p=some p:=by
 unfold BO;rw[F7 (by simp;omega)];rfl
def Xd (N:Nat) {p:List A3}(a:p.length≤1000000):BW N p=some p:=by
 unfold BW;rw[F7 (by simp;omega)];rfl
def dB {N:Nat}(l:8000000000000<N) {p q:List Int}(m:p.length≤1000) (o:q.length≤1000):∃r,Hr N p q=some r∧r.length=max p.length q.length:=by
 unfold Hr;have c:max (p.length:Int) (q.length:Int)=((max p.length q.length:Nat):Int):=by omega
 rw[c,LT (by omega) _ (by decide)];obtain⟨s,d,e⟩:=GK q.length (λn i s=>Gs N q (IZ N) n i s) (IZ N) (λ_ s=>s.length=max p.length q.length) (λn k s a=>by
  simp only[Gs];rw[Fj a];rfl) (λn k s g a=>by
  simp only[Gs];have b:k<s.length:=by omega
  obtain⟨v,j⟩:=Xj N s[k] q[k];rw[FA a,Acc,BG a];simp only[BG b,Acb];rw[j,Acb,BA (by omega)];exact⟨_,by rw[M7];exact g,rfl⟩) N 0 (Pr (List.replicate (((max p.length q.length:Nat):Int)).toNat (0:Int)) p) (by rw[kV,OF]) (by omega) (Aci _)
 exact⟨s,e,d⟩
def Zh {N:Nat}(l:8000000000000<N) {p:List Int}(m:p.length≤1000):∃v,JP N p=some v∧(v=true→(∀x∈p,0≤x)∧p.sum≤1125899906842624):=by
 unfold JP;rcases Na p.length (λn i s=>FT N p (Hh N) n s i) (λ_=>Hh N) (some false) (λk s=>(∀x∈p.take k,0≤x)∧s=(p.take k).sum∧s≤1125899906842624∧0≤s) (λn k s a=>by
  simp only[FT];rw[Fj a];rfl) (λn k s d a=>by
  obtain⟨b,c,g,o⟩:=d;simp only[FT];rw[FA a,Acc,BG a,Acb,EM (n:=1125899906842624-s) (by omega) (by omega)];cases j:(decide (p[k]<0)||decide (1125899906842624-s<p[k]))
  ·simp only[Ac9,Ac2] at j;rw[Acd,BA (by omega),EM (n:=s+p[k]) (by omega) (by omega)];exact .inr ⟨_,⟨L7 a b (by omega),by rw[Kk a,c],by omega,by omega⟩,rfl⟩
  ·exact .inl rfl) N 0 0 ⟨by simp,rfl,by decide,by decide⟩ (by omega) (Aci _) with e|⟨s,⟨b,c,g,_⟩,e⟩
 ·exact⟨false,e,λq=>by cases q⟩
 ·rw[Adk] at b c;exact⟨true,e,λ_=>⟨b,by omega⟩⟩
def kC {t t' n d:Int}(hd:0≤d) (a:0≤n) (b:t≤t'):t*n/d≤t'*n/d:=by
 rcases Int.lt_or_eq_of_le hd with c|c
 ·exact Int.ediv_le_ediv c (Ae6 b a)
 ·rw[←c];simp
def Wb {t n d:Int}(hd:0≤d) (a:0≤n) (b:0≤t):0≤t*n/d:=Int.ediv_nonneg (Int.mul_nonneg b a) hd
def eQ {t n d:Int}(hd:0≤d) (b:n≤d) (a:0≤t):t*n/d≤t:=by
 rcases Int.lt_or_eq_of_le hd with h0|h0
 ·refine Int.ediv_le_of_le_mul h0 (Int.mul_le_mul_of_nonneg_left b a)
 ·rw[←h0];simp [a]
def zU (e:List Bz):Prop:=∀k l r,e[k]? =some l→e[k+1]? =some r→l.Q<r.Q∧l.Z≤r.Z
def I4.vol {c:List Bz}(b:I4 c) {k:Nat}{p:Bz}(a:c[k]? =some p):J0 p.Q∧J0 p.Z:=⟨(b.2.2 k p a).1,(b.2.2 k p a).2.1⟩
def I4.step {c:List Bz}(d:I4 c) {k:Nat}{p q:Bz}(a:c[k]? =some p) (b:c[k+1]? =some q):p.Q<q.Q∧p.Z≤q.Z:=(d.2.2 (k+1) q b).2.2 p (by omega) a
def zU.mono {e:List Bz}(s:zU e) {i:Nat}:∀{j:Nat}{a b:Bz},i≤j→e[i]? =some a→e[j]? =some b→a.Q≤b.Q∧a.Z≤b.Z∧(i<j→a.Q<b.Q)
 |j,a,b,l,g,d=>by
  rcases Acy i j with n|hge
  ·obtain⟨j,rfl⟩:∃m,j=m+1:=⟨j-1,by omega⟩
   have o:=(Acq.1 d).1;obtain⟨c,k⟩:∃c,e[j]? =some c:=⟨e[j],by simp [show j<e.length by omega]⟩
   have p:=zU.mono s (j:=j) (by omega) g k;have q:=s j c b k d;exact⟨by omega,by omega,λ_=>by omega⟩
  ·have:i=j:=by omega
   subst this;rw[g] at d;cases d;exact⟨Add _,Add _,λs=>by omega⟩
structure zN (e:List Bz) (x:Int) (k:Nat) (l r:Bz):Prop where
 l_:e[k]? =some l
 r_:e[k+1]? =some r
 lo:l.Q≤x
 hi:x<r.Q
def SJ (l r:Bz) (x:Int):Int:=l.Z+(x-l.Q)*(r.Z-l.Z)/(r.Q-l.Q)
def ZR (l r:Bz) (x:Int):Int:=(x-l.Q)*(r.Z-l.Z)%(r.Q-l.Q)
def zN.bounds {e:List Bz}(m:zU e) {x:Int}{k:Nat}{l r:Bz}(a:zN e x k l r):l.Z≤SJ l r x∧SJ l r x≤r.Z:=by
 have b:=m k l r a.l_ a.r_;have c:=a.lo;have g:=a.hi;have i:=Wb (t:=x-l.Q) (n:=r.Z-l.Z) (d:=r.Q-l.Q) (by omega) (by omega) (by omega);have j:(x-l.Q)*(r.Z-l.Z)/(r.Q-l.Q)≤r.Z-l.Z:=by
  refine Int.ediv_le_of_le_mul (by omega) ?_;rw[Int.mul_comm];exact Int.mul_le_mul_of_nonneg_left (by omega) (by omega)
 unfold SJ;omega
def zN.mono {e:List Bz}(v:zU e) {x c:Int}{k g:Nat}{l r i r':Bz}(a:zN e x k l r) (b:zN e c g i r') (u:x≤c):SJ l r x≤SJ i r' c:=by
 rcases Nat.lt_trichotomy k g with m|heq|hgt
 ·have j:=v.mono (show k+1≤g by omega) a.r_ b.l_;have o:=(a.bounds v).2;have p:=(b.bounds v).1;omega
 ·subst heq;have q:=a.l_.symm.trans b.l_;have s:=a.r_.symm.trans b.r_;cases q;cases s;have j:=v k l r a.l_ a.r_;have:=kC (t:=x-l.Q) (t':=c-l.Q) (n:=r.Z-l.Z) (d:=r.Q-l.Q) (by omega) (by omega) (by omega);unfold SJ;omega
 ·have j:=v.mono (show g+1≤k by omega) b.r_ a.l_;have o:=a.lo;have p:=b.hi;omega
def Abh (e:List Bz) (s:Int):Prop:=∀k l r,e[k]? =some l→e[k+1]? =some r→(r.Z-l.Z)*1099511627776≤s*(r.Q-l.Q)
def Abh.mono {e:List Bz}{s:Int}(t:Abh e s) {i:Nat}:∀{j:Nat}{a b:Bz},i≤j→e[i]? =some a→e[j]? =some b→(b.Z-a.Z)*1099511627776≤s*(b.Q-a.Q)
 |j,a,b,l,g,d=>by
  rcases Acy i j with n|hge
  ·obtain⟨j,rfl⟩:∃m,j=m+1:=⟨j-1,by omega⟩
   have o:=(Acq.1 d).1;obtain⟨c,k⟩:∃c,e[j]? =some c:=⟨e[j],by simp [show j<e.length by omega]⟩
   have p:=Abh.mono t (j:=j) (by omega) g k;have q:=t j c b k d;grind
  ·have:i=j:=by omega
   subst this;rw[g] at d;cases d;grind
def qT {a n d:Int}(b:0≤a∧a≤1125899906842624) (c:0≤n∧n≤1125899906842624) (g:1≤d∧d≤1125899906842624) (i:a*n/d≤1125899906842624):vM a n d=(a*n/d,a*n%d,true):=by
 unfold vM;rw[Acf ⟨b,c,g,i⟩]
def QY {N:Nat}(i:33<N) {c:List Bz}(o:I4 c):Fe N c=some true:=by
 unfold Fe;have j:=o.1;have l:=o.2.1;rw[show (decide ((c.length:Int)<1)||decide (32<(c.length:Int)))=false by simp;omega,Acd];exact Mu c.length (Fd N c (Ht N)) (Ht N) (λn k a=>by
  simp only[Fd];rw[Fj a];rfl) (λn k a=>by
  have b:c[k]? =some c[k]:=by simp [a]
  have v:=o.vol b;unfold J0 at v;simp only[Fd];rw[FA a,Acc,BG a,Acb,show(((decide ((c[k]).Q<0)||decide (1125899906842624<(c[k]).Q))||decide ((c[k]).Z<0))||decide (1125899906842624<(c[k]).Z))=false by simp only[Ac9,Ac2];omega,Acd,BA (by omega)];by_cases h0:k=0
  ·subst h0;rfl
  ·have d:c[k-1]? =some c[k-1]:=by simp
   have m:=o.step d (q:=c[k]) (by rw[show k-1+1=k by omega];exact b);have g:BT ((k:Int)-1)=((k-1:Nat):Int):=by rw[EM (by omega) (by omega)];omega
   rw[show decide ((0:Int)<(k:Int))=true by simp;omega,Acc,g,BG (show k-1<c.length by omega)];simp only[Acb];rw[show decide ((c[k]).Q≤(c[k-1]).Q)=false by simp only[Ac2];omega,show decide ((c[k]).Z<(c[k-1]).Z)=false by simp only[Ac2];omega];rfl) N 0 (by omega) (Aci _)
def WX (l r:Bz) (x:Int):Int:=l.Z*(r.Q-l.Q)+(x-l.Q)*(r.Z-l.Z)
def UB {l r:Bz}(a:l.Q<r.Q) (x:Int):SJ l r x*(r.Q-l.Q)+ZR l r x=WX l r x:=by
 have:=Int.ediv_mul_add_emod ((x-l.Q)*(r.Z-l.Z)) (r.Q-l.Q);unfold SJ ZR WX;grind
def X2 {l r:Bz}(a:l.Q<r.Q) (x:Int):0≤ZR l r x∧ZR l r x<r.Q-l.Q:=⟨Int.emod_nonneg _ (by omega),Int.emod_lt_of_pos _ (by omega)⟩
def pA (l r a r':Bz) (x:Int):Prop:=WX l r x*(r'.Q-a.Q)≤WX a r' x*(r.Q-l.Q)
def pA.mid {l r b r':Bz}{x u v:Int}(c:pA l r b r' u) (d:pA l r b r' v) (i:u≤x) (j:x≤v) (g:u<v):pA l r b r' x:=by
 unfold pA WX at*;have k:=Ae6 c (show 0≤v-x by omega);have m:=Ae6 d (show 0≤x-u by omega);refine Int.le_of_mul_le_mul_right (a:=v-u) ?_ (by omega);grind
def pA.val {l r c r':Bz}{x:Int}(z:pA l r c r' x) (j:l.Q<r.Q) (g:c.Q<r'.Q):SJ l r x≤SJ c r' x:=by
 have k:=UB j x;have n:=UB g x;have o:=X2 j x;have p:=X2 g x;unfold pA at z;rw[←k,←n] at z;refine Int.not_lt.1 λt=>?_;generalize SJ l r x=a at*
 generalize SJ c r' x=b at*
 generalize ZR l r x=m at*
 generalize ZR c r' x=q at*
 have s:0<r.Q-l.Q:=by omega
 have u:0<r'.Q-c.Q:=by omega
 generalize r.Q-l.Q=d at*
 generalize r'.Q-c.Q=i at*
 have v:(b+1)*(d*i)≤a*(d*i):=Ae6 (by omega) (Int.mul_nonneg (by omega) (by omega));have w:0≤m*i:=Int.mul_nonneg o.1 (by omega);have y:q*d<i*d:=Int.mul_lt_mul_of_pos_right p.2 s;grind
def Hl {α}{l:List α}{k:Nat}(a:k<l.length) (x:α):(upd l (k:Int) x)[k]? =some x:=by
 simp [upd,a]
def Jj {α}{l:List α}{k j:Nat}(a:k≠j) (x:α):(upd l (k:Int) x)[j]? =l[j]? :=by
 simp [upd,Ael a]
def Hx (p q:List Int):List Int:=List.zipWith (· + ·) p q
def Jx (p q:List Int):List Int:=List.zipWith (· - ·) p q
def Qk {p q:List Int}{W:Nat}(a:p.length=W) (b:q.length=W):(Hx p q).length=W:=by simp [Hx,a,b]
def aJ {p q:List Int}{W:Nat}(a:p.length=W) (b:q.length=W):(Jx p q).length=W:=by simp [Jx,a,b]
def ME:∀{p q:List Int},p.length=q.length→(Hx p q).sum=p.sum+q.sum
 |[],[],_=>rfl
 |a::p,b::q,c=>by
  have:=ME (p:=p) (q:=q) (by simpa using c);simp only[Hx,List.zipWith_cons_cons,Adu] at this ⊢;omega
def Vx:∀{p q:List Int},p.length=q.length→(Jx p q).sum=p.sum-q.sum
 |[],[],_=>rfl
 |a::p,b::q,c=>by
  have:=Vx (p:=p) (q:=q) (by simpa using c);simp only[Jx,List.zipWith_cons_cons,Adu] at this ⊢;omega
structure PX (W:Nat) (p:List Int):Prop where
 len:p.length=W
 nn:∀x∈p,0≤x
 mv:p.sum≤1125899906842624
def Jd:∀{p:List Int},(∀x∈p,0≤x)→∀x∈p,x≤p.sum
 |a::p,g,x,b=>by
  have h0:=Ki (l:=p) λy c=>g y (Adi _ c);have d:=g a (Ac4 ..);rw[Adu];rcases Acl.1 b with rfl|b
  ·omega
  ·have:=Jd (p:=p) (λy c=>g y (Adi _ c)) x b;omega
def PX.mem {W:Nat}{p:List Int}(b:PX W p) {x:Int}(a:x∈p):0≤x∧x≤1125899906842624:=⟨b.nn x a,Int.le_trans (Jd b.nn x a) b.mv⟩
def PX.sum0 {W:Nat}{p:List Int}(a:PX W p):0≤p.sum:=Ki a.nn
def Sa {p q:List Int}(d:∀x∈p,0≤x) (g:∀x∈q,0≤x):∀x∈Hx p q,0≤x:=λx j=>by
 obtain⟨i,c⟩:=Aek.1 j;rw[Hx,Aeq] at c;split at c
 ·rename_i a b k l;have:=d a (Adn k);have:=g b (Adn l);cases c;omega
 ·cases c
def PX.add {W:Nat}{p q:List Int}(a:PX W p) (b:PX W q) (c:p.sum+q.sum≤1125899906842624):PX W (Hx p q):=
 ⟨Qk a.len b.len,Sa a.nn b.nn,by rw[ME (a.len.trans b.len.symm)];exact c⟩
def PX.zero (W:Nat):PX W (List.replicate W 0):=⟨by simp,λx a=>by rw[(List.mem_replicate.1 a).2];exact Add 0,by simp⟩
def YI (W:Nat):(List.replicate W (0:Int)).sum=0:=by simp
structure W7 (t p:List Int):Prop where
 len:t.length=p.length
 le:∀(i:Nat) (x y:Int),t[i]? =some x→p[i]? =some y→0≤x∧x≤y
def W7.sub {W:Nat}{t p:List Int}(z:W7 t p) (j:PX W p):PX W (Jx p t)∧(Jx p t).sum=p.sum-t.sum∧PX W t:=by
 have n:t.length=W:=z.len.trans j.len;have d:∀x∈t,0≤x:=λx k=>by
  obtain⟨i,c⟩:=Aek.1 k;have l:=(Acq.1 c).1;have m:i<p.length:=by rw[←z.len];exact l
  exact(z.le i x _ c (Acn m)).1
 have o:=Vx (p:=p) (q:=t) z.len.symm;have g:∀x∈Jx p t,0≤x:=λx k=>by
  obtain⟨i,c⟩:=Aek.1 k;rw[Jx,Aeq] at c;split at c
  ·rename_i a b s u;have:=z.le i b a u s;cases c;omega
  ·cases c
 have v:=Ki g;have w:=Ki d;have y:=j.mv;exact⟨⟨aJ j.len n,g,by omega⟩,o,n,d,by omega⟩
def ZP {W:Nat}{p t:List Int}(d:p.length=W) (g:t.length=W) (j:∀x∈t,x=0):Jx p t=p:=by
 apply Adl;intro i;rw[Jx,Aeq];rcases Acy i W with b|b
 ·have c:i<p.length:=by omega
  have a:i<t.length:=by omega
  rw[Acn c,Acn a];have:=j _ (Acw a);simp [this]
 ·rw[Ac8 (show p.length≤i by omega)]
def Vu:∀{t:List Int},(∀x∈t,0≤x)→t.sum≤0→∀x∈t,x=0:=λ{t} g b x a=>by
 have c:=Jd g x a;have d:=g x a;omega
def V3 {N:Nat}(j:8000000000000<N) {p:List Int}(l:p.length≤1000) (h0:∀x∈p,0≤x) (m:p.sum≤2305843009213693952):FC N p=some p.sum:=by
 unfold FC;obtain⟨s,⟨b,c⟩,e⟩:=GK p.length (λn i s=>Hi N p (JK N) n s i) (JK N) (λk s=>s=(p.take k).sum∧0≤s) (λn k s a=>by
  simp only[Hi];rw[Fj a];rfl) (λn k s d a=>by
  obtain⟨b,c⟩:=d;have g:=Jy h0 (k+1);have o:=Jy h0 k;have q:=h0 _ (Acw a);rw[Kk a] at g;simp only[Hi];rw[FA a,Acc,BG a,Acb,VT N (by omega) (by omega) (by omega) (by omega),Acb,BA (by omega)];exact⟨_,⟨by rw[Kk a,b],by omega⟩,rfl⟩) N 0 0 ⟨rfl,Add _⟩ (by omega) (Aci _)
 rw[Adk] at b;subst b;exact e
def YO {N:Nat}(y:8000000000000<N) {p q:List Int}(t:p.length≤1000) (z:q.length=p.length) (u:∀x∈p, -2305843009213693952≤x∧x≤2305843009213693952) (v:∀x∈q, -2305843009213693952≤x∧x≤2305843009213693952):Hr N p q=some (Hx p q):=by
 unfold Hr;have w:max (p.length:Int) (q.length:Int)=(p.length:Int):=by omega
 rw[w,LT t _ (by decide),VJ];obtain⟨s,⟨o,j,l⟩,e⟩:=GK q.length (λn i s=>Gs N q (IZ N) n i s) (IZ N) (λk s=>s.length=p.length∧(∀i,k≤i→s[i]? =p[i]?)∧∀i,i<k→s[i]? =(Hx p q)[i]?) (λn k s c=>by
  simp only[Gs];rw[Fj c];rfl) (λn k s g c=>by
  obtain⟨o,j,l⟩:=g;simp only[Gs];have a:k<s.length:=by omega
  have b:k<p.length:=by omega
  have m:s[k]=p[k]:=by
   have:=j k (Acr _);rw[Acn a,Acn b] at this;exact Acg this
  have A:=u _ (Acw b);have B:=v _ (Acw c);rw[FA c,Acc,BG c,Acb,BG a,Acb,Acb,m,VT N (by omega) (by omega) (by omega) (by omega),Acb,Acb,Acb,BA (by omega)];refine⟨_,⟨by rw[M7];exact o,λi g=>by rw[Jj (by omega)];exact j i (by omega),λi g=>?_⟩,rfl⟩;by_cases d:k=i
  ·subst d;rw[Hl a,Hx,Aeq,Acn b,Acn c]
  ·rw[Jj d];exact l i (by omega)) N 0 p ⟨rfl,λi _=>rfl,λi g=>by omega⟩ (by omega) (Aci _)
 have:s=Hx p q:=Adl λi=>by
  rcases Acy i q.length with C|C
  ·exact l i C
  ·rw[Ac8 (by omega),Ac8 (by simp [Hx];omega)]
 subst this;exact e
def XA {N:Nat}(w:8000000000000<N) {p t:List Int}(q:p.length≤1000) (y:t.length=p.length) (u:∀x∈p, -2305843009213693952≤x∧x≤2305843009213693952) (v:∀x∈t, -2305843009213693952≤x∧x≤2305843009213693952):Iq N p t=some (Jx p t):=by
 unfold Iq;rw[LT q _ (by decide),VJ];obtain⟨s,⟨o,j,l⟩,e⟩:=GK t.length (λn i s=>Gh N t (H9 N) n i s) (H9 N) (λk s=>s.length=p.length∧(∀i,k≤i→s[i]? =p[i]?)∧∀i,i<k→s[i]? =(Jx p t)[i]?) (λn k s c=>by
  simp only[Gh];rw[Fj c];rfl) (λn k s g c=>by
  obtain⟨o,j,l⟩:=g;simp only[Gh];have a:k<s.length:=by omega
  have b:k<p.length:=by omega
  have m:s[k]=p[k]:=by
   have:=j k (Acr _);rw[Acn a,Acn b] at this;exact Acg this
  have z:=u _ (Acw b);have A:=v _ (Acw c);rw[FA c,Acc,BG c,Acb,BG a,Acb,Acb,Acb,Acb,m,EM (n:=p[k]-t[k]) (by omega) (by omega),BA (by omega)];refine⟨_,⟨by rw[M7];exact o,λi g=>by rw[Jj (by omega)];exact j i (by omega),λi g=>?_⟩,rfl⟩;by_cases d:k=i
  ·subst d;rw[Hl a,Jx,Aeq,Acn b,Acn c]
  ·rw[Jj d];exact l i (by omega)) N 0 p ⟨rfl,λi _=>rfl,λi g=>by omega⟩ (by omega) (Aci _)
 have:s=Jx p t:=Adl λi=>by
  rcases Acy i t.length with B|B
  ·exact l i B
  ·rw[Ac8 (by omega),Ac8 (by simp [Jx];omega)]
 subst this;exact e
def PX.big {W:Nat}{p:List Int}(b:PX W p):∀x∈p, -2305843009213693952≤x∧x≤2305843009213693952:=λx a=>by
 have:=b.mem a;omega
def PX.total {N W:Nat}(a:8000000000000<N) (b:W≤1000) {p:List Int}(c:PX W p):FC N p=some p.sum:=V3 a (by rw[c.len];exact b) c.nn (by have:=c.mv;omega)
def PX.padd {N W:Nat}(c:8000000000000<N) (d:W≤1000) {p q:List Int}(a:PX W p) (b:PX W q):Hr N p q=some (Hx p q):=YO c (by rw[a.len];exact d) (b.len.trans a.len.symm) a.big b.big
def PX.wo {N W:Nat}(c:8000000000000<N) (d:W≤1000) {p t:List Int}(a:PX W p) (b:PX W t):Iq N p t=some (Jx p t):=XA c (by rw[a.len];exact d) (b.len.trans a.len.symm) a.big b.big
def OC:∀{l:List Int}{i:Nat}(b:i<l.length) (x:Int),(l.set i x).sum=l.sum-l[i]+x
 |a::l,0,_,x=>by simp;omega
 |a::l,i+1,b,x=>by
  have:=OC (l:=l) (i:=i) (by simpa using b) x;simp only[List.set_cons_succ,Adu,List.getElem_cons_succ,this];omega
def kB {N W:Nat}(A:8000000000000<N) (v:W≤1000) {p:List Int}(a:PX W p) (o n:Int):∃t,MY N p o n=some (t,Jx p t)∧W7 t p∧(t=List.replicate W 0∨∃i:Nat,o=(i:Int)∧i<W∧0<n∧0<p.getD i 0∧t=(List.replicate W 0).set i (min n (p.getD i 0)))∧((∃i:Nat,o=(i:Int)∧i<W∧0<n)→t=(List.replicate W 0).set o.toNat (min n (p.getD o.toNat 0))):=by
 have d:W7 (List.replicate W 0) p:=⟨by simp [a.len],λi x y b g=>by
  rw[Aew] at b;split at b
  ·cases b;exact⟨Add _,a.nn y (Adn g)⟩
  ·cases b⟩
 have q:∀t,W7 t p→Jr N p t=some (t,Jx p t):=λt B=>by
  unfold Jr;rw[a.wo A v (B.sub a).2.2,Acb]
 have C:List.replicate ((p.length:Int)).toNat (0:Int)=List.replicate W 0:=by rw[a.len];rfl
 unfold MY K7;rw[LT (by rw[a.len];exact v) _ (by decide),C];by_cases D:0≤o∧o<W
 ·obtain⟨i,rfl⟩:∃i:Nat,o=i:=⟨o.toNat,by omega⟩
  have c:i<p.length:=by rw[a.len];omega
  have s:p.getD i 0=p[i]:=by simp [Adp,c]
  have h0:=a.nn _ (Acw c);rw[Ack (show ¬(i:Int)<0 by omega),Ack (show ¬(p.length:Int)≤(i:Int) by omega),Bool.or_self,Acd,BG c,Acb,Acb,Ack (show ¬p[i]<0 by omega),Acd,Acb,Acb];rw[Adm,s];by_cases w:0<min n p[i]
  ·rw[Acx w,Acc,BG (show i<(List.replicate W (0:Int)).length by simp;omega),Acb,Acb];have z:W7 ((List.replicate W (0:Int)).set i (min n p[i])) p:=⟨by simp [a.len],λj x y b g=>by
    by_cases l:i=j
    ·subst l;rw[Aer (by simp;omega)] at b;rw[Acn c] at g;cases b;cases g;omega
    ·rw[Ael l] at b;exact d.le j x y b g⟩
   exact⟨_,q _ z,z,.inr ⟨i,rfl,by omega,by omega,by rw[s];omega,by rw[s];rfl⟩,λ_=>rfl⟩
  ·rw[Ack w,Acd];refine⟨_,q _ d,d,.inl rfl,λ⟨j,F,u,H⟩=>?_⟩;have:min n p[i]=0:=by omega
   rw[this];apply Adl;intro k;by_cases m:i=k
   ·subst m;rw[Aer (by simp;omega),Aew,Acf (by omega)]
   ·rw[Ael m]
 ·have G:(decide (o<0)||decide ((p.length:Int)≤o))=true:=by
   rw[a.len];simp only[Ac5,Ac1];omega
  rw[G,Acc,Acb,Acc,Acb,Ack (show ¬0<min n 0 by omega),Acd];exact⟨_,q _ d,d,.inl rfl,λ⟨j,F,u,_⟩=>absurd ⟨by omega,by omega⟩ D⟩
end Go.Proofs.YtabonambpbofgaaGreat
