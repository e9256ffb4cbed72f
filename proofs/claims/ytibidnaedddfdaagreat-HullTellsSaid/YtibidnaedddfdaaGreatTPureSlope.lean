import Derived.Test.YtibidnaedddfdaaGreatTPureDiv2
namespace Go.Proofs.YtibidnaedddfdaaGreat
set_option linter.all false
open Go.RowKit
def F4 {σ q:Type}(L:Nat) (f:Nat→Int→σ→Option q) (kj:σ→Option q) (I:Nat→σ→Prop) (a:∀n (k:Nat) s,L≤k→f (n+1) (k:Int) s=kj s) (b:∀n (k:Nat) s,I k s→k<L→∃s',I (k+1) s'∧f (n+1) (k:Int) s=f n ((k+1:Nat):Int) s'):
  ∀n (k:Nat) s,I k s→L<n+k→k≤L→∃s',I L s'∧f n (k:Int) s=kj s'
 |0,k,s,_,h,g=>by omega
 |n+1,k,s,d,h,g=>by
  rcases xB k L with c|c
  ·obtain⟨i,j,l⟩:=b n k s d c;obtain⟨m,o,p⟩:=F4 L f kj I a b n (k+1) i j (by omega) (by omega);exact⟨m,o,l.trans p⟩
  ·have:k=L:=by omega
   subst this;exact⟨s,d,a n k s c⟩
def Rw {σ l:Type}(L:Nat) (f:Nat→Int→σ→Option l) (kj:σ→Option l) (c:Option l) (I:Nat→σ→Prop) (a:∀n (k:Nat) s,L≤k→f (n+1) (k:Int) s=kj s) (b:∀n (k:Nat) s,I k s→k<L→f (n+1) (k:Int) s=c∨∃s',I (k+1) s'∧f (n+1) (k:Int) s=f n ((k+1:Nat):Int) s'):
  ∀n (k:Nat) s,I k s→L<n+k→k≤L→f n (k:Int) s=c∨∃s',I L s'∧f n (k:Int) s=kj s'
 |0,k,s,_,h,j=>by omega
 |n+1,k,s,i,h,j=>by
  rcases xB k L with d|d
  ·rcases b n k s i d with h0|⟨s1,i1,h1⟩
   ·exact .inl h0
   ·rcases Rw L f kj c I a b n (k+1) s1 i1 (by omega) (by omega) with g|⟨s2,i2,g⟩
    ·exact .inl (h1.trans g)
    ·exact .inr ⟨s2,i2,h1.trans g⟩
  ·have:k=L:=by omega
   subst this;exact .inr ⟨s,i,a n k s d⟩
def P9 (L:Nat) (f:Nat→Int→Option Bool) (kj:Option Bool) (c:Nat→Bool) (a:∀n (k:Nat),L≤k→f (n+1) (k:Int)=kj) (b:∀n (k:Nat),k<L→f (n+1) (k:Int)=cond (c k) (f n ((k+1:Nat):Int)) (some false)):
  ∀n (k:Nat),L<n+k→k≤L→((∀i,k≤i→i<L→c i=true)∧f n (k:Int)=kj)∨((∃i,k≤i∧i<L∧c i=false)∧f n (k:Int)=some false)
 |0,k,h,p=>by omega
 |n+1,k,h,p=>by
  rcases xB k L with j|j
  ·have d:=b n k j;cases l:c k with
   |false=>rw[l] at d;exact .inr ⟨⟨k,wV _,j,l⟩,d⟩
   |true=>
    rw[l] at d;rcases P9 L f kj c a b n (k+1) (by omega) (by omega) with ⟨o,m⟩|⟨⟨i,o,m,h4⟩,h5⟩
    ·refine .inl ⟨λi q g=>?_,d.trans m⟩;by_cases e:i=k
     ·subst e;exact l
     ·exact o i (by omega) g
    ·exact .inr ⟨⟨i,by omega,m,h4⟩,d.trans h5⟩
  ·exact .inl ⟨λi q g=>by omega,a n k j⟩
def OO {l:List Int}{k:Nat}(h:k<l.length):(l.take (k+1)).sum=(l.take k).sum+l[k]:=by
 rw[yM h,Aau];simp
def RO:∀{l:List Int},(∀x∈l,0≤x)→0≤l.sum
 |[],_=>by simp
 |a::l,h=>by
  have c:=h a (xL ..);have d:=RO (l:=l) λx b=>h x (xP _ b);simp only[Aag];omega
def JV {l:List Int}(h:∀x∈l,0≤x) (k:Nat):0≤(l.take k).sum∧(l.take k).sum≤l.sum:=by
 have b:=RO (l:=l.take k) λx a=>h x (zA a);have c:=RO (l:=l.drop k) λx a=>h x (Abg a);have d:(l.take k).sum+(l.drop k).sum=l.sum:=by rw[←Aau,zD]
 omega
abbrev MV:Int:=1125899906842624
def La (N:Nat) {a b:Int}(l: -4611686018427387903≤a) (m:a≤4611686018427387903) (n: -4611686018427387903≤b) (o:b≤4611686018427387903):Dz N a b=some (a+b):=by
 unfold Dz;have d:BV (a+b)=a+b:=Cw (by omega) (by omega);by_cases p:0<b
 ·have i:BV (9223372036854775807-b)=9223372036854775807-b:=Cw (by omega) (by omega);rw[i,d];have g:decide (9223372036854775807-b<a)=false:=by simp;omega
  have c:decide (b<0)=false:=by simp;omega
  rw[g,c];simp
 ·have g:decide (0<b)=false:=by simp;omega
  rw[g];by_cases j:b<0
  ·have k:BV (-9223372036854775808-b)= -9223372036854775808-b:=Cw (by omega) (by omega);have c:decide (a< -9223372036854775808-b)=false:=by simp;omega
   rw[k,d,c];simp
  ·have c:decide (b<0)=false:=by simp;omega
   rw[c,d];simp
def K3 (N:Nat) {a b:Int}(l: -4611686018427387903≤a) (m:a≤4611686018427387903) (n: -4611686018427387903≤b) (o:b≤4611686018427387903):Da N a b=some (a-b):=by
 unfold Da;have d:BV (a-b)=a-b:=Cw (by omega) (by omega);by_cases p:b<0
 ·have i:BV (9223372036854775807+b)=9223372036854775807+b:=Cw (by omega) (by omega);have g:decide (9223372036854775807+b<a)=false:=by simp;omega
  have c:decide (0<b)=false:=by simp;omega
  rw[i,d,g,c];simp
 ·have g:decide (b<0)=false:=by simp;omega
  rw[g];by_cases j:0<b
  ·have k:BV (-9223372036854775808+b)= -9223372036854775808+b:=Cw (by omega) (by omega);have c:decide (a< -9223372036854775808+b)=false:=by simp;omega
   rw[k,d,c];simp
  ·have c:decide (0<b)=false:=by simp;omega
   rw[c,d];simp
def N9 {α}{l:List α}{k:Nat}(h:k<l.length) {P:α→Prop}(b:∀x∈l.take k,P x) (c:P l[k]):∀x∈l.take (k+1),P x:=by
 intro x a;rw[yM h,xX] at a;rcases a with a|a
 ·exact b x a
 ·simp only[xV] at a;subst a;exact c
def OV {α}{f:α→Int}{l:List α}{k:Nat}(h:k<l.length):((l.take (k+1)).map f).sum=((l.take k).map f).sum+f l[k]:=by
 rw[yM h,yP,Aau];simp
def Ml {α}{f:α→Int}{l:List α}(h:∀x∈l,0≤f x):0≤(l.map f).sum:=RO λy a=>by
 obtain⟨x,b,rfl⟩:=xR.1 a;exact h x b
def Qs (a t b t':Int):Prop:=a<b∨(a=b∧t<t')
instance (a t a' t':Int):Decidable (Qs a t a' t'):=by unfold Qs;infer_instance
def UA (x y:Int):Int:=if x<y then -1 else if y<x then 1 else 0
def T8 (N:Nat) (x y:Int):It N x y=some (UA x y):=by
 unfold It Kv UA;have c:decide (x≠x)=false:=by simp
 have d:decide (y≠y)=false:=by simp
 simp only[c,d,wC,wE];by_cases a:x<y
 ·simp [a]
 ·by_cases b:y<x<;>simp [a,b]
def kT {N:Nat}(g:5<N) (x y:Int):MF N [x,y]=some (if x≠0 then x else y):=by
 obtain⟨n,rfl⟩:∃n,N=n+3:=⟨N-3,by omega⟩
 have c:BV (0+1)=1:=Cw (by omega) (by omega);have d:BV (1+1)=2:=Cw (by omega) (by omega);unfold MF;simp only[J3,Kw,c,d];by_cases a:x=0
 ·subst a;by_cases b:y=0
  ·subst b;simp [ix]
  ·simp [ix,b]
 ·simp [ix,a]
def Sc (x y:AY):Int:=if UA x.K y.K≠0 then UA x.K y.K else UA x.C y.C
def Rs {N:Nat}(a:5<N) (x y:AY):E7 N x y=some (Sc x y):=by
 unfold E7;rw[T8,T8];simp only[wC];rw[kT a];rfl
def YQ {x y:Int}:UA x y<0↔x<y:=by unfold UA;split<;>first|omega|(split<;>omega)
def VX {x y:Int}:UA x y=0↔x=y:=by unfold UA;split<;>first|omega|(split<;>omega)
def Qg {x y:AY}:Sc x y<0↔Qs x.K x.C y.K y.C:=by
 unfold Sc Qs;have b:= @YQ x.K y.K;have a:= @VX x.K y.K;have c:= @YQ x.C y.C;by_cases h:UA x.K y.K=0
 ·rw[wF (by simp [h])];have:=a.1 h;rw[c];omega
 ·rw[wG h];have:x.K≠y.K:=λe=>h (a.2 e);rw[b];omega
def fE {x y:AY}:Sc x y=0↔x.K=y.K∧x.C=y.C:=by
 unfold Sc;have a:= @VX x.K y.K;have b:= @VX x.C y.C;by_cases h:UA x.K y.K=0
 ·rw[wF (by simp [h])];have:=a.1 h;rw[b];exact⟨λe=>⟨this,e⟩,λe=>e.2⟩
 ·rw[wG h];exact⟨λe=>absurd e h,λe=>absurd (a.2 e.1) h⟩
abbrev vY:= @A7
def dD {N:Nat}(q:List AY) (t:AY) (c:AY×AY→Option Int) (f:AY→Int) (g:∀x,c (x,t)=some (f x)) (p:q.length<4398048411104) (kj:Int→Option (Int×Bool)):
  ∀(n i j:Nat),i≤j→j≤q.length→j-i<n→(∀(m:Nat) x,m<i→q[m]? =some x→f x<0)→(∀(m:Nat) x,j≤m→q[m]? =some x→¬f x<0)→(∀(m s:Nat) x u,m≤s→q[m]? =some x→q[s]? =some u→f u<0→f x<0)→
   ∃r:Nat,AV N q t c kj n (i:Int) (j:Int)=kj (r:Int)∧r≤q.length∧(∀(m:Nat) x,m<r→q[m]? =some x→f x<0)∧(∀(m:Nat) x,r≤m→q[m]? =some x→¬f x<0)
 |0,i,j,y,k,z,_,_,_=>by omega
 |n+1,i,j,y,k,z,v,w,d=>by
  simp only[AV];rcases xB i j with a|a
  ·rw[D2 a,wD,aQ (by omega)];have l:(i+j)/2<q.length:=by omega
   rw[BC l];simp only[wC,g];cases hd:decide (f q[(i+j)/2]<0) with
   |true=>
    simp only[wW] at hd;rw[wD,BF (by omega)];exact dD q t c f g p kj n _ j (by omega) k (by omega) (λm x b o=>d m ((i+j)/2) x _ (by omega) o (wR l) hd) w d
   |false=>
    simp only[xA] at hd;rw[wE];exact dD q t c f g p kj n i _ (by omega) (by omega) (by omega) v (λm x b o A=>hd (d ((i+j)/2) m _ x b (wR l) o A)) d
  ·have:i=j:=by omega
   subst this;rw[Dk (wV _),wE];exact⟨i,rfl,k,v,w⟩
def XN (q:List AY):Prop:=q.Pairwise λx y=>Qs x.K x.C y.K y.C
def Ur {a t d t' b c:Int}(g:Qs a t d t') (i:Qs d t' b c):Qs a t b c:=by unfold Qs at *;omega
def dE {N:Nat}(z:9007199254740992<N) (q:List AY) (n:XN q) (o:q.length<4398048411104) (t:AY):∃r:Nat,vY N q t (λx=>E7 N x.1 x.2)=some ((r:Int),decide (∃x,q[r]? =some x∧x.K=t.K∧x.C=t.C))∧r≤q.length∧(∀(m:Nat) x,m<r→q[m]? =some x→Qs x.K x.C t.K t.C)∧(∀(m:Nat) x,r≤m→q[m]? =some x→¬Qs x.K x.C t.K t.C):=by
 unfold vY A7;have p:=Aav.1 n;obtain⟨r,d,s,u,v⟩:=dD (N:=N) q t (λx=>E7 N x.1 x.2) (λx=>Sc x t) (λx=>Rs (by omega) _ _) o (BH N q t λx=>E7 N x.1 x.2) N 0 q.length (wL _) (wV _) (by omega) (λm x c=>by omega) (λm x c a=>by have:=(wU.1 a).1;omega) (λm g x A c a i j=>by
  rw[Qg] at j ⊢;obtain⟨w,l⟩:=wU.1 a;obtain⟨y,k⟩:=wU.1 i;rcases xB m g with h|h
  ·have:=p m g w y h;rw[l,k] at this;exact Ur this j
  ·have:m=g:=by omega
   subst this;rw[l] at k;rw[k];exact j)
 refine⟨r,?_,s,λm x c a=>Qg.1 (u m x c a),λm x c a b=>v m x c a (Qg.2 b)⟩;have d:AV N q t (λx=>E7 N x.1 x.2) (BH N q t λx=>E7 N x.1 x.2) N 0 (q.length:Int)=_:=d;rw[d];unfold BH;rcases xB r q.length with b|b
 ·rw[D2 b,wD,BC b];simp only[wC,Rs (N:=N) (by omega)];congr 2;rw[Aah];simp only[fE];refine⟨λh=>⟨_,wR b,h⟩,λ⟨x,a,h⟩=>?_⟩;rw[wR b] at a;cases a;exact h
 ·rw[Dk b,wE];simp only[wC];congr 2;symm;simp only[xA];rintro⟨x,a,_⟩;rw[zM b] at a;cases a
abbrev oJ (e:AY):Int×Int:=(e.K,e.C)
def eS {q:List AY}:XN q↔(q.map oJ).Pairwise λx y=>Qs x.1 x.2 y.1 y.2:=by
 unfold XN;rw[List.pairwise_map]
def Xn {q:List AY}(h:XN q) {r:Nat}(a:r<q.length) {e:AY}(b:oJ e=oJ q[r]):XN (q.set r e):=by
 rw[eS] at h ⊢;rw[List.map_set,b,←List.getElem_map oJ (h:=by simpa using a),List.set_getElem_self];exact h
def Tb {a t:Int}:¬Qs a t a t:=by unfold Qs;omega
def VP {a t b t':Int}(h:¬Qs a t b t') (c:¬(a=b∧t=t')):Qs b t' a t:=by unfold Qs at *;omega
def Xo {q:List AY}(h:XN q) {i j:Nat}{x y:AY}(m:q[i]? =some x) (n:q[j]? =some y) (b:x.K=y.K∧x.C=y.C):i=j:=by
 have c:=Aav.1 h;obtain⟨d,g⟩:=wU.1 m;obtain⟨k,l⟩:=wU.1 n;rcases Nat.lt_trichotomy i j with a|a|a
 ·have:=c i j d k a;rw[g,l,b.1,b.2] at this;exact absurd this Tb
 ·exact a
 ·have:=c j i k d a;rw[g,l,b.1,b.2] at this;exact absurd this Tb
def Na (N:Nat) (s:AB):Jj N s=some ⟨min s.B 1125899906842624,min s.A 1125899906842624⟩:=rfl
def Q9 {α β}{f:α→β}{l:List α}{k:Nat}(h:k<l.length):(l.take (k+1)).map f=(l.take k).map f++[f l[k]]:=by
 rw[yM h,yP];rfl
def Ou {n a:Nat}(h:n*a≤175921860444160) (b:a≤274877906944) {α}(x:Option α):chk (room n a) x=x:=by
 unfold chk room;rw[wJ b,Bool.and_true,wJ h,Bool.or_true];rfl
def K4 {n a:Nat}(h:n*a≤140737488355328) {α}(x:Option α):chk (room n a) x=x:=by
 unfold chk room;rw[wJ h];rfl
def X9 {g:Type}(L:Nat) (f:Nat→Int→Option g) (kj:Option g) (a:∀n (k:Nat),L≤k→f (n+1) (k:Int)=kj) (b:∀n (k:Nat),k<L→f (n+1) (k:Int)=f n ((k+1:Nat):Int)):
  ∀n (k:Nat),L<n+k→k≤L→f n (k:Int)=kj
 |0,k,h,d=>by omega
 |n+1,k,h,d=>by
  rcases xB k L with c|c
  ·rw[b n k c];exact X9 L f kj a b n (k+1) (by omega) (by omega)
  ·exact a n k c
def T6 (a b:AB):M8 a.v b.v=(decide (a.B=b.B)&&decide (a.A=b.A)):=by simp [M8,VV]
def OM (N:Nat) (a b:AB):KH N a b=some (decide (b.B≤a.B)&&decide (a.A≤b.A)):=by
 unfold KH LG;simp only[wC,T6];congr 1;rw[Bool.eq_iff_iff];simp only[wI,wW];omega
def XD {t t' n d s:Int}(hd:0<d) (c:n*1099511627776≤s*d) (g:t≤t'):(t'*n/d-t*n/d-1)*1099511627776≤s*(t'-t):=by
 have i:=Int.ediv_mul_le (t'*n) (b:=d) (by omega);have j:=Int.lt_ediv_add_one_mul_self (t*n) hd;have k:(t'-t)*(n*1099511627776)≤(t'-t)*(s*d):=zF c (by omega);refine Int.le_of_mul_le_mul_right (a:=d) ?_ hd;generalize t'*n/d=l at*
 generalize t*n/d=q at*
 grind
def rI {t n d s:Int}(hd:0<d) (c:n*1099511627776≤s*d) (g:0≤t):t*n/d*1099511627776≤s*t:=by
 have i:=Int.ediv_mul_le (t*n) (b:=d) (by omega);have j:t*(n*1099511627776)≤t*(s*d):=zF c g;refine Int.le_of_mul_le_mul_right (a:=d) ?_ hd;generalize t*n/d=q at*
 grind
def R7 {t t' n d:Int}(hd:0≤d) (a:0≤n) (b:t≤t'):t*n/d≤t'*n/d:=by
 rcases Int.lt_or_eq_of_le hd with h|h
 ·exact Int.ediv_le_ediv h (xS b a)
 ·rw[←h];simp
def QD {t n d:Int}(hd:0≤d) (a:0≤n) (b:0≤t):0≤t*n/d:=Int.ediv_nonneg (zU b a) hd
def RC {t n d:Int}(hd:0≤d) (h:n≤d) (a:0≤t):t*n/d≤t:=by
 rcases Int.lt_or_eq_of_le hd with h0|h0
 ·refine Int.ediv_le_of_le_mul h0 (zF h a)
 ·rw[←h0];simp [a]
def Ko (c:List A9):List A9:=(⟨-1,(c.headD ⟨0,0⟩).Q⟩:A9)::(c++[(⟨2251799813685248,(c.getLastD ⟨0,0⟩).Q⟩:A9)])
def jA (e:List A9):Prop:=∀k l r,e[k]? =some l→e[k+1]? =some r→l.M<r.M∧l.Q≤r.Q
def Sz (c:List A9):(Ko c)[0]? =some ⟨-1,(c.headD ⟨0,0⟩).Q⟩:=rfl
def N4 (c:List A9) {k:Nat}(h:k<c.length):(Ko c)[k+1]? =c[k]? :=by
 simp [Ko,List.getElem?_append,h]
def T5 (c:List A9):(Ko c)[c.length+1]? =some ⟨2251799813685248,(c.getLastD ⟨0,0⟩).Q⟩:=by
 simp [Ko]
def Oz {c:List A9}{p:A9}(h:c[0]? =some p):c.headD ⟨0,0⟩=p:=by
 cases c with
 |nil=>cases h
 |cons a l=>simpa using h
def Ow {c:List A9}{p:A9}(h:c[c.length-1]? =some p):c.getLastD ⟨0,0⟩=p:=by
 rw[List.getLastD_eq_getLast?,List.getLast?_eq_getElem?,h];rfl
def DY.vol {c:List A9}(h:DY c) {k:Nat}{p:A9}(a:c[k]? =some p):Jg p.M∧Jg p.Q:=⟨(h.2.2 k p a).1,(h.2.2 k p a).2.1⟩
def DY.step {c:List A9}(h:DY c) {k:Nat}{p q:A9}(a:c[k]? =some p) (b:c[k+1]? =some q):p.M<q.M∧p.Q≤q.Q:=(h.2.2 (k+1) q b).2.2 p (by omega) a
def Mn {c:List A9}(h:DY c):jA (Ko c):=by
 intro k l r b a;have d:(Ko c).length=c.length+2:=by simp [Ko]
 have j:=(wU.1 a).1;have n:=h.1;rw[d] at j;cases k with
 |zero=>
  rw[Sz] at b;rw[N4 c (by omega)] at a;have m:=h.vol a;have g:=Oz a;cases b;rw[g];exact⟨by have:=m.1.1;show(-1:Int)<_;omega,yE _⟩
 |succ k=>
  rw[N4 c (by omega)] at b;by_cases i:k+1<c.length
  ·rw[N4 c i] at a;exact h.step b a
  ·have e:k+1=c.length:=by omega
   rw[show k+1+1=c.length+1 by omega,T5] at a;have g:=Ow (c:=c) (p:=l) (by rw[←b];congr 1;omega);cases a;rw[g];exact⟨by have:=(h.vol b).1.2;show _<(2251799813685248:Int);omega,yE _⟩
def jA.mono {e:List A9}(h:jA e) {i:Nat}:∀{j:Nat}{a b:A9},i≤j→e[i]? =some a→e[j]? =some b→a.M≤b.M∧a.Q≤b.Q∧(i<j→a.M<b.M)
 |j,a,b,l,g,d=>by
  rcases xB i j with n|hge
  ·obtain⟨j,rfl⟩:∃m,j=m+1:=⟨j-1,by omega⟩
   have o:=(wU.1 d).1;obtain⟨c,k⟩:∃c,e[j]? =some c:=⟨e[j],by simp [show j<e.length by omega]⟩
   have p:=jA.mono h (j:=j) (by omega) g k;have q:=h j c b k d;exact⟨by omega,by omega,λ_=>by omega⟩
  ·have:i=j:=by omega
   subst this;rw[g] at d;cases d;exact⟨yE _,yE _,λh=>by omega⟩
structure Vn (e:List A9) (x:Int) (k:Nat) (l r:A9):Prop where
 l_:e[k]? =some l
 r_:e[k+1]? =some r
 lo:l.M≤x
 hi:x<r.M
structure XO (e:List A9) (x:Int) (k:Nat) (l r:A9):Prop where
 l_:e[k]? =some l
 r_:e[k+1]? =some r
 lo:l.M≤x
 hi:x≤r.M
def Ih (l r:A9) (x:Int):Int:=l.Q+(x-l.M)*(r.Q-l.Q)/(r.M-l.M)
def Pw (l r:A9) (x:Int):Int:=(x-l.M)*(r.Q-l.Q)%(r.M-l.M)
def UK {e:List A9}(h:jA e) {x:Int}{k c:Nat}{l r d r':A9}(a:XO e x k l r) (b:Vn e x c d r'):(k=c∧l=d∧r=r')∨(c=k+1∧d=r∧x=r.M):=by
 rcases Nat.lt_trichotomy k c with j|heq|hgt
 ·have i:=h.mono (show k+1≤c by omega) a.r_ b.l_;have m:=a.hi;have n:=b.lo;by_cases g:c=k+1
  ·subst g;have:=a.r_.symm.trans b.l_;cases this;exact .inr ⟨rfl,rfl,by omega⟩
  ·have:=i.2.2 (by omega);omega
 ·subst heq;have g:=a.l_.symm.trans b.l_;have o:=a.r_.symm.trans b.r_;cases g;cases o;exact .inl ⟨rfl,rfl,rfl⟩
 ·have i:=h.mono (show c+1≤k by omega) b.r_ a.l_;have m:=a.lo;have n:=b.hi;omega
def Vn.bounds {e:List A9}(h:jA e) {x:Int}{k:Nat}{l r:A9}(a:Vn e x k l r):l.Q≤Ih l r x∧Ih l r x≤r.Q:=by
 have b:=h k l r a.l_ a.r_;have c:=a.lo;have g:=a.hi;have i:=QD (t:=x-l.M) (n:=r.Q-l.Q) (d:=r.M-l.M) (by omega) (by omega) (by omega);have j:(x-l.M)*(r.Q-l.Q)/(r.M-l.M)≤r.Q-l.Q:=by
  refine Int.ediv_le_of_le_mul (by omega) ?_;rw[Int.mul_comm];exact zF (by omega) (by omega)
 unfold Ih;omega
def Vn.mono {e:List A9}(h:jA e) {x c:Int}{k g:Nat}{l r i r':A9}(a:Vn e x k l r) (b:Vn e c g i r') (u:x≤c):Ih l r x≤Ih i r' c:=by
 rcases Nat.lt_trichotomy k g with m|heq|hgt
 ·have j:=h.mono (show k+1≤g by omega) a.r_ b.l_;have o:=(a.bounds h).2;have p:=(b.bounds h).1;omega
 ·subst heq;have q:=a.l_.symm.trans b.l_;have s:=a.r_.symm.trans b.r_;cases q;cases s;have j:=h k l r a.l_ a.r_;have:=R7 (t:=x-l.M) (t':=c-l.M) (n:=r.Q-l.Q) (d:=r.M-l.M) (by omega) (by omega) (by omega);unfold Ih;omega
 ·have j:=h.mono (show g+1≤k by omega) b.r_ a.l_;have o:=a.lo;have p:=b.hi;omega
def oM (e:List A9) (s:Int):Prop:=∀k l r,e[k]? =some l→e[k+1]? =some r→(r.Q-l.Q)*1099511627776≤s*(r.M-l.M)
def oM.mono {e:List A9}{s:Int}(h:oM e s) {i:Nat}:∀{j:Nat}{a b:A9},i≤j→e[i]? =some a→e[j]? =some b→(b.Q-a.Q)*1099511627776≤s*(b.M-a.M)
 |j,a,b,l,g,d=>by
  rcases xB i j with n|hge
  ·obtain⟨j,rfl⟩:∃m,j=m+1:=⟨j-1,by omega⟩
   have o:=(wU.1 d).1;obtain⟨c,k⟩:∃c,e[j]? =some c:=⟨e[j],by simp [show j<e.length by omega]⟩
   have p:=oM.mono h (j:=j) (by omega) g k;have q:=h j c b k d;grind
  ·have:i=j:=by omega
   subst this;rw[g] at d;cases d;grind
def Vn.lip {e:List A9}(h:jA e) {s:Int}(i:oM e s) {x d:Int}{k g:Nat}{l r c r':A9}(a:Vn e x k l r) (b:Vn e d g c r') (y:x≤d):(Ih c r' d-Ih l r x-1)*1099511627776≤s*(d-x):=by
 have z:=h k l r a.l_ a.r_;have A:=h g c r' b.l_ b.r_;have j:=i k l r a.l_ a.r_;have sb:=i g c r' b.l_ b.r_;have B:=a.lo;have C:=a.hi;have D:=b.lo;have F:=b.hi;rcases Nat.lt_trichotomy k g with n|heq|hgt
 ·have o:=i.mono (show k+1≤g by omega) a.r_ b.l_;have m:=XD (t:=x-l.M) (t':=r.M-l.M) (show 0<r.M-l.M by omega) j (by omega);have G:=rI (t:=d-c.M) (show 0<r'.M-c.M by omega) sb (by omega);have p:(r.M-l.M)*(r.Q-l.Q)/(r.M-l.M)=r.Q-l.Q:=Int.mul_ediv_cancel_left _ (by omega);rw[p] at m;unfold Ih;generalize (x-l.M)*(r.Q-l.Q)/(r.M-l.M)=q at*
  generalize (d-c.M)*(r'.Q-c.Q)/(r'.M-c.M)=u at*
  grind
 ·subst heq;have v:=a.l_.symm.trans b.l_;have w:=a.r_.symm.trans b.r_;cases v;cases w;have m:=XD (t:=x-l.M) (t':=d-l.M) (show 0<r.M-l.M by omega) j (by omega);unfold Ih;generalize (x-l.M)*(r.Q-l.Q)/(r.M-l.M)=q at*
  generalize (d-l.M)*(r.Q-l.Q)/(r.M-l.M)=u at*
  grind
 ·have o:=h.mono (show g+1≤k by omega) b.r_ a.l_;omega
def W1 {a n d:Int}(b:0≤a∧a≤1125899906842624) (c:0≤n∧n≤1125899906842624) (g:1≤d∧d≤1125899906842624) (i:a*n/d≤1125899906842624):eI a n d=(a*n/d,a*n%d,true):=by
 unfold eI;rw[wG ⟨b,c,g,i⟩]
def LQ {N:Nat}(C:18446744073709551616<N) {c:List A9}(h:DY c) {x:Int}(K:0≤x∧x≤1125899906842624):∃k l r,Vn (Ko c) x k l r∧Fb N c x=some (Ih l r x,decide (0<Pw l r x)):=by
 have U:=h.1;have V:=h.2.1;unfold Fb;obtain⟨r,D,W,F,z⟩:=Ui (N:=N) (λy=>Gc N c x y) c.length (by omega) (by omega) λi o=>by
  unfold Gc;rw[BC o];exact Df.mk _
 have s:∀i (o:i<c.length),Gc N c x (i:Int)=some (decide (x<(c[i]).M)):=λi o=>by
  unfold Gc;rw[BC o];rfl
 rw[D,wC];by_cases u:r=0
 ·subst u;have h0:c[0]? =some c[0]:=by simp
  have g:=z (by omega);rw[s 0 (by omega)] at g;have A:=yQ (wP g);refine⟨0,_,_,⟨Sz c,(N4 c (by omega)).trans h0,by show(-1:Int)≤x;omega,A⟩,?_⟩;rw[show decide (((0:Nat):Int)=0)=true by simp,wD,show ix c 0=some c[0] from BC (i:=0) (by omega),wC];have v:=Oz h0;rw[v];simp [Ih,Pw]
 ·have a:c[r-1]? =some c[r-1]:=by simp
  have g:=F (by omega);rw[s (r-1) (by omega)] at g;have A:=Aaf (wP g);have G:=h.vol a;have H:BV ((r:Int)-1)=((r-1:Nat):Int):=by rw[Cw (by omega) (by omega)];omega
  rw[show decide ((r:Int)=0)=false by simp;omega,wE,H,BC (show r-1<c.length by omega),wC];by_cases w:r=c.length
  ·subst w;rw[show decide ((c.length:Int)=(c.length:Int))=true by simp,wD];have v:=Ow a;have j:(Ko c)[c.length-1+1]? =some c[c.length-1]:=(N4 c (by omega)).trans a;rw[show c.length-1+1=c.length by omega] at j;refine⟨c.length,_,_,⟨j,T5 c,by omega,by show x<(2251799813685248:Int);omega⟩,?_⟩;rw[v];simp [Ih,Pw]
  ·have m:r<c.length:=by omega
   have b:c[r]? =some c[r]:=by simp [m]
   have B:=z m;rw[s r m] at B;have I:=yQ (wP B);have J:=h.vol b;have X:=h.step a (q:=c[r]) (by rw[show r-1+1=r by omega];exact b);have j:(Ko c)[r-1+1]? =some c[r-1]:=(N4 c (by omega)).trans a;rw[show r-1+1=r by omega] at j;refine⟨r,_,_,⟨j,(N4 c m).trans b,by omega,I⟩,?_⟩;rw[show decide ((r:Int)=(c.length:Int))=false by simp;omega,wE,BC m];simp only[wC];unfold Jg at G J;generalize c[r-1]=p at*
   generalize c[r]=q at*
   rw[Cw (n:=x-p.M) (by omega) (by omega),Cw (n:=q.Q-p.Q) (by omega) (by omega),Cw (n:=q.M-p.M) (by omega) (by omega),MA C];have Y:(x-p.M)*(q.Q-p.Q)/(q.M-p.M)≤q.Q-p.Q:=by
    refine Int.ediv_le_of_le_mul (by omega) ?_;rw[Int.mul_comm];exact zF (by omega) (by omega)
   have Z:=QD (t:=x-p.M) (n:=q.Q-p.Q) (d:=q.M-p.M) (by omega) (by omega) (by omega);rw[W1 (by omega) (by omega) (by omega) (by omega),wC];unfold Ih Pw;rw[Cw (by omega) (by omega)]
def Lx {N:Nat}(i:33<N) {c:List A9}(h:DY c):EV N c=some true:=by
 unfold EV;have j:=h.1;have l:=h.2.1;rw[show (decide ((c.length:Int)<1)||decide (32<(c.length:Int)))=false by simp;omega,wE];exact X9 c.length (DK N c (Hj N)) (Hj N) (λn k a=>by
  simp only[DK];rw[Dk a];rfl) (λn k a=>by
  have b:c[k]? =some c[k]:=by simp [a]
  have v:=h.vol b;unfold Jg at v;simp only[DK];rw[D2 a,wD,BC a,wC,show(((decide ((c[k]).M<0)||decide (1125899906842624<(c[k]).M))||decide ((c[k]).Q<0))||decide (1125899906842624<(c[k]).Q))=false by simp only[xI,xA];omega,wE,BF (by omega)];by_cases h0:k=0
  ·subst h0;rfl
  ·have d:c[k-1]? =some c[k-1]:=by simp
   have m:=h.step d (q:=c[k]) (by rw[show k-1+1=k by omega];exact b);have g:BV ((k:Int)-1)=((k-1:Nat):Int):=by rw[Cw (by omega) (by omega)];omega
   rw[show decide ((0:Int)<(k:Int))=true by simp;omega,wD,g,BC (show k-1<c.length by omega)];simp only[wC];rw[show decide ((c[k]).M≤(c[k-1]).M)=false by simp only[xA];omega,show decide ((c[k]).Q<(c[k-1]).Q)=false by simp only[xA];omega];rfl) N 0 (by omega) (wL _)
def Rf {N:Nat}(a:18446744073709551616<N) {c:List A9}(h:DY c) {x:Int}(b:0≤x∧x≤1125899906842624):∃k l r,Vn (Ko c) x k l r∧Mh N c x=some (Ih l r x):=by
 obtain⟨k,l,r,d,g⟩:=LQ a h b;refine⟨k,l,r,d,?_⟩;unfold Mh;rw[Lx (by omega) h];simp only[wC,xE,wE,g]
def YJ {c:List A9}(h:DY c):∀{k:Nat}{p:A9},(Ko c)[k]? =some p→Jg p.Q:=by
 intro k p a;have m:=h.1;have b:(Ko c).length=c.length+2:=by simp [Ko]
 have l:=(wU.1 a).1;rw[b] at l;have g:∀i (j:i<c.length),Jg (c[i]).Q:=λi j=>(h.vol (k:=i) (by simp [j])).2;cases k with
 |zero=>
  rw[Sz] at a;cases a;rw[Oz (p:=c[0]) (by simp)];exact g 0 (by omega)
 |succ k=>
  by_cases d:k<c.length
  ·rw[N4 c d] at a;exact(h.vol a).2
  ·rw[show k+1=c.length+1 by omega,T5] at a;cases a;rw[Ow (p:=c[c.length-1]) (by simp)];exact g _ (by omega)
def Re {c:List A9}(h:DY c) {x:Int}{k:Nat}{l r:A9}(s:Vn (Ko c) x k l r):Jg (Ih l r x):=by
 have a:=s.bounds (Mn h);have b:=YJ h s.l_;have d:=YJ h s.r_;unfold Jg at*;omega
def Y1 {N:Nat}(u:18446744073709551616<N) {a b:List A9}(j:DY a) (l:DY b) (h:Fd N a b=some true):
  (∀(i:Nat) p,a[i]? =some p→∃v,Fb N b p.M=some v∧p.Q≤v.1)∧(∀(i:Nat) p,b[i]? =some p→∃v,Fb N a p.M=some v∧v.1≤p.Q∧(v.1=p.Q→v.2=false)):=by
 have x:=j.2.1;have y:=l.2.1;unfold Fd at h;rw[Lx (by omega) j,Lx (by omega) l] at h;simp only[wC,xE,wE] at h;rcases Ic a.length (D3 N a b (Dg N a b)) (Dg N a b) (λi=>∀p,a[i]? =some p→∃v,Fb N b p.M=some v∧p.Q≤v.1) (λn k c=>by
  simp only[D3];rw[Dk c];rfl) (λn k c=>by
  simp only[D3];have d:a[k]? =some a[k]:=by simp [c]
  obtain⟨_,_,_,_,e⟩:=LQ u l (j.vol d).1;rw[D2 c,wD,BC c,wC,e,wC,BF (by omega)];cases o:decide (Ih _ _ _<(a[k]).Q)
  ·refine .inr ⟨λp g=>?_,rfl⟩;cases d.symm.trans g;exact⟨_,e,by simpa using o⟩
  ·exact .inl rfl) N 0 (by omega) (wL _) with s|⟨s,h2⟩
 ·rw[show D3 N a b (Dg N a b) N 0=some false from s] at h;cases h
 ·rw[show D3 N a b (Dg N a b) N 0=Dg N a b from h2] at h;unfold Dg at h;rcases Ic b.length (EL N a b (Gi N)) (Gi N) (λi=>∀p,b[i]? =some p→∃v,Fb N a p.M=some v∧v.1≤p.Q∧(v.1=p.Q→v.2=false)) (λn k c=>by
   simp only[EL];rw[Dk c];rfl) (λn k c=>by
   simp only[EL];have d:b[k]? =some b[k]:=by simp [c]
   obtain⟨_,_,_,_,e⟩:=LQ u j (l.vol d).1;rw[D2 c,wD,BC c,wC,e,wC,BF (by omega)];generalize Ih _ _ _=q at*
   generalize decide (0<Pw _ _ _)=m at*
   cases o:(decide ((b[k]).Q<q)||(decide (q=(b[k]).Q)&&m))
   ·refine .inr ⟨λp g=>?_,rfl⟩;cases d.symm.trans g;simp only[xI,Aaw,xA] at o;exact⟨_,e,by show q≤_;omega,λh=>o.2.resolve_left λw=>w h⟩
   ·exact .inl rfl) N 0 (by omega) (wL _) with t|⟨t,h4⟩
  ·rw[show EL N a b (Gi N) N 0=some false from t] at h;cases h
  ·refine⟨λi p d=>s i (wL _) (wU.1 d).1 p d,λi p d=>t i (wL _) (wU.1 d).1 p d⟩
def KV (l r:A9) (x:Int):Int:=l.Q*(r.M-l.M)+(x-l.M)*(r.Q-l.Q)
def Qc {l r:A9}(h:l.M<r.M) (x:Int):Ih l r x*(r.M-l.M)+Pw l r x=KV l r x:=by
 have:=Int.ediv_mul_add_emod ((x-l.M)*(r.Q-l.Q)) (r.M-l.M);unfold Ih Pw KV;grind
def TU {l r:A9}(h:l.M<r.M) (x:Int):0≤Pw l r x∧Pw l r x<r.M-l.M:=⟨Int.emod_nonneg _ (by omega),Int.emod_lt_of_pos _ (by omega)⟩
def Zh (l r a r':A9) (x:Int):Prop:=KV l r x*(r'.M-a.M)≤KV a r' x*(r.M-l.M)
def Zh.mid {l r b r':A9}{x u v:Int}(c:Zh l r b r' u) (d:Zh l r b r' v) (i:u≤x) (j:x≤v) (g:u<v):Zh l r b r' x:=by
 unfold Zh KV at*;have k:=xS c (show 0≤v-x by omega);have m:=xS d (show 0≤x-u by omega);refine Int.le_of_mul_le_mul_right (a:=v-u) ?_ (by omega);grind
def Zh.val {l r c r':A9}{x:Int}(h:Zh l r c r' x) (j:l.M<r.M) (g:c.M<r'.M):Ih l r x≤Ih c r' x:=by
 have k:=Qc j x;have n:=Qc g x;have o:=TU j x;have p:=TU g x;unfold Zh at h;rw[←k,←n] at h;refine Int.not_lt.1 λt=>?_;generalize Ih l r x=a at*
 generalize Ih c r' x=b at*
 generalize Pw l r x=m at*
 generalize Pw c r' x=q at*
 have s:0<r.M-l.M:=by omega
 have u:0<r'.M-c.M:=by omega
 generalize r.M-l.M=d at*
 generalize r'.M-c.M=i at*
 have v:(b+1)*(d*i)≤a*(d*i):=xS (by omega) (zU (by omega) (by omega));have w:0≤m*i:=zU o.1 (by omega);have y:q*d<i*d:=Int.mul_lt_mul_of_pos_right p.2 s;grind
def Qk {c:List A9}{i:Nat}{p:A9}(a:(Ko c)[i]? =some p):(i=0∧p=⟨-1,(c.headD ⟨0,0⟩).Q⟩)∨(∃m,i=m+1∧c[m]? =some p)∨(i=c.length+1∧p=⟨2251799813685248,(c.getLastD ⟨0,0⟩).Q⟩):=by
 have b:(Ko c).length=c.length+2:=by simp [Ko]
 have d:=(wU.1 a).1;rw[b] at d;cases i with
 |zero=>rw[Sz] at a;cases a;exact .inl ⟨rfl,rfl⟩
 |succ m=>
  by_cases h:m<c.length
  ·rw[N4 c h] at a;exact .inr (.inl ⟨m,rfl,a⟩)
  ·have:m=c.length:=by omega
   subst this;rw[T5] at a;cases a;exact .inr (.inr ⟨rfl,rfl⟩)
def YD (l r:A9):KV l r l.M=l.Q*(r.M-l.M):=by unfold KV;grind
def Tc (l r:A9):KV l r r.M=r.Q*(r.M-l.M):=by unfold KV;grind
def Ww (l r:A9):Ih l r l.M=l.Q:=by unfold Ih;simp
def Tr {b:List A9}(a:DY b) {j:Nat}{u v:A9}(t:XO (Ko b) (-1) j u v):u=⟨-1,(b.headD ⟨0,0⟩).Q⟩:=by
 rcases Aa8 j with e|e
 ·subst e;have:=t.l_;rw[Sz] at this;exact(wP this).symm
 ·have h:=((Mn a).mono (wL j) (Sz b) t.l_).2.2 e;have:=t.lo;have h:(-1:Int)<u.M:=h;omega
def V9 {b:List A9}(a:DY b) {j:Nat}{u v:A9}(t:XO (Ko b) 2251799813685248 j u v):v=⟨2251799813685248,(b.getLastD ⟨0,0⟩).Q⟩:=by
 rcases Qk t.r_ with ⟨h,_⟩|⟨m,h1,h2⟩|⟨_,h⟩
 ·omega
 ·have:=(a.vol h2).1.2;have:=t.hi;omega
 ·exact h
def Wa {b:List A9}(a:DY b) {j:Nat}{p:A9}(h:(Ko b)[j]? =some p):(b.headD ⟨0,0⟩).Q≤p.Q:=((Mn a).mono (wL j) (Sz b) h).2.1
def YF {b:List A9}(c:DY b) {j:Nat}{p:A9}(h:(Ko b)[j]? =some p):p.Q≤(b.getLastD ⟨0,0⟩).Q:=by
 have a:(Ko b).length=b.length+2:=by simp [Ko]
 have d:=(wU.1 h).1;exact((Mn c).mono (show j≤b.length+1 by omega) h (T5 b)).2.1
def Rm {N:Nat}(G:18446744073709551616<N) {a b:List A9}(y:DY a) (z:DY b) (h:Fd N a b=some true) {x:Int}{k J:Nat}{l r d r':A9}(s:Vn (Ko a) x k l r) (t:Vn (Ko b) x J d r'):Ih l r x≤Ih d r' x:=by
 obtain⟨Z,ub⟩:=Y1 G y z h;have K:=Mn y;have U:=Mn z;have a1:=y.1;have b1:=z.1;have ca:∀(i:Nat) p,(Ko a)[i]? =some p→∀j u v,XO (Ko b) p.M j u v→p.Q*(v.M-u.M)≤KV u v p.M:=by
  intro i p hp j u v C;have D:=(U j u v C.l_ C.r_).1;have hd:0≤v.M-u.M:=by omega
  rcases Qk hp with ⟨_,rfl⟩|⟨m,_,hm⟩|⟨_,rfl⟩
  ·have V:=Tr z C;have e:KV u v (-1)=u.Q*(v.M-u.M):=by
    have:=YD u v;rw[V] at this ⊢;exact this
   show _≤KV u v (-1)
   rw[e];refine xS ?_ hd;have n:b[0]? =some b[0]:=by simp
   obtain⟨w,g,c,_⟩:=ub 0 _ n;obtain⟨W,A,B,o,F⟩:=LQ G y (z.vol n).1;rw[F] at g;cases g;have c:Ih A B (b[0]).M≤(b[0]).Q:=c;have:=(o.bounds K).1;have:=Wa y o.l_;have H:=Oz n;rw[V,H];show(a.headD ⟨0,0⟩).Q≤(b[0]).Q
   omega
  ·obtain⟨w,g,c⟩:=Z m p hm;obtain⟨W,A,B,o,F⟩:=LQ G z (y.vol hm).1;rw[F] at g;cases g;have c:p.Q≤Ih A B p.M:=c;rcases UK U C o with ⟨_,rfl,rfl⟩|⟨_,rfl,e⟩
   ·have h1:=Qc D p.M;have h2:=(TU D p.M).1;have h3:=xS c hd;omega
   ·rw[e,Ww] at c;rw[e,Tc];exact xS c hd
  ·have X:=V9 z C;have e:KV u v 2251799813685248=v.Q*(v.M-u.M):=by
    have:=Tc u v;rw[X] at this ⊢;exact this
   show _≤KV u v 2251799813685248
   rw[e];refine xS ?_ hd;have q:a[a.length-1]? =some a[a.length-1]:=by simp
   obtain⟨w,g,c⟩:=Z _ _ q;obtain⟨W,A,B,o,F⟩:=LQ G z (y.vol q).1;rw[F] at g;cases g;have c:(a[a.length-1]).Q≤Ih A B (a[a.length-1]).M:=c;have:=(o.bounds U).2;have:=YF z o.r_;have H:=Ow q;rw[X,H];show(a[a.length-1]).Q≤(b.getLastD ⟨0,0⟩).Q
   omega
 have cb:∀(i:Nat) p,(Ko b)[i]? =some p→∀j u v,XO (Ko a) p.M j u v→KV u v p.M≤p.Q*(v.M-u.M):=by
  intro i p hp j u v C;have D:=(K j u v C.l_ C.r_).1;have hd:0≤v.M-u.M:=by omega
  rcases Qk hp with ⟨_,rfl⟩|⟨m,_,hm⟩|⟨_,rfl⟩
  ·have V:=Tr y C;have e:KV u v (-1)=u.Q*(v.M-u.M):=by
    have:=YD u v;rw[V] at this ⊢;exact this
   show KV u v (-1)≤_
   rw[e];refine xS ?_ hd;have n:b[0]? =some b[0]:=by simp
   obtain⟨w,g,c,_⟩:=ub 0 _ n;obtain⟨W,A,B,o,F⟩:=LQ G y (z.vol n).1;rw[F] at g;cases g;have c:Ih A B (b[0]).M≤(b[0]).Q:=c;have:=(o.bounds K).1;have:=Wa y o.l_;have H:=Oz n;rw[V,H];show(a.headD ⟨0,0⟩).Q≤(b[0]).Q
   omega
  ·obtain⟨w,g,c,w3⟩:=ub m p hm;obtain⟨W,A,B,o,F⟩:=LQ G y (z.vol hm).1;rw[F] at g;cases g;have c:Ih A B p.M≤p.Q:=c;have w3:Ih A B p.M=p.Q→¬0<Pw A B p.M:=λh=>Aaf (w3 h);rcases UK K C o with ⟨_,rfl,rfl⟩|⟨_,rfl,e⟩
   ·have h1:=Qc D p.M;have h2:=TU D p.M;rcases Int.lt_or_eq_of_le c with h|h
    ·have h3:=xS (show Ih u v p.M+1≤p.Q by omega) hd;rw[Int.add_mul,Int.one_mul] at h3;omega
    ·have h3:=w3 h;rw[h] at h1;omega
   ·rw[e,Ww] at c;rw[e,Tc];exact xS c hd
  ·have X:=V9 y C;have e:KV u v 2251799813685248=v.Q*(v.M-u.M):=by
    have:=Tc u v;rw[X] at this ⊢;exact this
   show KV u v 2251799813685248≤_
   rw[e];refine xS ?_ hd;have q:a[a.length-1]? =some a[a.length-1]:=by simp
   obtain⟨w,g,c⟩:=Z _ _ q;obtain⟨W,A,B,o,F⟩:=LQ G z (y.vol q).1;rw[F] at g;cases g;have c:(a[a.length-1]).Q≤Ih A B (a[a.length-1]).M:=c;have:=(o.bounds U).2;have:=YF z o.r_;have H:=Ow q;rw[X,H];show(a[a.length-1]).Q≤(b.getLastD ⟨0,0⟩).Q
   omega
 have hl:=(K k l r s.l_ s.r_).1;have aa:=(U J d r' t.l_ t.r_).1;have s1:=s.lo;have s2:=s.hi;have t1:=t.lo;have t2:=t.hi;have ab:Zh l r d r' (max l.M d.M):=by
  unfold Zh;rcases Int.le_total l.M d.M with e|e
  ·rw[Int.max_eq_right e];have:=cb J d t.l_ k l r ⟨s.l_,s.r_,e,by omega⟩;have I:KV d r' d.M=d.Q*(r'.M-d.M):=by unfold KV;grind
   rw[I];have:=xS this (show 0≤r'.M-d.M by omega);grind
  ·rw[Int.max_eq_left e];have:=ca k l s.l_ J d r' ⟨t.l_,t.r_,e,by omega⟩;have I:KV l r l.M=l.Q*(r.M-l.M):=by unfold KV;grind
   rw[I];have:=xS this (show 0≤r.M-l.M by omega);grind
 have Y:Zh l r d r' (min r.M r'.M):=by
  unfold Zh;rcases Int.le_total r.M r'.M with e|e
  ·rw[Int.min_eq_left e];have:=ca (k+1) r s.r_ J d r' ⟨t.l_,t.r_,by omega,e⟩;have I:KV l r r.M=r.Q*(r.M-l.M):=by unfold KV;grind
   rw[I];have:=xS this (show 0≤r.M-l.M by omega);grind
  ·rw[Int.min_eq_right e];have:=cb (J+1) r' t.r_ k l r ⟨s.l_,s.r_,by omega,e⟩;have I:KV d r' r'.M=r'.Q*(r'.M-d.M):=by unfold KV;grind
   rw[I];have:=xS this (show 0≤r'.M-d.M by omega);grind
 exact(ab.mid Y (by omega) (by omega) (by omega)).val hl aa
def Ib (n:Int):Int:=max (-9223372036854775808) (min 9223372036854775807 n)
def Uc (N:Nat) {a b:Int}(i:AA a) (j:AA b):Dz N a b=some (Ib (a+b)):=by
 obtain⟨k,l⟩:=i;obtain⟨m,n⟩:=j;unfold Dz Ib;by_cases h:0<b
 ·have d:BV (9223372036854775807-b)=9223372036854775807-b:=Cw (by omega) (by omega);rw[d,wJ h,zE];by_cases c:9223372036854775807-b<a
  ·rw[wJ c,wD];congr 1;omega
  ·rw[wM c,wE,wM (show ¬b<0 by omega),zB,wE,Cw (by omega) (by omega)];congr 1;omega
 ·rw[wM h,zB,wE];by_cases g:b<0
  ·have d:BV (-9223372036854775808-b)= -9223372036854775808-b:=Cw (by omega) (by omega);rw[d,wJ g,zE];by_cases c:a< -9223372036854775808-b
   ·rw[wJ c,wD];congr 1;omega
   ·rw[wM c,wE,Cw (by omega) (by omega)];congr 1;omega
  ·rw[wM g,zB,wE,Cw (by omega) (by omega)];congr 1;omega
def uL (N:Nat) {a b:Int}(i:AA a) (j:AA b):Da N a b=some (Ib (a-b)):=by
 obtain⟨k,l⟩:=i;obtain⟨m,n⟩:=j;unfold Da Ib;by_cases h:b<0
 ·have d:BV (9223372036854775807+b)=9223372036854775807+b:=Cw (by omega) (by omega);rw[d,wJ h,zE];by_cases c:9223372036854775807+b<a
  ·rw[wJ c,wD];congr 1;omega
  ·rw[wM c,wE,wM (show ¬0<b by omega),zB,wE,Cw (by omega) (by omega)];congr 1;omega
 ·rw[wM h,zB,wE];by_cases g:0<b
  ·have d:BV (-9223372036854775808+b)= -9223372036854775808+b:=Cw (by omega) (by omega);rw[d,wJ g,zE];by_cases c:a< -9223372036854775808+b
   ·rw[wJ c,wD];congr 1;omega
   ·rw[wM c,wE,Cw (by omega) (by omega)];congr 1;omega
  ·rw[wM g,zB,wE,Cw (by omega) (by omega)];congr 1;omega
def W2 (n:Int):AA (Ib n):=by unfold Ib AA;omega
def jV {n:Int}(h:AA n):Ib n=n:=by obtain⟨a,b⟩:=h;unfold Ib;omega
def pt (v n d:Int):Int:=(eI v n d).1
def Nd {N:Nat}(a:18446744073709551616<N) (v n d:Int):Ii N v n d=some (pt v n d):=by
 unfold Ii pt;rw[MA a,wC];unfold eI;split<;>rfl
def Tp {N:Nat}(a:18446744073709551616<N) (v n d:Int):LH N v n d=some (pt v n d):=by
 unfold LH pt;rw[MA a,wC];unfold eI;split<;>rfl
def Ss {v n d:Int}(b:0≤v∧v≤1125899906842624) (c:0≤n) (a:n≤d) (hd:d≤1125899906842624):pt v n d=v*n/d:=by
 have:=RC (t:=v) (n:=n) (d:=d) (by omega) a b.1;unfold pt eI;by_cases h:1≤d
 ·rw[wG ⟨b,⟨c,by omega⟩,⟨h,hd⟩,by omega⟩]
 ·have e:d=0:=by omega
  rw[wF (λg=>h g.2.2.1.1),e];simp
def Mt (v n d:Int):0≤pt v n d∧pt v n d≤1125899906842624:=by
 unfold pt eI;split
 ·rename_i h;exact⟨QD (by omega) h.2.1.1 h.1.1,h.2.2.2⟩
 ·exact⟨by decide,by decide⟩
structure Wu (n d s:Int):Prop where
 n0:0≤n
 nd:n≤d
 dm:d≤1125899906842624
 s0:0≤s
 sl:n*1099511627776≤s*d
def Wu.lip {n d s:Int}(h:Wu n d s) {u v:Int}(b:0≤u) (a:u≤v) (c:v≤1125899906842624):pt u n d≤pt v n d∧pt v n d≤v∧(pt v n d-pt u n d-1)*1099511627776≤s*(v-u):=by
 have h0:=h.n0;have g:=h.nd;rw[Ss ⟨b,by omega⟩ h.n0 h.nd h.dm,Ss ⟨by omega,c⟩ h.n0 h.nd h.dm];refine⟨R7 (by omega) h0 a,RC (by omega) g (by omega),?_⟩;by_cases hd:0<d
 ·exact XD hd h.sl a
 ·have:d=0:=by omega
  subst this;have:=zU h.s0 (show 0≤v-u by omega);simp;omega
def lI {y z p P:Int}(h0:0≤p) (b:p≤P) (d:y≤z):z*p/P≤y*p/P+(z-y):=by
 by_cases c:0<P
 ·have:z*p≤y*p+(z-y)*P:=by
   have:=zF b (show 0≤z-y by omega);grind
  have a:=Int.ediv_le_ediv c this;rw[Int.add_mul_ediv_right _ _ (by omega)] at a;exact a
 ·have:P=0:=by omega
  subst this;simp;omega
def T3 {y p q P:Int}(h0:0≤y) (a:p≤q) (b:0≤P):y*p/P≤y*q/P:=by
 rcases Int.lt_or_eq_of_le b with h|h
 ·exact Int.ediv_le_ediv h (zF a h0)
 ·rw[←h];simp
structure Vv (N:Nat) (l:AS) (s t:Int):Prop where
 s0:0≤s
 t0:0≤t
 gate:l.I=0→DY l.Au∧DY l.Ac.B∧DY l.Ac.A∧Fd N l.Ac.B l.Au=some true∧Fd N l.Au l.Ac.A=some true∧(0≤l.X∧l.X≤64)∧(0≤l.Aw∧l.Aw≤1125899906842624)∧oM (Ko l.Ac.B) s∧(l.C≠ -1→Wu l.Aj l.Ag t)
 weir:l.I=1∨l.I=5→Wu l.W l.R s∧(0≤l.Ax∧l.Ax≤1125899906842624)
 pump:l.I=2→(0≤l.W∧l.W≤1125899906842624)∧(1≤l.X∧l.X≤64)
 siph:l.I=3→Wu l.W l.R s∧(0≤l.Ae∧l.Ae≤1125899906842624)∧(0≤l.Ab∧l.Ab≤1125899906842624)
 seep:l.I=4→Wu l.W l.R s∧Wu l.Aj l.Ag t∧l.C≠ -1
 spd:0≤l.Am∧l.Am≤l.X∧l.X≤64
structure TP (l:AS) (k:AF):Prop where
 pos:0≤k.P.B∧k.P.B≤k.P.A∧k.P.A≤l.X
 tgt:0≤k.S∧k.S≤l.X
 opn:(k.N=⟨0,0⟩)∨((l.I=5∨l.I=3)∧(k.N=⟨1,1⟩∨k.N=⟨0,1⟩))
def MC (l:AS) (fr to:Int):Int:=if l.C= -1 then fr else max 0 (fr-pt to l.Aj l.Ag)
def Uu {N:Nat}(a:18446744073709551616<N) (l:AS) {fr to:Int}(b:0≤fr∧fr≤1125899906842624):Mv N l fr to=some (MC l fr to):=by
 unfold Mv MC;by_cases h:l.C= -1
 ·rw[wJ h,wD,wG h]
 ·have:=Mt to l.Aj l.Ag;rw[wM h,wE,wF h,Nd a,wC,K3 N (by omega) (by omega) (by omega) (by omega),wC]
def OZ (l:AS) {fr:Int}(to:Int) (a:0≤fr∧fr≤1125899906842624):0≤MC l fr to∧MC l fr to≤1125899906842624:=by
 have:=Mt to l.Aj l.Ag;unfold MC;split<;>omega
def ZR (l:AS) {u v to:Int}(h:u≤v):MC l u to≤MC l v to∧MC l v to-MC l u to≤v-u:=by
 unfold MC;split<;>omega
def WX {N:Nat}{l:AS}{s t:Int}(d:Vv N l s t) (h0:l.I=0) {fr a b:Int}(g:0≤a) (c:a≤b) (i:b≤1125899906842624):MC l fr b≤MC l fr a:=by
 unfold MC;by_cases h:l.C= -1
 ·rw[wG h,wG h];exact yE _
 ·rw[wF h,wF h];have:=((d.gate h0).2.2.2.2.2.2.2.2 h).lip g c i;omega
def YY {N:Nat}(g:18446744073709551616<N) {l:AS}(h0:l.I=0) {c:List A9}(i:DY c) (s:0≤l.X∧l.X≤64) (u:0≤l.Aw∧l.Aw≤1125899906842624) {pos fr to:Int}(a:0≤pos∧pos≤l.X) (o:Bool) (j:0≤fr∧fr≤1125899906842624):
  ∃k p q,Vn (Ko c) (MC l fr to) k p q∧Ja N l pos o c fr to=some (Ih p q (MC l fr to)*pos/l.X+l.Aw):=by
 obtain⟨k,p,q,m,e⟩:=Rf g i (OZ l to j);refine⟨k,p,q,m,?_⟩;have b:=Re i m;unfold Jg at b;unfold Ja LM;rw[wJ h0,wD,Uu g l j,wC,e,wC,Nd g,Ss b a.1 a.2 (by omega),wC];have:=RC (t:=Ih p q (MC l fr to)) (n:=pos) (d:=l.X) (by omega) a.2 b.1;have:=QD (t:=Ih p q (MC l fr to)) (n:=pos) (d:=l.X) (by omega) a.1 b.1;rw[La N (by omega) (by omega) (by omega) (by omega),wC]
structure TE (s u v:Int) (a c:AB):Prop where
 lo:0≤a.B
 hi:0≤a.A∧a.A≤4503599627370496
 lo2:0≤c.B∧c.B≤4503599627370496
 hi2:c.A≤4503599627370496
 le:a.B≤c.A
 lip:(c.B-a.A-1)*1099511627776≤s*(v-u)
def fG {l:AS}{k:AF}(h:TP l k):decide (1≤k.N.B)=true→decide (1≤k.N.A)=true:=by
 rcases h.opn with e|⟨_,e|e⟩<;>rw[e]<;>decide
def Wl {N:Nat}(g:18446744073709551616<N) {l:AS}{s t:Int}(F:Vv N l s t) (h0:l.I=0) {k:AF}(hk:TP l k) {to:AB}(o:0≤to.B∧to.B≤to.A∧to.A≤1125899906842624) {u v:Int}(hu:0≤u) (K:u≤v) (hv:v≤1125899906842624):
  ∃a c,Ep N l k ⟨u,u⟩ to=some a∧Ep N l k ⟨v,v⟩ to=some c∧TE s u v a c:=by
 obtain⟨p,j,m,u1,u2,x,G,hS,hB⟩:=F.gate h0;have hp:=hk.pos;have b:0≤k.P.B∧k.P.B≤l.X:=by omega
 have d:0≤k.P.A∧k.P.A≤l.X:=by omega
 obtain⟨_,p1,q1,s1,e1⟩:=YY g h0 j x G b (decide (1≤k.N.B)) (to:=to.A) (show 0≤u∧u≤1125899906842624 by omega);obtain⟨_,p2,q2,s2,e2⟩:=YY g h0 m x G d (decide (1≤k.N.A)) (to:=to.B) (show 0≤u∧u≤1125899906842624 by omega);obtain⟨_,p3,q3,s3,e3⟩:=YY g h0 j x G b (decide (1≤k.N.B)) (to:=to.A) (show 0≤v∧v≤1125899906842624 by omega);obtain⟨_,p4,q4,s4,e4⟩:=YY g h0 m x G d (decide (1≤k.N.A)) (to:=to.B) (show 0≤v∧v≤1125899906842624 by omega);refine⟨⟨_,_⟩,⟨_,_⟩,by unfold Ep;rw[e1,wC,e2,wC],by unfold Ep;rw[e3,wC,e4,wC],?_⟩;have M:=Mn j;have i3:=Mn m;have Q:=Re j s1;have U:=Re m s2;have V:=Re j s3;have W:=Re m s4;unfold Jg at Q U V W;have z:=OZ l to.B (show 0≤u∧u≤1125899906842624 by omega);have Y:=OZ l to.B (show 0≤v∧v≤1125899906842624 by omega);obtain⟨_,p5,q5,H,_⟩:=Rf g j z;obtain⟨_,p6,q6,J,_⟩:=Rf g j Y;obtain⟨_,p7,q7,s7,_⟩:=Rf g p z;obtain⟨_,p8,q8,s8,_⟩:=Rf g p (OZ l to.A (show 0≤u∧u≤1125899906842624 by omega));obtain⟨_,p9,q9,s9,_⟩:=Rf g m (OZ l to.A (show 0≤u∧u≤1125899906842624 by omega));have b1:=Rm g j p u1 H s7;have b2:=Rm g p m u2 s7 s2;have b3:=Rm g j p u1 s1 s8;have b4:=Rm g p m u2 s8 s9;have hd:=ZR l (to:=to.B) K;have Z:=WX F h0 (fr:=v) o.1 o.2.1 o.2.2;have aa:=WX F h0 (fr:=u) o.1 o.2.1 o.2.2;have m1:=s3.mono M J Z;have m2:=H.mono M J hd.1;have m3:=s9.mono i3 s4 (by omega);have L:=H.lip M hS J hd.1;have v5:=Re j H;have v6:=Re j J;unfold Jg at v5 v6;have hs:=zF hd.2 F.s0;generalize Ih p1 q1 _=C at*
 generalize Ih p2 q2 _=q at*
 generalize Ih p3 q3 _=w at*
 generalize Ih p4 q4 _=D at*
 generalize Ih p5 q5 _=y5 at*
 generalize Ih p6 q6 _=y6 at*
 generalize Ih p9 q9 _=y9 at*
 have i:=x.1;have r1:=RC (t:=C) (n:=k.P.B) i b.2 Q.1;have r2:=RC (t:=q) (n:=k.P.A) i d.2 U.1;have r3:=RC (t:=w) (n:=k.P.B) i b.2 V.1;have r4:=RC (t:=D) (n:=k.P.A) i d.2 W.1;have n1:=QD (t:=C) i b.1 Q.1;have n2:=QD (t:=q) i d.1 U.1;have n3:=QD (t:=w) i b.1 V.1;have w1:=R7 (t:=w) (t':=y6) i b.1 m1;have w2:=T3 (y:=y6) v6.1 hp.2.1 i;have w3:=lI d.1 d.2 m2;have w4:=R7 (t:=y5) (t':=q) i d.1 (by omega);have w5:=R7 (t:=C) (t':=D) i b.1 (by omega);have w6:=T3 (y:=D) W.1 hp.2.1 i;refine⟨by show 0≤C*k.P.B/l.X+l.Aw;omega,⟨by show 0≤q*k.P.A/l.X+l.Aw;omega,by show q*k.P.A/l.X+l.Aw≤_;omega⟩,⟨by show 0≤w*k.P.B/l.X+l.Aw;omega,by show w*k.P.B/l.X+l.Aw≤_;omega⟩,by show D*k.P.A/l.X+l.Aw≤_;omega,by show C*k.P.B/l.X+l.Aw≤D*k.P.A/l.X+l.Aw;omega,?_⟩;show(w*k.P.B/l.X+l.Aw-(q*k.P.A/l.X+l.Aw)-1)*1099511627776≤s*(v-u)
 refine yK (xS (show _≤y6-y5-1 by omega) (by decide)) (yK L hs)
def Xq {n d s:Int}(h:Wu n d s) {u v x y:Int}(c:0≤x) (a:x≤y) (g:y≤1125899906842624) (hd:y-x≤v-u):pt x n d≤pt y n d∧(pt y n d-pt x n d-1)*1099511627776≤s*(v-u):=by
 have b:=h.lip c a g;exact⟨b.1,yK b.2.2 (zF hd h.s0)⟩
def TZ {s D x:Int}(a:0≤s) (b:0≤D) (c:x≤1):(x-1)*1099511627776≤s*D:=by
 have:=zU a b;omega
def Za {N:Nat}(H:18446744073709551616<N) {l:AS}{s t:Int}(z:Vv N l s t) (ad:l.I=0∨l.I=1∨l.I=2∨l.I=3∨l.I=5) {k:AF}(V:TP l k) {to:AB}(ht:0≤to.B∧to.B≤to.A∧to.A≤1125899906842624) {u v:Int}(J:0≤u) (C:u≤v) (K:v≤1125899906842624):
  ∃a c,Ep N l k ⟨u,u⟩ to=some a∧Ep N l k ⟨v,v⟩ to=some c∧TE s u v a c:=by
 have p:=fG V;have D:=V.pos;have M:=z.s0;by_cases h0:l.I=0
 ·exact Wl H z h0 V ht J C K
 have g0:∀j o c fr F,Ja N l j o c fr F=cond (decide (l.I=2)) (Ka N l j) (cond (decide (l.I=3)) (Kb N l o fr (Ij N)) (cond (decide (l.I=5)) (Kc N o (GS N l fr)) (cond (decide (l.I=1)) (GS N l fr) (Ij N)))):=by
  intro j o c fr F;unfold Ja;rw[wM h0,wE]
 unfold Ep;simp only[g0];by_cases Y:l.I=2
 ·obtain⟨q,p2⟩:=z.pump Y;simp only[wJ Y,wD,Ka,Nd H,wC];refine⟨_,_,rfl,rfl,?_⟩;rw[Ss q D.1 (by omega) (by omega),Ss q (by omega) D.2.2 (by omega)];have r1:=RC (t:=l.W) (n:=k.P.B) (d:=l.X) (by omega) (by omega) q.1;have r2:=RC (t:=l.W) (n:=k.P.A) (d:=l.X) (by omega) D.2.2 q.1;have n1:=QD (t:=l.W) (n:=k.P.B) (d:=l.X) (by omega) D.1 q.1;have w:=T3 (y:=l.W) (P:=l.X) q.1 D.2.1 (by omega);generalize l.W*k.P.B/l.X=y1 at*
  generalize l.W*k.P.A/l.X=Q at*
  exact⟨n1,⟨by show 0≤Q;omega,by show Q≤_;omega⟩,⟨n1,by show y1≤_;omega⟩,by show Q≤_;omega,w,TZ M (by omega) (by show y1-Q≤1;omega)⟩
 ·simp only[wM Y,wE];have U:Wu l.W l.R s→0≤l.Ax→l.Ax≤1125899906842624→∀x,0≤x→x≤1125899906842624→GS N l x=some (pt (max 0 (x-l.Ax)) l.W l.R):=by
   intro i b g x ae af;unfold GS;rw[K3 N (by omega) (by omega) (by omega) (by omega),wC,Nd H,wC]
  have G:=Mt (max 0 (u-l.Ax)) l.W l.R;have Z:=Mt (max 0 (v-l.Ax)) l.W l.R;have i3:=Mt u l.W l.R;have i4:=Mt v l.W l.R;have z0:TE s u v ⟨0,0⟩ ⟨0,0⟩:=⟨by decide,⟨by decide,by decide⟩,⟨by decide,by decide⟩,by decide,by decide,TZ M (by omega) (by decide)⟩
  by_cases h3:l.I=3
  ·obtain⟨i,_,_⟩:=z.siph h3;obtain⟨m,L⟩:=Xq i (u:=u) (v:=v) J C K (yE _);simp only[wJ h3,wD,Kb,Ij,Nd H,wC];generalize aa:decide (1≤k.N.B)=ol at p ⊢
   generalize ab:decide (1≤k.N.A)=oh at p ⊢
   generalize pt u l.W l.R=x at*
   generalize pt v l.W l.R=y at*
   cases ol<;>cases oh
   ·exact⟨_,_,rfl,rfl,z0⟩
   ·exact⟨_,_,rfl,rfl,(show(0:Int)≤0 by decide),⟨i3.1,by show x≤_;omega⟩,⟨(show(0:Int)≤0 by decide),(show(0:Int)≤4503599627370496 by decide)⟩,by show y≤_;omega,i4.1,TZ M (by omega) (by show 0-x≤1;omega)⟩
   ·exact absurd (p rfl) (by decide)
   ·exact⟨_,_,rfl,rfl,i3.1,⟨i3.1,by show x≤_;omega⟩,⟨i4.1,by show y≤_;omega⟩,by show y≤_;omega,m,L⟩
  ·simp only[wM h3,wE];have ac:l.I=1∨l.I=5:=by omega
   obtain⟨i,b,g⟩:=z.weir ac;obtain⟨m,L⟩:=Xq i (u:=u) (v:=v) (x:=max 0 (u-l.Ax)) (y:=max 0 (v-l.Ax)) (by omega) (by omega) (by omega) (by omega);by_cases h5:l.I=5
   ·simp only[wJ h5,wD,Kc,U i b g u J (by omega),U i b g v (by omega) K];generalize aa:decide (1≤k.N.B)=ol at p ⊢
    generalize ab:decide (1≤k.N.A)=oh at p ⊢
    generalize pt _ l.W l.R=x at*
    generalize pt _ l.W l.R=y at*
    cases ol<;>cases oh
    ·exact⟨_,_,rfl,rfl,z0⟩
    ·exact⟨_,_,rfl,rfl,(show(0:Int)≤0 by decide),⟨G.1,by show x≤_;omega⟩,⟨(show(0:Int)≤0 by decide),(show(0:Int)≤4503599627370496 by decide)⟩,by show y≤_;omega,Z.1,TZ M (by omega) (by show 0-x≤1;omega)⟩
    ·exact absurd (p rfl) (by decide)
    ·exact⟨_,_,rfl,rfl,G.1,⟨G.1,by show x≤_;omega⟩,⟨Z.1,by show y≤_;omega⟩,by show y≤_;omega,m,L⟩
   ·simp only[wM h5,wE,wJ (show l.I=1 by omega),wD,U i b g u J (by omega),U i b g v (by omega) K,wC];generalize pt _ l.W l.R=x at*
    generalize pt _ l.W l.R=y at*
    exact⟨_,_,rfl,rfl,G.1,⟨G.1,by show x≤_;omega⟩,⟨Z.1,by show y≤_;omega⟩,by show y≤_;omega,m,L⟩
def sl (N:Nat) (a b:Int):Int:=(Er N a b).getD 0
def slN {b a q r:Nat}(hd:0<a) (g:b≤a) (c:q=b*1099511627776/a) (d:r=b*1099511627776%a):q≤1099511627776∧b*1099511627776=q*a+r∧r<a:=by
 refine⟨?_,by rw[c,d];exact Wc _ _,by rw[d];exact yF _ hd⟩;rw[c];exact Nat.div_le_of_le_mul (by rw[zZ a];rw[zZ b];exact Nat.mul_le_mul_left _ g)
def Hs {N:Nat}(m:18446744073709551616<N) {num den:Int}(h0:0≤num∧num≤1125899906842624) (c:0≤den∧den≤1125899906842624):
  Er N num den=some (sl N num den)∧0≤sl N num den∧sl N num den≤1099511627777∧(sl N num den≤1099511627776→(den=0→num=0)→Wu num den (sl N num den))∧(sl N num den≤1099511627776→den≠0→num*1099511627776≤sl N num den*den):=by
 suffices h:∃s,Er N num den=some s∧0≤s∧s≤1099511627777∧(s≤1099511627776→(den=0→num=0)→Wu num den s)∧(s≤1099511627776→den≠0→num*1099511627776≤s*den) by
  obtain⟨s,e,h⟩:=h;have:sl N num den=s:=by unfold sl;rw[e];rfl
  rw[this];exact⟨e,h⟩
 unfold Er;by_cases hd:den=0
 ·rw[wJ hd,wD];exact⟨0,rfl,by decide,by decide,λ_ h=>⟨h0.1,by have:=h hd;omega,c.2,by decide,by rw[h hd,hd];decide⟩,λ_ h=>absurd hd h⟩
 ·rw[wM hd,wE];by_cases k:den<num
  ·rw[wJ k,wD];exact⟨_,rfl,by decide,by decide,λh=>absurd h (by decide),λh=>absurd h (by decide)⟩
  ·rw[wM k,wE];obtain⟨a,rfl⟩:∃n:Nat,num=n:=⟨num.toNat,by omega⟩
   obtain⟨b,rfl⟩:∃n:Nat,den=n:=⟨den.toNat,by omega⟩
   have d:0<b:=by omega
   have g:a≤b:=by omega
   rw[E5 a (by omega),E5 b (by omega),show(1099511627776:Int)=((1099511627776:Nat):Int) from rfl,Rv N a 1099511627776 (by omega) (by omega),wC];have i:a*1099511627776/18446744073709551616<b:=by omega
   rw[We m _ _ _ (yF _ (by omega)) (by omega) i,←Wc (a*1099511627776) 18446744073709551616,wC];obtain⟨t,o,u⟩:=slN d g rfl rfl;generalize a*1099511627776/b=q at*
   generalize a*1099511627776%b=r at*
   have j:(a:Int)*1099511627776=q*b+r:=by rw[show (1099511627776:Int)=((1099511627776:Nat):Int) from rfl,←zO,o,Int.natCast_add,zO]
   by_cases p:r=0
   ·subst p;rw[show decide (((0:Nat):Int)≠0)=false from rfl,wE];unfold Je;rw[Cw (by omega) (by omega)];refine⟨_,rfl,by omega,by omega,λ_ _=>⟨by omega,by omega,c.2,by omega,by rw[j];exact Int.le_of_eq (Int.add_zero _)⟩,λ_ _=>by show(a:Int)*1099511627776≤_;rw[j];exact Int.le_of_eq (Int.add_zero _)⟩
   ·rw[show decide ((r:Int)≠0)=true by simp;omega,wD];unfold Je;rw[show ((q:Int)+1)=((q+1:Nat):Int) from rfl,E5 (q+1) (by omega),Cw (by omega) (by omega)];have l:(a:Int)*1099511627776≤((q+1:Nat):Int)*b:=by
     rw[j,Int.natCast_add,Int.add_mul];omega
    exact⟨_,rfl,by omega,by omega,λ_ _=>⟨by omega,by omega,c.2,by omega,l⟩,λ_ _=>l⟩
def X7 {t:Type}(L:Nat) (f:Nat→Int→Int→Option t) (kj:Int→Option t) (I:Nat→Int→Prop) (a:∀n (k:Nat) s,L≤k→f (n+1) s (k:Int)=kj s) (b:∀n (k:Nat) s,I k s→k<L→1≤k→∃s',I (k+1) s'∧f (n+1) s (k:Int)=f n s' ((k+1:Nat):Int)):
  ∀n (k:Nat) s,I k s→1≤k→L<n+k→k≤L→∃s',I L s'∧f n s (k:Int)=kj s'
 |0,k,s,_,_,h,g=>by omega
 |n+1,k,s,d,i,h,g=>by
  rcases xB k L with c|c
  ·obtain⟨j,l,m⟩:=b n k s d c i;obtain⟨o,p,q⟩:=X7 L f kj I a b n (k+1) j l (by omega) (by omega) (by omega);exact⟨o,p,m.trans q⟩
  ·have:k=L:=by omega
   subst this;exact⟨s,d,a n k s c⟩
def Wn (N:Nat) (c:List A9) (m:Nat) (s:Int):Prop:=∀k l r,k+1<m→c[k]? =some l→c[k+1]? =some r→sl N (r.Q-l.Q) (r.M-l.M)≤s
def Wx {N:Nat}(u:18446744073709551616<N) {c:List A9}(b:DY c) (kj:Int→Option Int) (a:Int) (g:0≤a∧a≤1099511627777):∃s,(a≤s∧s≤1099511627777∧Wn N c c.length s)∧Ck N c kj N a 1=kj s:=by
 have v:=b.1;have B:=b.2.1;refine X7 c.length (Ck N c kj) kj (λk s=>a≤s∧s≤1099511627777∧Wn N c k s) (λn k s d=>by
  simp only[Ck];rw[Dk d];rfl) (λn k s o d C=>?_) N 1 a ⟨yE _,g.2,λk l r h=>by omega⟩ (by omega) (by omega) v
 obtain⟨D,F,w⟩:=o;have j:c[k]? =some c[k]:=by simp [d]
 have m:c[k-1]? =some c[k-1]:=by simp
 have G:=b.step m (q:=c[k]) (by rw[show k-1+1=k by omega];exact j);have x:=b.vol j;have y:=b.vol m;unfold Jg at x y;simp only[Ck];have z:BV ((k:Int)-1)=((k-1:Nat):Int):=by rw[Cw (by omega) (by omega)];omega
 rw[D2 d,wD,z,BC d,BC (show k-1<c.length by omega)];simp only[wC,BF (show k<4611686018427387904 by omega)];rw[Cw (n:=(c[k]).Q-(c[k-1]).Q) (by omega) (by omega),Cw (n:=(c[k]).M-(c[k-1]).M) (by omega) (by omega)];obtain⟨A,H,I,_⟩:=Hs u (num:=(c[k]).Q-(c[k-1]).Q) (den:=(c[k]).M-(c[k-1]).M) (by omega) (by omega);rw[A];refine⟨_,⟨?_,?_,?_⟩,rfl⟩
 ·omega
 ·omega
 ·intro i l r o p t;by_cases e:i+1=k
  ·subst e;cases j.symm.trans t;have:l=c[i+1-1]:=by
    have:=m.symm.trans (show c[i+1-1]? =some l by rw[Aar];exact p);exact(wP this).symm
   rw[this];omega
  ·have:=w i l r (by omega) p t;omega
def eH (N:Nat) (l:AS):Int:=(Gl N [l.Au,l.Ac.B,l.Ac.A]).getD 0
def Tn {N:Nat}(b:18446744073709551616<N) {l:AS}(g:DY l.Au) (i:DY l.Ac.B) (j:DY l.Ac.A):Gl N [l.Au,l.Ac.B,l.Ac.A]=some (eH N l)∧0≤eH N l∧eH N l≤1099511627777∧Wn N l.Ac.B l.Ac.B.length (eH N l):=by
 suffices h:∃s,Gl N [l.Au,l.Ac.B,l.Ac.A]=some s∧0≤s∧s≤1099511627777∧Wn N l.Ac.B l.Ac.B.length s by
  obtain⟨s,e,h⟩:=h;have:eH N l=s:=by unfold eH;rw[e];rfl
  rw[this];exact⟨e,h⟩
 unfold Gl;obtain⟨M,rfl⟩:∃M,N=M+4:=⟨N-4,by omega⟩
 obtain⟨c,⟨u,v,_⟩,m⟩:=Wx b g (DL (M+4) 0 (CL (M+4) [l.Au,l.Ac.B,l.Ac.A] (Cm (M+4)) (M+3))) 0 (by omega);obtain⟨d,⟨w,z,n⟩,o⟩:=Wx b i (DL (M+4) 1 (CL (M+4) [l.Au,l.Ac.B,l.Ac.A] (Cm (M+4)) (M+2))) c (by omega);obtain⟨a,⟨C,D,_⟩,p⟩:=Wx b j (DL (M+4) 2 (CL (M+4) [l.Au,l.Ac.B,l.Ac.A] (Cm (M+4)) (M+1))) d (by omega);refine⟨a,?_,by omega,by omega,λk x y h q t=>by have:=n k x y h q t;omega⟩;show Ck (M+4) l.Au (DL (M+4) 0 (CL (M+4) [l.Au,l.Ac.B,l.Ac.A] (Cm (M+4)) (M+3))) (M+4) 0 1=some a
 rw[m];show Ck (M+4) l.Ac.B (DL (M+4) 1 (CL (M+4) [l.Au,l.Ac.B,l.Ac.A] (Cm (M+4)) (M+2))) (M+4) c 1=some a
 rw[o];show Ck (M+4) l.Ac.A (DL (M+4) 2 (CL (M+4) [l.Au,l.Ac.B,l.Ac.A] (Cm (M+4)) (M+1))) (M+4) d 1=some a
 rw[p];rfl
def eU {N:Nat}(o:18446744073709551616<N) {c:List A9}(b:DY c) {s:Int}(h0:0≤s) (z:s≤1099511627776) (h:Wn N c c.length s):oM (Ko c) s:=by
 intro k l r g a;have t:=Mn b k l r g a;rcases Qk g with ⟨rfl,e⟩|⟨m,rfl,hm⟩|⟨rfl,e⟩
 ·have u:c[0]? =some r:=by rw[←N4 c (by have:=b.1;omega)];exact a
  have d:l.Q=r.Q:=by rw[e,←Oz u]
  rw[d,Int.sub_self,Int.zero_mul];exact zU h0 (by omega)
 ·have v:=(wU.1 hm).1;by_cases d:m+1<c.length
  ·rw[N4 c d] at a;have w:=h m l r d hm a;have x:=b.vol hm;have y:=b.vol a;unfold Jg at x y;obtain⟨_,_,_,_,q⟩:=Hs o (num:=r.Q-l.Q) (den:=r.M-l.M) (by omega) (by omega);have q:=q (by omega) (by omega);exact yK q (xS w (by omega))
  ·have i:m+1=c.length:=by omega
   rw[i,T5] at a;cases a;have j:=Ow (c:=c) (p:=l) (by rw[←i,Aar];exact hm);rw[j,Int.sub_self,Int.zero_mul];rw[j] at t;exact zU h0 (by omega)
 ·have n:(Ko c).length=c.length+2:=by simp [Ko]
  have:=(wU.1 a).1;omega
structure tP (N:Nat) (b:AH) (l:AS):Prop where
 base:Ld b l
 gate:l.I=0→Fd N l.Ac.B l.Au=some true∧Fd N l.Au l.Ac.A=some true∧(0≤l.X∧l.X≤64)∧(0≤l.Am∧l.Am≤l.X)∧(0≤l.Aw∧l.Aw≤1125899906842624)∧(l.Ag=0→l.Aj=0)∧(l.C≠ -1∨l.Ag=0)
 weir:l.I=1∨l.I=5→0≤l.Ax∧l.Ax≤1125899906842624
 pump:l.I=2→(0≤l.W∧l.W≤1125899906842624)∧(1≤l.X∧l.X≤64)∧(0≤l.Am∧l.Am≤l.X)
 siph:l.I=3→(0≤l.Ae∧l.Ae≤1125899906842624)∧(0≤l.Ab∧l.Ab≤1125899906842624)∧l.Ab<l.Ae
 seep:l.I=4→(l.Ag=0→l.Aj=0)
 none_:l.I≠0→l.I≠2→l.X=0∧l.Am=0
def YH {a b:Int}(h:Uv a b=true):b=0→a=0:=by
 intro c;simp only[Uv,wI,wZ,wW] at h;exact h.2.resolve_left λh=>h c
def XE {N:Nat}(t:18446744073709551616<N) {b:AH}{l:AS}(d:Ld b l) (h:Gz N l=some true) (a:Gy N l=some true):tP N b l:=by
 have J:=d.kind;have k:l.I≠0→l.I≠2→l.X=0∧l.Am=0:=by
  intro h0 g;unfold Gy at a;rw[wM h0,wJ g] at a;simp only[Bool.not_false,zE] at a;cases n:(decide (0<(l.Au.length:Int))||decide (0<(l.Ac.B.length:Int))||decide (0<(l.Ac.A.length:Int))||decide (l.Aw≠0)) with
  |true=>rw[n] at a;cases a
  |false=>
   rw[n,wE] at a;cases i:(decide (l.X≠0)||decide (l.Am≠0)) with
   |true=>rw[i] at a;cases a
   |false=>
    simp only[xI,xA] at i;exact⟨Decidable.not_not.1 i.1,Decidable.not_not.1 i.2⟩
 unfold Gz at h;by_cases k0:l.I=0
 ·obtain⟨n,i,C,K,M⟩:=d.gate k0;obtain⟨Q,u⟩:=Rn t l.Ac.B l.Au;obtain⟨U,v⟩:=Rn t l.Au l.Ac.A;rw[wJ k0,wD,Lx (by omega) n,Lx (by omega) i,Lx (by omega) C] at h;simp only[u,v,OY,NX,R6,wC,Eb,Sf] at h;have h:=wP h;simp only[wI,wZ,wW] at h;obtain⟨⟨⟨⟨⟨⟨⟨⟨⟨_,_⟩,_⟩,o⟩,q⟩,D⟩,F⟩,G⟩,H⟩,s⟩:=h;subst o;subst q;exact⟨d,λ_=>⟨u,v,L7 D,L7 F,Mc G,YH H,s⟩,λh=>by omega,λh=>by omega,λh=>by omega,λh=>by omega,k⟩
 ·rw[wM k0,wE] at h;have w:∀c:Bool,(c=true↔l.I=1∨l.I=5)→ES N l c=some true→tP N b l:=by
   intro c x h;unfold ES at h;simp only[OY,NX,R6,wC,Eb,Sf] at h;cases c
   ·have V:¬(l.I=1∨l.I=5):=λh=>by have:=x.2 h;cases this
    rw[wE] at h;by_cases y:l.I=2
    ·rw[wJ y,wD] at h;have h:=wP h;simp only[wI] at h;obtain⟨⟨m,g⟩,j⟩:=h;exact⟨d,λh=>by omega,λh=>by omega,λ_=>⟨Mc m,L7 g,L7 j⟩,λh=>by omega,λh=>by omega,k⟩
    ·rw[wM y,wE] at h;by_cases z:l.I=3
     ·rw[wJ z,wD] at h;have h:=wP h;simp only[wI,wW] at h;obtain⟨⟨⟨⟨m,g⟩,j⟩,o⟩,q⟩:=h;exact⟨d,λh=>by omega,λh=>by omega,λh=>by omega,λ_=>⟨Mc j,Mc o,q⟩,λh=>by omega,k⟩
     ·rw[wM z,wE] at h;have h:=wP h;simp only[wI,wW] at h;obtain⟨⟨⟨m,g⟩,j⟩,o⟩:=h;exact⟨d,λh=>by omega,λh=>by omega,λh=>by omega,λh=>by omega,λ_=>YH j,k⟩
   ·have W:=x.1 rfl;rw[wD] at h;have h:=wP h;simp only[wI] at h;obtain⟨⟨m,g⟩,j⟩:=h;exact⟨d,λh=>by omega,λ_=>Mc m,λh=>by omega,λh=>by omega,λh=>by omega,k⟩
  by_cases p:l.I=1
  ·rw[wJ p,wD] at h;exact w true (by simp [p]) h
  ·rw[wM p,wE] at h;exact w _ (by simp [p]) h
def ZI {N:Nat}(c:18446744073709551616<N) {b:AH}(d:JT b) (p:∀l∈b.D,Ld b l) (h:GY N b=some true):∀l∈b.D,tP N b l:=by
 have v:=d.pl;have w:=d.li;unfold GY at h;rcases Ic b.D.length (DB N b (EC N)) (EC N) (λi=>∀l,b.D[i]? =some l→tP N b l) (λn k h=>by
  simp only[DB];rw[Dk h];rfl) (λn k h=>by
  simp only[DB];obtain⟨x,g,y⟩:=Uy c b.D[k];obtain⟨q,j⟩:=Ue N b.D[k];rw[D2 h,wD,BC h];simp only[wC,OY,R0 N _ (show b.F.length<4611686018427387904 by omega),ST N b _ _ (show b.F.length<4611686018427387904 by omega),g,j,Eb,NA,BF (show k<4611686018427387904 by omega)];generalize m:(_|| !q)=B
  cases B
  ·simp only[xI,zC] at m;obtain⟨⟨_,s⟩,t⟩:=m;subst s;subst t;refine .inr ⟨λl a=>?_,rfl⟩;have:l=b.D[k]:=by simpa [h] using a.symm
   rw[this];exact XE c (p _ (wT h)) g j
  ·exact .inl rfl) N 0 (by omega) (wL _) with u|⟨hp,_⟩
 ·rw[show DB N b (EC N) N 0=some false from u] at h;cases h
 ·intro l a;obtain⟨i,o,rfl⟩:=yZ.1 a;exact hp i (wL _) o _ (by simp [o])
def Nu (N:Nat) (l:AS):Int:=if l.I=0 then eH N l else if l.I=1∨l.I=5∨l.I=3 then sl N l.W l.R else if l.I=4 then 2*sl N l.W l.R else 0
def Pz (N:Nat) (l:AS):Int:=if l.I=0∧l.C≠ -1 then sl N l.Aj l.Ag else if l.I=4 then 2*sl N l.Aj l.Ag else 0
def QK (N:Nat) (l:AS) (i:Nat):Int:=(if l.V=(i:Int) then Nu N l else 0)+(if l.C=(i:Int) then Pz N l else 0)
def Gf {n:Int}(h:Jg n):0≤n∧n≤1125899906842624:=h
def Tq {N:Nat}(a:18446744073709551616<N) {b:AH}{l:AS}(d:Ld b l):(0≤Nu N l∧Nu N l≤2199023255554)∧(0≤Pz N l∧Pz N l≤2199023255554):=by
 unfold Nu Pz;by_cases k0:l.I=0
 ·obtain⟨k,m,n,o,p⟩:=d.gate k0;obtain⟨_,v,w,_⟩:=Tn a k m n;obtain⟨_,j,t2,_⟩:=Hs a (Gf o) (Gf p);rw[wG k0];refine⟨by omega,?_⟩;split
  ·omega
  ·rw[wF (by omega)];omega
 ·rw[wF k0,wF (show ¬(l.I=0∧l.C≠ -1) from λh=>k0 h.1)];by_cases g:l.I=1∨l.I=5∨l.I=3
  ·obtain⟨i,q,s⟩:=d.part g;obtain⟨_,j,t2,_⟩:=Hs a (Gf i) (show 0≤l.R∧l.R≤_ by omega);rw[wG g,wF (by omega)];omega
  ·rw[wF g];by_cases c:l.I=4
   ·obtain⟨i,q,s,t,u,_⟩:=d.seep c;obtain⟨_,j,t2,_⟩:=Hs a (Gf i) (show 0≤l.R∧l.R≤_ by omega);obtain⟨_,x,y,_⟩:=Hs a (Gf t) (Gf u);rw[wG c,wG c];omega
   ·rw[wF c,wF c];omega
def bT {N:Nat}(a:18446744073709551616<N) {b:AH}{l:AS}(c:Ld b l) (i:Nat):0≤QK N l i∧QK N l i≤4398046511108:=by
 obtain⟨d,g⟩:=Tq a c;unfold QK;split<;>split<;>omega
def Holds (n:Nat) (s:List Int) (a:Nat→Int):Prop:=s.length=n∧∀i,i<n→s[i]? =some (a i)
def Holds.ix {n:Nat}{s:List Int}{c:Nat→Int}(h:Holds n s c) {a:Int}(h0:0≤a) (b:a<n):ix s a=some (c a.toNat):=by
 unfold Go.Proofs.YtibidnaedddfdaaGreat.ix;rw[wF (by omega)];exact h.2 _ (by omega)
def Holds.upd {n:Nat}{s:List Int}{j:Nat→Int}(h:Holds n s j) {a:Int}(h0:0≤a) (c:a<n) (v:Int):Holds n (upd s a v) (λi=>if (i:Int)=a then v else j i):=by
 refine⟨by rw[Mk,h.1],λi b=>?_⟩;unfold Go.Proofs.YtibidnaedddfdaaGreat.upd;rw[List.getElem?_set];have d:=h.1;show _=some (if (i:Int)=a then v else j i)
 by_cases e:(i:Int)=a
 ·rw[wG (by omega),wG (by omega),wG e]
 ·rw[wF (by omega),wF e];exact h.2 i b
def Holds.congr {n:Nat}{s:List Int}{c a:Nat→Int}(h:Holds n s c) (e:∀i,i<n→c i=a i):Holds n s a:=⟨h.1,λi b=>(h.2 i b).trans (wH some (e i b))⟩
def Xj {N:Nat}(u:18446744073709551616<N) (b:AH) (J:JT b) (Z:∀l∈b.D,Ld b l) (kj:List Int→Option Bool):∀(n k:Nat) (s:List Int) (g:Nat→Int),Holds b.F.length s g→(∀i,0≤g i∧g i≤(1+4*(k:Int))*1099511627777)→b.D.length<n+k→k≤b.D.length→
  ∃s',Holds b.F.length s' (λi=>g i+((b.D.drop k).map λl=>QK N l i).sum)∧BW N b kj n (k:Int) s=kj s'
 |0,k,s,g,q,_,h,hk=>by omega
 |n+1,k,s,g,q,hg,h,hk=>by
  have q3:=J.pl;have q4:=J.li;simp only[BW];rcases xB k b.D.length with p|p
  ·rw[D2 p,wD,BC p];simp only[wC];have v:=Z b.D[k] (wT p);rw[Aac p];generalize b.D[k]=l at v
   have sp:=Tq u v;have aa:=v.to;have j:=v.fr;have A:∀s:List Int,Holds b.F.length s (λi=>g i+QK N l i)→∃s',Holds b.F.length s' (λi=>g i+((l::b.D.drop (k+1)).map λl=>QK N l i).sum)∧CG N (k:Int) (BW N b kj n) s=kj s':=λs q=>by
    unfold CG;rw[BF (show k<4611686018427387904 by omega)];obtain⟨s',B,K⟩:=Xj u b J Z kj n (k+1) s _ q (λi=>by have:=hg i;have:=bT u v i;omega) (by omega) (by omega);exact⟨s',B.congr λi _=>by simp only[xQ,Aag];omega,K⟩
   have m:∀i,0≤g i∧g i≤4503599627370496:=λi=>by have:=hg i;omega
   have M:=q.ix j.1 j.2;have gx:=m l.V.toNat;have Q:∀c:Bool,(c=true↔l.I=1∨l.I=5∨l.I=3)→l.I≠0→∃s',Holds b.F.length s' (λi=>g i+((l::b.D.drop (k+1)).map λl=>QK N l i).sum)∧DW N s l (CG N (k:Int) (BW N b kj n)) c=kj s':=λc p k0=>by
    unfold DW;cases c
    ·have hn:¬(l.I=1∨l.I=5∨l.I=3):=λh=>by have:=p.2 h;cases this
     rw[wE];by_cases w:l.I=4
     ·rw[wJ w,wD];obtain⟨B,K,h3,h4,h5,h6⟩:=v.seep w;obtain⟨G,v1,v2,_⟩:=Hs u (Gf B) (show 0≤l.R∧l.R≤_ by omega);obtain⟨x,v3,v4,_⟩:=Hs u (Gf h4) (Gf h5);have z:=q.upd j.1 j.2 (BV (g l.V.toNat+BV (2*sl N l.W l.R)));have y:=z.ix (a:=l.C) (by omega) (by omega);simp only[M,G,y,x,wC];refine A _ ((z.upd (a:=l.C) (by omega) (by omega) _).congr λi U=>?_);have gi:=m i;have gt:=m l.C.toNat;unfold QK Nu Pz;rw[wF k0,wF hn,wG w,wF (show ¬(l.I=0∧l.C≠ -1) from λh=>k0 h.1),wG w];rw[Cw (n:=2*sl N l.W l.R) (by omega) (by omega),Cw (n:=2*sl N l.Aj l.Ag) (by omega) (by omega),Cw (n:=g l.V.toNat+2*sl N l.W l.R) (by omega) (by omega)];by_cases t:(i:Int)=l.C
      ·have et:l.C.toNat=i:=by omega
       rw[wG t,wG t.symm,et];by_cases d:(i:Int)=l.V
       ·have o:l.V.toNat=i:=by omega
        rw[wG d,wG d.symm,o,Cw (by omega) (by omega)];omega
       ·rw[wF d,wF (show ¬l.V=(i:Int) from λh=>d h.symm),Cw (by omega) (by omega)];omega
      ·rw[wF t,wF (show ¬l.C=(i:Int) from λh=>t h.symm)];by_cases d:(i:Int)=l.V
       ·have o:l.V.toNat=i:=by omega
        rw[wG d,wG d.symm,o];omega
       ·rw[wF d,wF (show ¬l.V=(i:Int) from λh=>d h.symm)];omega
     ·rw[wM w,wE];refine A s (q.congr λi _=>?_);unfold QK Nu Pz;rw[wF k0,wF hn,wF w,wF (show ¬(l.I=0∧l.C≠ -1) from λh=>k0 h.1),wF w];split<;>split<;>omega
    ·have hy:=p.1 rfl;rw[wD];obtain⟨B,K,h3⟩:=v.part hy;obtain⟨G,v1,v2,_⟩:=Hs u (Gf B) (show 0≤l.R∧l.R≤_ by omega);simp only[M,G,wC];refine A _ ((q.upd j.1 j.2 _).congr λi U=>?_);unfold QK Nu Pz;rw[wF k0,wG hy,wF (show ¬(l.I=0∧l.C≠ -1) from λh=>k0 h.1),wF (show ¬l.I=4 by omega),Cw (by omega) (by omega)];by_cases d:(i:Int)=l.V
     ·have o:l.V.toNat=i:=by omega
      rw[wG d,wG d.symm,o];split<;>omega
     ·rw[wF d,wF (show ¬l.V=(i:Int) from λh=>d h.symm)];split<;>omega
   by_cases k0:l.I=0
   ·rw[wJ k0,wD];obtain⟨c1,c2,c3,c4,c5⟩:=v.gate k0;obtain⟨G,v1,v2,_⟩:=Tn u c1 c2 c3;obtain⟨x,v3,v4,_⟩:=Hs u (Gf c4) (Gf c5);have z:=q.upd j.1 j.2 (BV (g l.V.toNat+eH N l));simp only[M,G,wC];by_cases H:l.C= -1
    ·rw[show decide (l.C≠ -1)=false by simp [H],wE];refine A _ (z.congr λi U=>?_);unfold QK Nu Pz;rw[wG k0,wF (show ¬(l.I=0∧l.C≠ -1) from λh=>h.2 H),wF (show ¬l.I=4 by omega),Cw (by omega) (by omega)];by_cases d:(i:Int)=l.V
     ·have o:l.V.toNat=i:=by omega
      rw[wG d,wG d.symm,o];split<;>omega
     ·rw[wF d,wF (show ¬l.V=(i:Int) from λh=>d h.symm)];split<;>omega
    ·rw[show decide (l.C≠ -1)=true by simp [H],wD];have y:=z.ix (a:=l.C) (by omega) (by omega);simp only[y,x,wC];refine A _ ((z.upd (a:=l.C) (by omega) (by omega) _).congr λi U=>?_);have gi:=m i;have gt:=m l.C.toNat;unfold QK Nu Pz;rw[wG k0,wG (show l.I=0∧l.C≠ -1 from⟨k0,H⟩),Cw (n:=g l.V.toNat+eH N l) (by omega) (by omega)];by_cases t:(i:Int)=l.C
     ·have et:l.C.toNat=i:=by omega
      rw[wG t,wG t.symm,et];by_cases d:(i:Int)=l.V
      ·have o:l.V.toNat=i:=by omega
       rw[wG d,wG d.symm,o,Cw (by omega) (by omega)];omega
      ·rw[wF d,wF (show ¬l.V=(i:Int) from λh=>d h.symm),Cw (by omega) (by omega)];omega
     ·rw[wF t,wF (show ¬l.C=(i:Int) from λh=>t h.symm)];by_cases d:(i:Int)=l.V
      ·have o:l.V.toNat=i:=by omega
       rw[wG d,wG d.symm,o];omega
      ·rw[wF d,wF (show ¬l.V=(i:Int) from λh=>d h.symm)];omega
   ·rw[wM k0,wE];by_cases X:l.I=1
    ·rw[wJ X,wD];exact Q true ⟨λ_=> .inl X,λ_=>rfl⟩ k0
    ·rw[wM X,wE];by_cases Y:l.I=5
     ·rw[wJ Y,wD];exact Q true ⟨λ_=> .inr (.inl Y),λ_=>rfl⟩ k0
     ·rw[wM Y,wE];exact Q _ ⟨λh=> .inr (.inr (by simpa using h)),λh=>by simp;omega⟩ k0
  ·rw[Dk p];refine⟨s,q.congr λi _=>?_,rfl⟩;rw[zN p];simp
def Wz {N:Nat}(q:18446744073709551616<N) {b:AH}(t:JT b) (y:∀p∈b.F,MM b p) (G:∀l∈b.D,Ld b l) (h:Fo N b=some true):
  ∀(i:Nat) p,b.F[i]? =some p→sl N p.W p.R+(b.D.map λl=>QK N l i).sum≤1099511627776:=by
 have V:=t.pl;have X:=t.li;unfold Fo at h;rw[show OX (b.F.length:Int) (b.F.length:Int) 8=true by simp [OX];omega] at h;simp only[chk,wD] at h;obtain⟨u,H,I⟩:=F4 b.F.length (λn i s=>Cu N b (Cf N b) n i s) (Cf N b) (λk s=>Holds b.F.length s (λi=>if i<k then sl N ((b.F.getD i default).W) ((b.F.getD i default).R) else 0)) (λn k s d=>by
  simp only[Cu];rw[Dk d];rfl) (λn k s c d=>by
  have j:=y b.F[k] (wT d);obtain⟨z,J,K,_⟩:=Hs q (Gf j.num) (Gf j.den);have o:=c.ix (a:=(k:Int)) (by omega) (by omega);simp only[Cu];rw[D2 d,wD,BC d];simp only[wC,z,o,BF (show k<4611686018427387904 by omega)];refine⟨_,(c.upd (a:=(k:Int)) (by omega) (by omega) (sl N b.F[k].W b.F[k].R)).congr λi M=>?_,rfl⟩;by_cases e:i=k
  ·subst e;rw[wG rfl,wG (by omega),xW,wR d];rfl
  ·rw[wF (by omega)];by_cases A:i<k
   ·rw[wG A,wG (by omega)]
   ·rw[wF A,wF (by omega)]) N 0 (List.replicate ((b.F.length:Int):Int).toNat 0) ⟨by simp,λi c=>by simp [c]⟩ (by omega) (wL _)
 rw[show Cu N b (Cf N b) N 0 (List.replicate ((b.F.length:Int):Int).toNat 0)=Cf N b u from I] at h;unfold Cf at h;have v:∀i,0≤(if i<b.F.length then sl N ((b.F.getD i default).W) ((b.F.getD i default).R) else 0)∧(if i<b.F.length then sl N ((b.F.getD i default).W) ((b.F.getD i default).R) else 0)≤(1+4*((0:Nat):Int))*1099511627777:=by
  intro i;split
  ·rename_i c;have j:=y b.F[i] (wT c);obtain⟨z,J,K,_⟩:=Hs q (Gf j.num) (Gf j.den);rw[xW,wR c];simp only[xJ];omega
  ·omega
 obtain⟨g,B,Q⟩:=Xj q b t G (CH N) N 0 u _ H v (by omega) (wL _);rw[show BW N b (CH N) N 0 u=CH N g from Q] at h;unfold CH at h;have U:=B.1;rcases Ic g.length (Ct N g (Dq N)) (Dq N) (λi=>∀x,g[i]? =some x→x≤1099511627776) (λn k h=>by
  simp only[Ct];rw[Dk h];rfl) (λn k h=>by
  simp only[Ct];rw[D2 h,wD,BC h];simp only[wC,BF (show k<4611686018427387904 by omega)];by_cases o:1099511627776<g[k]
  ·rw[wJ o];exact .inl rfl
  ·rw[wM o];refine .inr ⟨λx e=>?_,rfl⟩;rw[wR h] at e;cases e;omega) N 0 (by omega) (wL _) with w|⟨w,_⟩
 ·rw[show Ct N g (Dq N) N 0=some false from w] at h;cases h
 ·intro i p m;have c:=(wU.1 m).1;have C:(if i<b.F.length then sl N (b.F.getD i default).W (b.F.getD i default).R else 0)+((b.D.drop 0).map λl=>QK N l i).sum≤1099511627776:=w i (wL _) (by omega) _ (B.2 i c);rw[wG c,xW,m] at C;exact C
structure Ol (N:Nat) (b:AH):Prop where
 head:JT b
 places:∀p∈b.F,MM b p
 links:∀l∈b.D,Ld b l
 lk:∀l∈b.D,Vv N l (Nu N l) (Pz N l)
 ctr0:∀l∈b.D,∀i,0≤QK N l i
 rt:∀p∈b.F,p.R≠0→Wu p.W p.R (sl N p.W p.R)
 rt0:∀p∈b.F,0≤sl N p.W p.R
 sums:∀(i:Nat) p,b.F[i]? =some p→sl N p.W p.R+(b.D.map λl=>QK N l i).sum≤1099511627776
def uW {N:Nat}(a:18446744073709551616<N) {b:AH}{l:AS}(h:tP N b l) (c:Nu N l≤1099511627776) (g:l.C≠ -1→Pz N l≤1099511627776):Vv N l (Nu N l) (Pz N l):=by
 have j:=h.base;have x:=Tq a j;have hk:=j.kind;refine⟨x.1.1,x.2.1,λk0=>?_,λQ=>?_,λk=>⟨(h.pump k).1,(h.pump k).2.1⟩,λy=>?_,λp=>?_,?_⟩
 ·obtain⟨z,q,D,U,V⟩:=j.gate k0;obtain⟨t,u,v,X,F,G,Y⟩:=h.gate k0;obtain⟨_,Z,s2,s3⟩:=Tn a z q D;have i:Nu N l=eH N l:=by unfold Nu;rw[wG k0]
  rw[i] at c ⊢;refine⟨z,q,D,t,u,v,F,eU a q Z c s3,λH=>?_⟩;have w:Pz N l=sl N l.Aj l.Ag:=by unfold Pz;rw[wG (show l.I=0∧l.C≠ -1 from⟨k0,H⟩)]
  have g:=g H;rw[w] at g ⊢;exact(Hs a (Gf U) (Gf V)).2.2.2.1 g G
 ·obtain⟨m,J,K⟩:=j.part (by omega);have i:Nu N l=sl N l.W l.R:=by unfold Nu;rw[wF (show ¬l.I=0 by omega),wG (show l.I=1∨l.I=5∨l.I=3 by omega)]
  rw[i] at c ⊢;exact⟨(Hs a (Gf m) (show 0≤l.R∧l.R≤_ by omega)).2.2.2.1 c (λh=>by omega),h.weir Q⟩
 ·obtain⟨m,J,K⟩:=j.part (by omega);have i:Nu N l=sl N l.W l.R:=by unfold Nu;rw[wF (show ¬l.I=0 by omega),wG (show l.I=1∨l.I=5∨l.I=3 by omega)]
  rw[i] at c ⊢;exact⟨(Hs a (Gf m) (show 0≤l.R∧l.R≤_ by omega)).2.2.2.1 c (λh=>by omega),(h.siph y).1,(h.siph y).2.1⟩
 ·obtain⟨m,J,K,p4,p5,M⟩:=j.seep p;have i:Nu N l=2*sl N l.W l.R:=by unfold Nu;rw[wF (show ¬l.I=0 by omega),wF (show ¬(l.I=1∨l.I=5∨l.I=3) by omega),wG p]
  have w:Pz N l=2*sl N l.Aj l.Ag:=by unfold Pz;rw[wF (show ¬(l.I=0∧l.C≠ -1) by omega),wG p]
  have g:=g M;rw[i] at c ⊢;rw[w] at g ⊢;obtain⟨_,a1,_,a2,_⟩:=Hs a (Gf m) (show 0≤l.R∧l.R≤_ by omega);obtain⟨_,b1,_,b2,_⟩:=Hs a (Gf p4) (Gf p5);have A:=a2 (by omega) (λh=>by omega);have B:=b2 (by omega) (h.seep p);have o:∀{n d s:Int},Wu n d s→Wu n d (2*s):=λ{n d s} h=>by
   have h0:=h.n0;have h1:=h.nd;have h2:=h.s0;refine⟨h0,h1,h.dm,by omega,yK h.sl (xS (by omega) (by omega))⟩
  exact⟨o A,o B,M⟩
 ·by_cases k0:l.I=0
  ·obtain⟨t,u,v,X,F,G,Y⟩:=h.gate k0;omega
  ·by_cases k:l.I=2
   ·obtain⟨t,u,v⟩:=h.pump k;omega
   ·have:=h.none_ k0 k;omega
def nE {N:Nat}(j:18446744073709551616<N) {b:AH}(h:KM N b=some true):Ol N b∧Mo b:=by
 obtain⟨v,e,k⟩:=WD j b;rw[h] at e;cases e;have k:=k rfl;have m:GY N b=some true∧Fo N b=some true:=by
  unfold KM at h;obtain⟨y9,_,h⟩:=bd h;obtain⟨aa,ab,h⟩:=bd h;obtain⟨ac,ad,h⟩:=bd h;obtain⟨ae,A,h⟩:=bd h;obtain⟨af,B,h⟩:=bd h;obtain⟨ag,G,h⟩:=bd h;obtain⟨ah,H,h⟩:=bd h;obtain⟨ai,I,h⟩:=bd h;obtain⟨aj,J,h⟩:=bd h;have n:∀{c:Bool} {x:Option Bool} {d:Bool},cond c (x.bind λy=>some y) (some false)=some d→d=true→c=true∧x=some true:=by
   intro c x d K hd;subst hd;cases c
   ·cases K
   ·cases x with
    |none=>cases K
    |some y=>exact⟨rfl,K⟩
  have M:=wP h;have Q:=n J M;have U:=n I Q.1;have X:=n H U.1;have o:=n G X.1;have Y:=n B o.1;have Z:=n A Y.1;exact⟨Z.2,o.2⟩
 have lf:=ZI j k.head k.links m.1;have sm:=Wz j k.head k.places k.links m.2;have u:∀l∈b.D,∀i,0≤QK N l i:=λl a i=>(bT j (k.links l a) i).1;have r0:∀p∈b.F,0≤sl N p.W p.R:=λp q=>(Hs j (Gf (k.places p q).num) (Gf (k.places p q).den)).2.1;have s:∀l∈b.D,∀(i:Nat),i<b.F.length→QK N l i≤1099511627776:=λl a i w=>by
  have g:=sm i _ (wR w);have h2:=r0 _ (wT w);obtain⟨x,y,e⟩:=List.append_of_mem a;have hx:0≤(x.map λl=>QK N l i).sum:=Ml λz t=>u z (by rw[e];simp [t]) i;have hy:0≤(y.map λl=>QK N l i).sum:=Ml λz t=>u z (by rw[e];simp [t]) i;have e2:(b.D.map λl=>QK N l i).sum=(x.map λl=>QK N l i).sum+(QK N l i+(y.map λl=>QK N l i).sum):=by
   rw[e,yP,Aau,xQ,Aag]
  omega
 refine⟨⟨k.head,k.places,k.links,λl a=>?_,u,λp q hd=>?_,r0,sm⟩,k⟩
 ·have sp:=Tq j (k.links l a);have fr:=(k.links l a).fr;have to:=(k.links l a).to;refine uW j (lf l a) ?_ λht=>?_
  ·have g:=s l a l.V.toNat (by omega);unfold QK at g;rw[wG (show l.V=((l.V.toNat:Nat):Int) by omega)] at g;split at g<;>omega
  ·have g:=s l a l.C.toNat (by omega);unfold QK at g;rw[wG (show l.C=((l.C.toNat:Nat):Int) by omega)] at g;split at g<;>omega
 ·obtain⟨i,w,rfl⟩:=yZ.1 q;have g:=sm i _ (wR w);have h2:0≤(b.D.map λl=>QK N l i).sum:=Ml λz t=>u z t i;have ok:=k.places _ q;exact(Hs j (Gf ok.num) (Gf ok.den)).2.2.2.1 (by omega) (λh=>absurd h hd)
end Go.Proofs.YtibidnaedddfdaaGreat
