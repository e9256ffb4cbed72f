import Derived.Test.YtibidnaedddfdaaGreatEPureDiv2
namespace Go.Proofs.YtibidnaedddfdaaGreat
set_option linter.all false
open Go.RowKit
def Gi {σ t:Type}(L:Nat) (f:Nat→Int→σ→Option t) (c:σ→Option t) (I:Nat→σ→Prop) (a:∀n (k:Nat) s,L≤k→f (n+1) (k:Int) s=c s) (b:∀n (k:Nat) s,I k s→k<L→∃s',I (k+1) s'∧f (n+1) (k:Int) s=f n ((k+1:Nat):Int) s'):
  ∀n (k:Nat) s,I k s→L<n+k→k≤L→∃s',I L s'∧f n (k:Int) s=c s'
 |0,k,s,_,h,i=>by omega
 |n+1,k,s,g,h,i=>by
  rcases vG k L with d|d
  ·obtain⟨j,l,m⟩:=b n k s g d;obtain⟨o,p,q⟩:=Gi L f c I a b n (k+1) j l (by omega) (by omega);exact⟨o,p,m.trans q⟩
  ·have:k=L:=by omega
   subst this;exact⟨s,g,a n k s d⟩
def Qw (L:Nat) (f:Nat→Int→Option Bool) (m:Option Bool) (c:Nat→Bool) (a:∀n (k:Nat),L≤k→f (n+1) (k:Int)=m) (b:∀n (k:Nat),k<L→f (n+1) (k:Int)=cond (c k) (f n ((k+1:Nat):Int)) (some false)):
  ∀n (k:Nat),L<n+k→k≤L→((∀i,k≤i→i<L→c i=true)∧f n (k:Int)=m)∨((∃i,k≤i∧i<L∧c i=false)∧f n (k:Int)=some false)
 |0,k,h,q=>by omega
 |n+1,k,h,q=>by
  rcases vG k L with j|j
  ·have d:=b n k j;cases l:c k with
   |false=>rw[l] at d;exact .inr ⟨⟨k,uW _,j,l⟩,d⟩
   |true=>
    rw[l] at d;rcases Qw L f m c a b n (k+1) (by omega) (by omega) with ⟨p,o⟩|⟨⟨i,p,o,h4⟩,h5⟩
    ·refine .inl ⟨λi s g=>?_,d.trans o⟩;by_cases e:i=k
     ·subst e;exact l
     ·exact p i (by omega) g
    ·exact .inr ⟨⟨i,by omega,o,h4⟩,d.trans h5⟩
  ·exact .inl ⟨λi s g=>by omega,a n k j⟩
def VT {l:List Int}{k:Nat}(h:k<l.length):(l.take (k+1)).sum=(l.take k).sum+l[k]:=by
 rw[yQ h,yZ];simp
def Si:∀{l:List Int},(∀x∈l,0≤x)→0≤l.sum
 |[],_=>by simp
 |a::l,h=>by
  have c:=h a (vW ..);have d:=Si (l:=l) λx b=>h x (vX _ b);simp only[zA];omega
def NQ {l:List Int}(h:∀x∈l,0≤x) (k:Nat):0≤(l.take k).sum∧(l.take k).sum≤l.sum:=by
 have b:=Si (l:=l.take k) λx a=>h x (zM a);have c:=Si (l:=l.drop k) λx a=>h x (zN a);have d:(l.take k).sum+(l.drop k).sum=l.sum:=by rw[←yZ,yK]
 omega
abbrev MV:Int:=1125899906842624
def L9 (N:Nat) {a b:Int}(l: -4611686018427387903≤a) (m:a≤4611686018427387903) (n: -4611686018427387903≤b) (o:b≤4611686018427387903):Es N a b=some (a+b):=by
 unfold Es;have d:BR (a+b)=a+b:=CT (by omega) (by omega);by_cases p:0<b
 ·have i:BR (9223372036854775807-b)=9223372036854775807-b:=CT (by omega) (by omega);rw[i,d];have g:decide (9223372036854775807-b<a)=false:=by simp;omega
  have c:decide (b<0)=false:=by simp;omega
  rw[g,c];simp
 ·have g:decide (0<b)=false:=by simp;omega
  rw[g];by_cases j:b<0
  ·have k:BR (-9223372036854775808-b)= -9223372036854775808-b:=CT (by omega) (by omega);have c:decide (a< -9223372036854775808-b)=false:=by simp;omega
   rw[k,d,c];simp
  ·have c:decide (b<0)=false:=by simp;omega
   rw[c,d];simp
def KY (N:Nat) {a b:Int}(l: -4611686018427387903≤a) (m:a≤4611686018427387903) (n: -4611686018427387903≤b) (o:b≤4611686018427387903):Dq N a b=some (a-b):=by
 unfold Dq;have d:BR (a-b)=a-b:=CT (by omega) (by omega);by_cases p:b<0
 ·have i:BR (9223372036854775807+b)=9223372036854775807+b:=CT (by omega) (by omega);have g:decide (9223372036854775807+b<a)=false:=by simp;omega
  have c:decide (0<b)=false:=by simp;omega
  rw[i,d,g,c];simp
 ·have g:decide (b<0)=false:=by simp;omega
  rw[g];by_cases j:0<b
  ·have k:BR (-9223372036854775808+b)= -9223372036854775808+b:=CT (by omega) (by omega);have c:decide (a< -9223372036854775808+b)=false:=by simp;omega
   rw[k,d,c];simp
  ·have c:decide (0<b)=false:=by simp;omega
   rw[c,d];simp
def Ye {α}{f:α→Int}{l:List α}{k:Nat}(h:k<l.length):((l.take (k+1)).map f).sum=((l.take k).map f).sum+f l[k]:=by
 rw[yQ h,xX,yZ];simp
def Uh {α}{f:α→Int}{l:List α}(h:∀x∈l,0≤f x):0≤(l.map f).sum:=Si λy a=>by
 obtain⟨x,b,rfl⟩:=wN.1 a;exact h x b
def QT (a t b t':Int):Prop:=a<b∨(a=b∧t<t')
instance (a t a' t':Int):Decidable (QT a t a' t'):=by unfold QT;infer_instance
def TL (x y:Int):Int:=if x<y then -1 else if y<x then 1 else 0
def TJ (N:Nat) (x y:Int):If N x y=some (TL x y):=by
 unfold If KR TL;have c:decide (x≠x)=false:=by simp
 have d:decide (y≠y)=false:=by simp
 simp only[c,d,uF,uH];by_cases a:x<y
 ·simp [a]
 ·by_cases b:y<x<;>simp [a,b]
def jP {N:Nat}(g:5<N) (x y:Int):Lh N [x,y]=some (if x≠0 then x else y):=by
 obtain⟨n,rfl⟩:∃n,N=n+3:=⟨N-3,by omega⟩
 have c:BR (0+1)=1:=CT (by omega) (by omega);have d:BR (1+1)=2:=CT (by omega) (by omega);unfold Lh;simp only[Jh,KT,c,d];by_cases a:x=0
 ·subst a;by_cases b:y=0
  ·subst b;simp [ix]
  ·simp [ix,b]
 ·simp [ix,a]
def Sz (x y:AZ):Int:=if TL x.O y.O≠0 then TL x.O y.O else TL x.C y.C
def Sy {N:Nat}(a:5<N) (x y:AZ):FJ N x y=some (Sz x y):=by
 unfold FJ;rw[TJ,TJ];simp only[uF];rw[jP a];rfl
def Xq {x y:Int}:TL x y<0↔x<y:=by unfold TL;split<;>first|omega|(split<;>omega)
def Ur {x y:Int}:TL x y=0↔x=y:=by unfold TL;split<;>first|omega|(split<;>omega)
def Qt {x y:AZ}:Sz x y<0↔QT x.O x.C y.O y.C:=by
 unfold Sz QT;have b:= @Xq x.O y.O;have a:= @Ur x.O y.O;have c:= @Xq x.C y.C;by_cases h:TL x.O y.O=0
 ·rw[uI (by simp [h])];have:=a.1 h;rw[c];omega
 ·rw[uJ h];have:x.O≠y.O:=λe=>h (a.2 e);rw[b];omega
def dP {x y:AZ}:Sz x y=0↔x.O=y.O∧x.C=y.C:=by
 unfold Sz;have a:= @Ur x.O y.O;have b:= @Ur x.C y.C;by_cases h:TL x.O y.O=0
 ·rw[uI (by simp [h])];have:=a.1 h;rw[b];exact⟨λe=>⟨this,e⟩,λe=>e.2⟩
 ·rw[uJ h];exact⟨λe=>absurd e h,λe=>absurd (a.2 e.1) h⟩
abbrev uC:= @A4
def bO {N:Nat}(q:List AZ) (t:AZ) (c:AZ×AZ→Option Int) (f:AZ→Int) (k:∀x,c (x,t)=some (f x)) (s:q.length<4398048411104) (d:Int→Option (Int×Bool)):
  ∀(n i j:Nat),i≤j→j≤q.length→j-i<n→(∀(m:Nat) x,m<i→q[m]? =some x→f x<0)→(∀(m:Nat) x,j≤m→q[m]? =some x→¬f x<0)→(∀(m u:Nat) x v,m≤u→q[m]? =some x→q[u]? =some v→f v<0→f x<0)→
   ∃r:Nat,AS N q t c d n (i:Int) (j:Int)=d (r:Int)∧r≤q.length∧(∀(m:Nat) x,m<r→q[m]? =some x→f x<0)∧(∀(m:Nat) x,r≤m→q[m]? =some x→¬f x<0)
 |0,i,j,z,l,A,_,_,_=>by omega
 |n+1,i,j,z,l,A,w,y,g=>by
  simp only[AS];rcases vG i j with a|a
  ·rw[Ei a,uG,Zh (by omega)];have o:(i+j)/2<q.length:=by omega
   rw[A9 o];simp only[uF,k];cases hd:decide (f q[(i+j)/2]<0) with
   |true=>
    simp only[uY] at hd;rw[uG,BE (by omega)];exact bO q t c f k s d n _ j (by omega) l (by omega) (λm x b p=>g m ((i+j)/2) x _ (by omega) p (uU o) hd) y g
   |false=>
    simp only[vC] at hd;rw[uH];exact bO q t c f k s d n i _ (by omega) (by omega) (by omega) w (λm x b p B=>hd (g ((i+j)/2) m _ x b (uU o) p B)) g
  ·have:i=j:=by omega
   subst this;rw[ES (uW _),uH];exact⟨i,rfl,l,w,y⟩
def Wr (q:List AZ):Prop:=q.Pairwise λx y=>QT x.O x.C y.O y.C
def T9 {a t d t' b c:Int}(g:QT a t d t') (i:QT d t' b c):QT a t b c:=by unfold QT at *;omega
def bP {N:Nat}(z:9007199254740992<N) (q:List AZ) (n:Wr q) (o:q.length<4398048411104) (t:AZ):∃r:Nat,uC N q t (λx=>FJ N x.1 x.2)=some ((r:Int),decide (∃x,q[r]? =some x∧x.O=t.O∧x.C=t.C))∧r≤q.length∧(∀(m:Nat) x,m<r→q[m]? =some x→QT x.O x.C t.O t.C)∧(∀(m:Nat) x,r≤m→q[m]? =some x→¬QT x.O x.C t.O t.C):=by
 unfold uC A4;have p:=zB.1 n;obtain⟨r,d,s,u,v⟩:=bO (N:=N) q t (λx=>FJ N x.1 x.2) (λx=>Sz x t) (λx=>Sy (by omega) _ _) o (A8 N q t λx=>FJ N x.1 x.2) N 0 q.length (uO _) (uW _) (by omega) (λm x c=>by omega) (λm x c a=>by have:=(uV.1 a).1;omega) (λm g x A c a i j=>by
  rw[Qt] at j ⊢;obtain⟨w,l⟩:=uV.1 a;obtain⟨y,k⟩:=uV.1 i;rcases vG m g with h|h
  ·have:=p m g w y h;rw[l,k] at this;exact T9 this j
  ·have:m=g:=by omega
   subst this;rw[l] at k;rw[k];exact j)
 refine⟨r,?_,s,λm x c a=>Qt.1 (u m x c a),λm x c a b=>v m x c a (Qt.2 b)⟩;have d:AS N q t (λx=>FJ N x.1 x.2) (A8 N q t λx=>FJ N x.1 x.2) N 0 (q.length:Int)=_:=d;rw[d];unfold A8;rcases vG r q.length with b|b
 ·rw[Ei b,uG,A9 b];simp only[uF,Sy (N:=N) (by omega)];congr 2;rw[decide_eq_decide];simp only[dP];refine⟨λh=>⟨_,uU b,h⟩,λ⟨x,a,h⟩=>?_⟩;rw[uU b] at a;cases a;exact h
 ·rw[ES b,uH];simp only[uF];congr 2;symm;simp only[vC];rintro⟨x,a,_⟩;rw[wG b] at a;cases a
abbrev nK (e:AZ):Int×Int:=(e.O,e.C)
def cY {q:List AZ}:Wr q↔(q.map nK).Pairwise λx y=>QT x.1 x.2 y.1 y.2:=by
 unfold Wr;rw[List.pairwise_map]
def XE {q:List AZ}(h:Wr q) {r:Nat}(a:r<q.length) {e:AZ}(b:nK e=nK q[r]):Wr (q.set r e):=by
 rw[cY] at h ⊢;rw[List.map_set,b,←List.getElem_map nK (h:=by simpa using a),List.set_getElem_self];exact h
def Sa {a t:Int}:¬QT a t a t:=by unfold QT;omega
def Ui {a t b t':Int}(h:¬QT a t b t') (c:¬(a=b∧t=t')):QT b t' a t:=by unfold QT at *;omega
def XF {q:List AZ}(h:Wr q) {i j:Nat}{x y:AZ}(m:q[i]? =some x) (n:q[j]? =some y) (b:x.O=y.O∧x.C=y.C):i=j:=by
 have c:=zB.1 h;obtain⟨d,g⟩:=uV.1 m;obtain⟨k,l⟩:=uV.1 n;rcases Nat.lt_trichotomy i j with a|a|a
 ·have:=c i j d k a;rw[g,l,b.1,b.2] at this;exact absurd this Sa
 ·exact a
 ·have:=c j i k d a;rw[g,l,b.1,b.2] at this;exact absurd this Sa
def Mz (N:Nat) (s:AB):JU N s=some ⟨min s.B 1125899906842624,min s.A 1125899906842624⟩:=rfl
def N6 {n a:Nat}(h:n*a≤175921860444160) (b:a≤274877906944) {α}(x:Option α):chk (room n a) x=x:=by
 unfold chk room;rw[uK b,Bool.and_true,uK h,Bool.or_true];rfl
def Kh {n a:Nat}(h:n*a≤140737488355328) {α}(x:Option α):chk (room n a) x=x:=by
 unfold chk room;rw[uK h];rfl
def XZ {i:Type}(L:Nat) (f:Nat→Int→Option i) (c:Option i) (a:∀n (k:Nat),L≤k→f (n+1) (k:Int)=c) (b:∀n (k:Nat),k<L→f (n+1) (k:Int)=f n ((k+1:Nat):Int)):
  ∀n (k:Nat),L<n+k→k≤L→f n (k:Int)=c
 |0,k,h,g=>by omega
 |n+1,k,h,g=>by
  rcases vG k L with d|d
  ·rw[b n k d];exact XZ L f c a b n (k+1) (by omega) (by omega)
  ·exact a n k d
def V0 (a b:AB):R6 a.v b.v=(decide (a.B=b.B)&&decide (a.A=b.A)):=by simp [R6,Y4]
def RS (N:Nat) (a b:AB):Jv N a b=some (decide (b.B≤a.B)&&decide (a.A≤b.A)):=by
 unfold Jv Kk;simp only[uF,V0];congr 1;rw[Bool.eq_iff_iff];simp only[uL,uY];omega
def Wh {t t' n d s:Int}(hd:0<d) (c:n*1099511627776≤s*d) (g:t≤t'):(t'*n/d-t*n/d-1)*1099511627776≤s*(t'-t):=by
 have i:=Int.ediv_mul_le (t'*n) (b:=d) (by omega);have j:=Int.lt_ediv_add_one_mul_self (t*n) hd;have k:(t'-t)*(n*1099511627776)≤(t'-t)*(s*d):=xA c (by omega);refine Int.le_of_mul_le_mul_right (a:=d) ?_ hd;generalize t'*n/d=l at*
 generalize t*n/d=q at*
 grind
def pL {t n d s:Int}(hd:0<d) (c:n*1099511627776≤s*d) (g:0≤t):t*n/d*1099511627776≤s*t:=by
 have i:=Int.ediv_mul_le (t*n) (b:=d) (by omega);have j:t*(n*1099511627776)≤t*(s*d):=xA c g;refine Int.le_of_mul_le_mul_right (a:=d) ?_ hd;generalize t*n/d=q at*
 grind
def Q3 {t t' n d:Int}(hd:0≤d) (a:0≤n) (b:t≤t'):t*n/d≤t'*n/d:=by
 rcases Int.lt_or_eq_of_le hd with h|h
 ·exact Int.ediv_le_ediv h (vT b a)
 ·rw[←h];simp
def OR {t n d:Int}(hd:0≤d) (a:0≤n) (b:0≤t):0≤t*n/d:=Int.ediv_nonneg (yC b a) hd
def QA {t n d:Int}(hd:0≤d) (h:n≤d) (a:0≤t):t*n/d≤t:=by
 rcases Int.lt_or_eq_of_le hd with h0|h0
 ·refine zV h0 (xA h a)
 ·rw[←h0];simp [a]
def J0 (c:List AV):List AV:=(⟨-1,(c.headD ⟨0,0⟩).L⟩:AV)::(c++[(⟨2251799813685248,(c.getLastD ⟨0,0⟩).L⟩:AV)])
def gT (e:List AV):Prop:=∀k l r,e[k]? =some l→e[k+1]? =some r→l.H<r.H∧l.L≤r.L
def R5 (c:List AV):(J0 c)[0]? =some ⟨-1,(c.headD ⟨0,0⟩).L⟩:=rfl
def Mh (c:List AV) {k:Nat}(h:k<c.length):(J0 c)[k+1]? =c[k]? :=by
 simp [J0,List.getElem?_append,h]
def TH (c:List AV):(J0 c)[c.length+1]? =some ⟨2251799813685248,(c.getLastD ⟨0,0⟩).L⟩:=by
 simp [J0]
def NU {c:List AV}{p:AV}(h:c[0]? =some p):c.headD ⟨0,0⟩=p:=by
 cases c with
 |nil=>cases h
 |cons a l=>simpa using h
def NS {c:List AV}{p:AV}(h:c[c.length-1]? =some p):c.getLastD ⟨0,0⟩=p:=by
 rw[List.getLastD_eq_getLast?,List.getLast?_eq_getElem?,h];rfl
def Cp.vol {c:List AV}(h:Cp c) {k:Nat}{p:AV}(a:c[k]? =some p):JK p.H∧JK p.L:=⟨(h.2.2 k p a).1,(h.2.2 k p a).2.1⟩
def Cp.step {c:List AV}(h:Cp c) {k:Nat}{p q:AV}(a:c[k]? =some p) (b:c[k+1]? =some q):p.H<q.H∧p.L≤q.L:=(h.2.2 (k+1) q b).2.2 p (by omega) a
def LN {c:List AV}(h:Cp c):gT (J0 c):=by
 intro k l r b a;have d:(J0 c).length=c.length+2:=by simp [J0]
 have j:=(uV.1 a).1;have n:=h.1;rw[d] at j;cases k with
 |zero=>
  rw[R5] at b;rw[Mh c (by omega)] at a;have m:=h.vol a;have g:=NU a;cases b;rw[g];exact⟨by have:=m.1.1;show(-1:Int)<_;omega,vZ _⟩
 |succ k=>
  rw[Mh c (by omega)] at b;by_cases i:k+1<c.length
  ·rw[Mh c i] at a;exact h.step b a
  ·have e:k+1=c.length:=by omega
   rw[show k+1+1=c.length+1 by omega,TH] at a;have g:=NS (c:=c) (p:=l) (by rw[←b];congr 1;omega);cases a;rw[g];exact⟨by have:=(h.vol b).1.2;show _<(2251799813685248:Int);omega,vZ _⟩
def gT.mono {e:List AV}(h:gT e) {i:Nat}:∀{j:Nat}{a b:AV},i≤j→e[i]? =some a→e[j]? =some b→a.H≤b.H∧a.L≤b.L∧(i<j→a.H<b.H)
 |j,a,b,l,g,d=>by
  rcases vG i j with n|hge
  ·obtain⟨j,rfl⟩:∃m,j=m+1:=⟨j-1,by omega⟩
   have o:=(uV.1 d).1;obtain⟨c,k⟩:∃c,e[j]? =some c:=⟨e[j],by simp [show j<e.length by omega]⟩
   have p:=gT.mono h (j:=j) (by omega) g k;have q:=h j c b k d;exact⟨by omega,by omega,λ_=>by omega⟩
  ·have:i=j:=by omega
   subst this;rw[g] at d;cases d;exact⟨vZ _,vZ _,λh=>by omega⟩
structure UM (e:List AV) (x:Int) (k:Nat) (l r:AV):Prop where
 l_:e[k]? =some l
 r_:e[k+1]? =some r
 lo:l.H≤x
 hi:x<r.H
structure Ws (e:List AV) (x:Int) (k:Nat) (l r:AV):Prop where
 l_:e[k]? =some l
 r_:e[k+1]? =some r
 lo:l.H≤x
 hi:x≤r.H
def H9 (l r:AV) (x:Int):Int:=l.L+(x-l.H)*(r.L-l.L)/(r.H-l.H)
def O2 (l r:AV) (x:Int):Int:=(x-l.H)*(r.L-l.L)%(r.H-l.H)
def TZ {e:List AV}(h:gT e) {x:Int}{k c:Nat}{l r d r':AV}(a:Ws e x k l r) (b:UM e x c d r'):(k=c∧l=d∧r=r')∨(c=k+1∧d=r∧x=r.H):=by
 rcases Nat.lt_trichotomy k c with j|heq|hgt
 ·have i:=h.mono (show k+1≤c by omega) a.r_ b.l_;have m:=a.hi;have n:=b.lo;by_cases g:c=k+1
  ·subst g;have:=a.r_.symm.trans b.l_;cases this;exact .inr ⟨rfl,rfl,by omega⟩
  ·have:=i.2.2 (by omega);omega
 ·subst heq;have g:=a.l_.symm.trans b.l_;have o:=a.r_.symm.trans b.r_;cases g;cases o;exact .inl ⟨rfl,rfl,rfl⟩
 ·have i:=h.mono (show c+1≤k by omega) b.r_ a.l_;have m:=a.lo;have n:=b.hi;omega
def UM.bounds {e:List AV}(h:gT e) {x:Int}{k:Nat}{l r:AV}(a:UM e x k l r):l.L≤H9 l r x∧H9 l r x≤r.L:=by
 have b:=h k l r a.l_ a.r_;have c:=a.lo;have g:=a.hi;have i:=OR (t:=x-l.H) (n:=r.L-l.L) (d:=r.H-l.H) (by omega) (by omega) (by omega);have j:(x-l.H)*(r.L-l.L)/(r.H-l.H)≤r.L-l.L:=by
  refine zV (by omega) ?_;rw[xP];exact xA (by omega) (by omega)
 unfold H9;omega
def UM.mono {e:List AV}(h:gT e) {x c:Int}{k g:Nat}{l r i r':AV}(a:UM e x k l r) (b:UM e c g i r') (u:x≤c):H9 l r x≤H9 i r' c:=by
 rcases Nat.lt_trichotomy k g with m|heq|hgt
 ·have j:=h.mono (show k+1≤g by omega) a.r_ b.l_;have o:=(a.bounds h).2;have p:=(b.bounds h).1;omega
 ·subst heq;have q:=a.l_.symm.trans b.l_;have s:=a.r_.symm.trans b.r_;cases q;cases s;have j:=h k l r a.l_ a.r_;have:=Q3 (t:=x-l.H) (t':=c-l.H) (n:=r.L-l.L) (d:=r.H-l.H) (by omega) (by omega) (by omega);unfold H9;omega
 ·have j:=h.mono (show g+1≤k by omega) b.r_ a.l_;have o:=a.lo;have p:=b.hi;omega
def nL (e:List AV) (s:Int):Prop:=∀k l r,e[k]? =some l→e[k+1]? =some r→(r.L-l.L)*1099511627776≤s*(r.H-l.H)
def nL.mono {e:List AV}{s:Int}(h:nL e s) {i:Nat}:∀{j:Nat}{a b:AV},i≤j→e[i]? =some a→e[j]? =some b→(b.L-a.L)*1099511627776≤s*(b.H-a.H)
 |j,a,b,l,g,d=>by
  rcases vG i j with n|hge
  ·obtain⟨j,rfl⟩:∃m,j=m+1:=⟨j-1,by omega⟩
   have o:=(uV.1 d).1;obtain⟨c,k⟩:∃c,e[j]? =some c:=⟨e[j],by simp [show j<e.length by omega]⟩
   have p:=nL.mono h (j:=j) (by omega) g k;have q:=h j c b k d;grind
  ·have:i=j:=by omega
   subst this;rw[g] at d;cases d;grind
def UM.lip {e:List AV}(h:gT e) {s:Int}(i:nL e s) {x d:Int}{k g:Nat}{l r c r':AV}(a:UM e x k l r) (b:UM e d g c r') (y:x≤d):(H9 c r' d-H9 l r x-1)*1099511627776≤s*(d-x):=by
 have z:=h k l r a.l_ a.r_;have A:=h g c r' b.l_ b.r_;have j:=i k l r a.l_ a.r_;have sb:=i g c r' b.l_ b.r_;have B:=a.lo;have C:=a.hi;have D:=b.lo;have F:=b.hi;rcases Nat.lt_trichotomy k g with n|heq|hgt
 ·have o:=i.mono (show k+1≤g by omega) a.r_ b.l_;have m:=Wh (t:=x-l.H) (t':=r.H-l.H) (show 0<r.H-l.H by omega) j (by omega);have G:=pL (t:=d-c.H) (show 0<r'.H-c.H by omega) sb (by omega);have p:(r.H-l.H)*(r.L-l.L)/(r.H-l.H)=r.L-l.L:=Int.mul_ediv_cancel_left _ (by omega);rw[p] at m;unfold H9;generalize (x-l.H)*(r.L-l.L)/(r.H-l.H)=q at*
  generalize (d-c.H)*(r'.L-c.L)/(r'.H-c.H)=u at*
  grind
 ·subst heq;have v:=a.l_.symm.trans b.l_;have w:=a.r_.symm.trans b.r_;cases v;cases w;have m:=Wh (t:=x-l.H) (t':=d-l.H) (show 0<r.H-l.H by omega) j (by omega);unfold H9;generalize (x-l.H)*(r.L-l.L)/(r.H-l.H)=q at*
  generalize (d-l.H)*(r.L-l.L)/(r.H-l.H)=u at*
  grind
 ·have o:=h.mono (show g+1≤k by omega) b.r_ a.l_;omega
def UZ {a n d:Int}(b:0≤a∧a≤1125899906842624) (c:0≤n∧n≤1125899906842624) (g:1≤d∧d≤1125899906842624) (i:a*n/d≤1125899906842624):cR a n d=(a*n/d,a*n%d,true):=by
 unfold cR;rw[uJ ⟨b,c,g,i⟩]
def Ky {N:Nat}(C:18446744073709551616<N) {c:List AV}(h:Cp c) {x:Int}(M:0≤x∧x≤1125899906842624):∃k l r,UM (J0 c) x k l r∧Fd N c x=some (H9 l r x,decide (0<O2 l r x)):=by
 have Q:=h.1;have U:=h.2.1;unfold Fd;obtain⟨r,D,V,F,z⟩:=Pf (N:=N) (λy=>Gb N c x y) c.length (by omega) (by omega) λi o=>by
  unfold Gb;rw[A9 o];exact Df.mk _
 have s:∀i (o:i<c.length),Gb N c x (i:Int)=some (decide (x<(c[i]).H)):=λi o=>by
  unfold Gb;rw[A9 o];rfl
 rw[D,uF];by_cases u:r=0
 ·subst u;have h0:c[0]? =some c[0]:=by simp
  have g:=z (by omega);rw[s 0 (by omega)] at g;have A:=xI (uX g);refine⟨0,_,_,⟨R5 c,(Mh c (by omega)).trans h0,by show(-1:Int)≤x;omega,A⟩,?_⟩;rw[show decide (((0:Nat):Int)=0)=true by simp,uG,show ix c 0=some c[0] from A9 (i:=0) (by omega),uF];have v:=NU h0;rw[v];simp [H9,O2]
 ·have a:c[r-1]? =some c[r-1]:=by simp
  have g:=F (by omega);rw[s (r-1) (by omega)] at g;have A:=yA (uX g);have G:=h.vol a;have I:BR ((r:Int)-1)=((r-1:Nat):Int):=by rw[CT (by omega) (by omega)];omega
  rw[show decide ((r:Int)=0)=false by simp;omega,uH,I,A9 (show r-1<c.length by omega),uF];by_cases w:r=c.length
  ·subst w;rw[show decide ((c.length:Int)=(c.length:Int))=true by simp,uG];have v:=NS a;have j:(J0 c)[c.length-1+1]? =some c[c.length-1]:=(Mh c (by omega)).trans a;rw[show c.length-1+1=c.length by omega] at j;refine⟨c.length,_,_,⟨j,TH c,by omega,by show x<(2251799813685248:Int);omega⟩,?_⟩;rw[v];simp [H9,O2]
  ·have m:r<c.length:=by omega
   have b:c[r]? =some c[r]:=by simp [m]
   have B:=z m;rw[s r m] at B;have J:=xI (uX B);have K:=h.vol b;have W:=h.step a (q:=c[r]) (by rw[show r-1+1=r by omega];exact b);have j:(J0 c)[r-1+1]? =some c[r-1]:=(Mh c (by omega)).trans a;rw[show r-1+1=r by omega] at j;refine⟨r,_,_,⟨j,(Mh c m).trans b,by omega,J⟩,?_⟩;rw[show decide ((r:Int)=(c.length:Int))=false by simp;omega,uH,A9 m];simp only[uF];unfold JK at G K;generalize c[r-1]=p at*
   generalize c[r]=q at*
   rw[CT (n:=x-p.H) (by omega) (by omega),CT (n:=q.L-p.L) (by omega) (by omega),CT (n:=q.H-p.H) (by omega) (by omega),K8 C];have X:(x-p.H)*(q.L-p.L)/(q.H-p.H)≤q.L-p.L:=by
    refine zV (by omega) ?_;rw[xP];exact xA (by omega) (by omega)
   have Y:=OR (t:=x-p.H) (n:=q.L-p.L) (d:=q.H-p.H) (by omega) (by omega) (by omega);rw[UZ (by omega) (by omega) (by omega) (by omega),uF];unfold H9 O2;rw[CT (by omega) (by omega)]
def KN {N:Nat}(i:33<N) {c:List AV}(h:Cp c):D6 N c=some true:=by
 unfold D6;have j:=h.1;have l:=h.2.1;rw[show (decide ((c.length:Int)<1)||decide (32<(c.length:Int)))=false by simp;omega,uH];exact XZ c.length (DI N c (HT N)) (HT N) (λn k a=>by
  simp only[DI];rw[ES a];rfl) (λn k a=>by
  have b:c[k]? =some c[k]:=by simp [a]
  have v:=h.vol b;unfold JK at v;simp only[DI];rw[Ei a,uG,A9 a,uF,show(((decide ((c[k]).H<0)||decide (1125899906842624<(c[k]).H))||decide ((c[k]).L<0))||decide (1125899906842624<(c[k]).L))=false by simp only[vH,vC];omega,uH,BE (by omega)];by_cases h0:k=0
  ·subst h0;rfl
  ·have d:c[k-1]? =some c[k-1]:=by simp
   have m:=h.step d (q:=c[k]) (by rw[show k-1+1=k by omega];exact b);have g:BR ((k:Int)-1)=((k-1:Nat):Int):=by rw[CT (by omega) (by omega)];omega
   rw[show decide ((0:Int)<(k:Int))=true by simp;omega,uG,g,A9 (show k-1<c.length by omega)];simp only[uF];rw[show decide ((c[k]).H≤(c[k-1]).H)=false by simp only[vC];omega,show decide ((c[k]).L<(c[k-1]).L)=false by simp only[vC];omega];rfl) N 0 (by omega) (uO _)
def PZ {N:Nat}(a:18446744073709551616<N) {c:List AV}(h:Cp c) {x:Int}(b:0≤x∧x≤1125899906842624):∃k l r,UM (J0 c) x k l r∧Kq N c x=some (H9 l r x):=by
 obtain⟨k,l,r,d,g⟩:=Ky a h b;refine⟨k,l,r,d,?_⟩;unfold Kq;rw[KN (by omega) h];simp only[uF,vL,uH,g]
def Xk {c:List AV}(h:Cp c):∀{k:Nat}{p:AV},(J0 c)[k]? =some p→JK p.L:=by
 intro k p a;have m:=h.1;have b:(J0 c).length=c.length+2:=by simp [J0]
 have l:=(uV.1 a).1;rw[b] at l;have g:∀i (j:i<c.length),JK (c[i]).L:=λi j=>(h.vol (k:=i) (by simp [j])).2;cases k with
 |zero=>
  rw[R5] at a;cases a;rw[NU (p:=c[0]) (by simp)];exact g 0 (by omega)
 |succ k=>
  by_cases d:k<c.length
  ·rw[Mh c d] at a;exact(h.vol a).2
  ·rw[show k+1=c.length+1 by omega,TH] at a;cases a;rw[NS (p:=c[c.length-1]) (by simp)];exact g _ (by omega)
def PY {c:List AV}(h:Cp c) {x:Int}{k:Nat}{l r:AV}(s:UM (J0 c) x k l r):JK (H9 l r x):=by
 have a:=s.bounds (LN h);have b:=Xk h s.l_;have d:=Xk h s.r_;unfold JK at*;omega
def YQ {N:Nat}(u:18446744073709551616<N) {a b:List AV}(j:Cp a) (l:Cp b) (h:Fe N a b=some true):
  (∀(i:Nat) p,a[i]? =some p→∃v,Fd N b p.H=some v∧p.L≤v.1)∧(∀(i:Nat) p,b[i]? =some p→∃v,Fd N a p.H=some v∧v.1≤p.L∧(v.1=p.L→v.2=false)):=by
 have x:=j.2.1;have y:=l.2.1;unfold Fe at h;rw[KN (by omega) j,KN (by omega) l] at h;simp only[uF,vL,uH] at h;rcases Hg a.length (D8 N a b (Dg N a b)) (Dg N a b) (λi=>∀p,a[i]? =some p→∃v,Fd N b p.H=some v∧p.L≤v.1) (λn k c=>by
  simp only[D8];rw[ES c];rfl) (λn k c=>by
  simp only[D8];have d:a[k]? =some a[k]:=by simp [c]
  obtain⟨_,_,_,_,e⟩:=Ky u l (j.vol d).1;rw[Ei c,uG,A9 c,uF,e,uF,BE (by omega)];cases o:decide (H9 _ _ _<(a[k]).L)
  ·refine .inr ⟨λp g=>?_,rfl⟩;cases d.symm.trans g;exact⟨_,e,by simpa using o⟩
  ·exact .inl rfl) N 0 (by omega) (uO _) with s|⟨s,h2⟩
 ·rw[show D8 N a b (Dg N a b) N 0=some false from s] at h;cases h
 ·rw[show D8 N a b (Dg N a b) N 0=Dg N a b from h2] at h;unfold Dg at h;rcases Hg b.length (EW N a b (Gj N)) (Gj N) (λi=>∀p,b[i]? =some p→∃v,Fd N a p.H=some v∧v.1≤p.L∧(v.1=p.L→v.2=false)) (λn k c=>by
   simp only[EW];rw[ES c];rfl) (λn k c=>by
   simp only[EW];have d:b[k]? =some b[k]:=by simp [c]
   obtain⟨_,_,_,_,e⟩:=Ky u j (l.vol d).1;rw[Ei c,uG,A9 c,uF,e,uF,BE (by omega)];generalize H9 _ _ _=q at*
   generalize decide (0<O2 _ _ _)=m at*
   cases o:(decide ((b[k]).L<q)||(decide (q=(b[k]).L)&&m))
   ·refine .inr ⟨λp g=>?_,rfl⟩;cases d.symm.trans g;simp only[vH,zO,vC] at o;exact⟨_,e,by show q≤_;omega,λh=>o.2.resolve_left λw=>w h⟩
   ·exact .inl rfl) N 0 (by omega) (uO _) with t|⟨t,h4⟩
  ·rw[show EW N a b (Gj N) N 0=some false from t] at h;cases h
  ·refine⟨λi p d=>s i (uO _) (uV.1 d).1 p d,λi p d=>t i (uO _) (uV.1 d).1 p d⟩
def J4 (l r:AV) (x:Int):Int:=l.L*(r.H-l.H)+(x-l.H)*(r.L-l.L)
def Pe {l r:AV}(h:l.H<r.H) (x:Int):H9 l r x*(r.H-l.H)+O2 l r x=J4 l r x:=by
 have:=Int.ediv_mul_add_emod ((x-l.H)*(r.L-l.L)) (r.H-l.H);unfold H9 O2 J4;grind
def SU {l r:AV}(h:l.H<r.H) (x:Int):0≤O2 l r x∧O2 l r x<r.H-l.H:=⟨Int.emod_nonneg _ (by omega),zW _ (by omega)⟩
def Y6 (l r a r':AV) (x:Int):Prop:=J4 l r x*(r'.H-a.H)≤J4 a r' x*(r.H-l.H)
def Y6.mid {l r b r':AV}{x u v:Int}(c:Y6 l r b r' u) (d:Y6 l r b r' v) (i:u≤x) (j:x≤v) (g:u<v):Y6 l r b r' x:=by
 unfold Y6 J4 at*;have k:=vT c (show 0≤v-x by omega);have m:=vT d (show 0≤x-u by omega);refine Int.le_of_mul_le_mul_right (a:=v-u) ?_ (by omega);grind
def Y6.val {l r c r':AV}{x:Int}(h:Y6 l r c r' x) (j:l.H<r.H) (g:c.H<r'.H):H9 l r x≤H9 c r' x:=by
 have k:=Pe j x;have n:=Pe g x;have o:=SU j x;have p:=SU g x;unfold Y6 at h;rw[←k,←n] at h;refine Int.not_lt.1 λt=>?_;generalize H9 l r x=a at*
 generalize H9 c r' x=b at*
 generalize O2 l r x=m at*
 generalize O2 c r' x=q at*
 have s:0<r.H-l.H:=by omega
 have u:0<r'.H-c.H:=by omega
 generalize r.H-l.H=d at*
 generalize r'.H-c.H=i at*
 have v:(b+1)*(d*i)≤a*(d*i):=vT (by omega) (yC (by omega) (by omega));have w:0≤m*i:=yC o.1 (by omega);have y:q*d<i*d:=Int.mul_lt_mul_of_pos_right p.2 s;grind
def Pm {c:List AV}{i:Nat}{p:AV}(a:(J0 c)[i]? =some p):(i=0∧p=⟨-1,(c.headD ⟨0,0⟩).L⟩)∨(∃m,i=m+1∧c[m]? =some p)∨(i=c.length+1∧p=⟨2251799813685248,(c.getLastD ⟨0,0⟩).L⟩):=by
 have b:(J0 c).length=c.length+2:=by simp [J0]
 have d:=(uV.1 a).1;rw[b] at d;cases i with
 |zero=>rw[R5] at a;cases a;exact .inl ⟨rfl,rfl⟩
 |succ m=>
  by_cases h:m<c.length
  ·rw[Mh c h] at a;exact .inr (.inl ⟨m,rfl,a⟩)
  ·have:m=c.length:=by omega
   subst this;rw[TH] at a;cases a;exact .inr (.inr ⟨rfl,rfl⟩)
def Xb (l r:AV):J4 l r l.H=l.L*(r.H-l.H):=by unfold J4;grind
def Sb (l r:AV):J4 l r r.H=r.L*(r.H-l.H):=by unfold J4;grind
def WO (l r:AV):H9 l r l.H=l.L:=by unfold H9;simp
def Sr {b:List AV}(a:Cp b) {j:Nat}{u v:AV}(t:Ws (J0 b) (-1) j u v):u=⟨-1,(b.headD ⟨0,0⟩).L⟩:=by
 rcases zL j with e|e
 ·subst e;have:=t.l_;rw[R5] at this;exact(uX this).symm
 ·have h:=((LN a).mono (uO j) (R5 b) t.l_).2.2 e;have:=t.lo;have h:(-1:Int)<u.H:=h;omega
def VX {b:List AV}(a:Cp b) {j:Nat}{u v:AV}(t:Ws (J0 b) 2251799813685248 j u v):v=⟨2251799813685248,(b.getLastD ⟨0,0⟩).L⟩:=by
 rcases Pm t.r_ with ⟨h,_⟩|⟨m,h1,h2⟩|⟨_,h⟩
 ·omega
 ·have:=(a.vol h2).1.2;have:=t.hi;omega
 ·exact h
def TG {b:List AV}(a:Cp b) {j:Nat}{p:AV}(h:(J0 b)[j]? =some p):(b.headD ⟨0,0⟩).L≤p.L:=((LN a).mono (uO j) (R5 b) h).2.1
def Uk {b:List AV}(c:Cp b) {j:Nat}{p:AV}(h:(J0 b)[j]? =some p):p.L≤(b.getLastD ⟨0,0⟩).L:=by
 have a:(J0 b).length=b.length+2:=by simp [J0]
 have d:=(uV.1 h).1;exact((LN c).mono (show j≤b.length+1 by omega) h (TH b)).2.1
def Qk {N:Nat}(G:18446744073709551616<N) {a b:List AV}(y:Cp a) (z:Cp b) (h:Fe N a b=some true) {x:Int}{k K:Nat}{l r d r':AV}(s:UM (J0 a) x k l r) (t:UM (J0 b) x K d r'):H9 l r x≤H9 d r' x:=by
 obtain⟨Y,Z⟩:=YQ G y z h;have M:=LN y;have Q:=LN z;have a1:=y.1;have b1:=z.1;have ca:∀(i:Nat) p,(J0 a)[i]? =some p→∀j u v,Ws (J0 b) p.H j u v→p.L*(v.H-u.H)≤J4 u v p.H:=by
  intro i p hp j u v C;have D:=(Q j u v C.l_ C.r_).1;have hd:0≤v.H-u.H:=by omega
  rcases Pm hp with ⟨_,rfl⟩|⟨m,_,hm⟩|⟨_,rfl⟩
  ·have U:=Sr z C;have e:J4 u v (-1)=u.L*(v.H-u.H):=by
    have:=Xb u v;rw[U] at this ⊢;exact this
   show _≤J4 u v (-1)
   rw[e];refine vT ?_ hd;have n:b[0]? =some b[0]:=by simp
   obtain⟨w,g,c,_⟩:=Z 0 _ n;obtain⟨V,A,B,o,F⟩:=Ky G y (z.vol n).1;rw[F] at g;cases g;have c:H9 A B (b[0]).H≤(b[0]).L:=c;have:=(o.bounds M).1;have:=TG y o.l_;have I:=NU n;rw[U,I];show(a.headD ⟨0,0⟩).L≤(b[0]).L
   omega
  ·obtain⟨w,g,c⟩:=Y m p hm;obtain⟨V,A,B,o,F⟩:=Ky G z (y.vol hm).1;rw[F] at g;cases g;have c:p.L≤H9 A B p.H:=c;rcases TZ Q C o with ⟨_,rfl,rfl⟩|⟨_,rfl,e⟩
   ·have h1:=Pe D p.H;have h2:=(SU D p.H).1;have h3:=vT c hd;omega
   ·rw[e,WO] at c;rw[e,Sb];exact vT c hd
  ·have W:=VX z C;have e:J4 u v 2251799813685248=v.L*(v.H-u.H):=by
    have:=Sb u v;rw[W] at this ⊢;exact this
   show _≤J4 u v 2251799813685248
   rw[e];refine vT ?_ hd;have q:a[a.length-1]? =some a[a.length-1]:=by simp
   obtain⟨w,g,c⟩:=Y _ _ q;obtain⟨V,A,B,o,F⟩:=Ky G z (y.vol q).1;rw[F] at g;cases g;have c:(a[a.length-1]).L≤H9 A B (a[a.length-1]).H:=c;have:=(o.bounds Q).2;have:=Uk z o.r_;have I:=NS q;rw[W,I];show(a[a.length-1]).L≤(b.getLastD ⟨0,0⟩).L
   omega
 have cb:∀(i:Nat) p,(J0 b)[i]? =some p→∀j u v,Ws (J0 a) p.H j u v→J4 u v p.H≤p.L*(v.H-u.H):=by
  intro i p hp j u v C;have D:=(M j u v C.l_ C.r_).1;have hd:0≤v.H-u.H:=by omega
  rcases Pm hp with ⟨_,rfl⟩|⟨m,_,hm⟩|⟨_,rfl⟩
  ·have U:=Sr y C;have e:J4 u v (-1)=u.L*(v.H-u.H):=by
    have:=Xb u v;rw[U] at this ⊢;exact this
   show J4 u v (-1)≤_
   rw[e];refine vT ?_ hd;have n:b[0]? =some b[0]:=by simp
   obtain⟨w,g,c,_⟩:=Z 0 _ n;obtain⟨V,A,B,o,F⟩:=Ky G y (z.vol n).1;rw[F] at g;cases g;have c:H9 A B (b[0]).H≤(b[0]).L:=c;have:=(o.bounds M).1;have:=TG y o.l_;have I:=NU n;rw[U,I];show(a.headD ⟨0,0⟩).L≤(b[0]).L
   omega
  ·obtain⟨w,g,c,w3⟩:=Z m p hm;obtain⟨V,A,B,o,F⟩:=Ky G y (z.vol hm).1;rw[F] at g;cases g;have c:H9 A B p.H≤p.L:=c;have w3:H9 A B p.H=p.L→¬0<O2 A B p.H:=λh=>yA (w3 h);rcases TZ M C o with ⟨_,rfl,rfl⟩|⟨_,rfl,e⟩
   ·have h1:=Pe D p.H;have h2:=SU D p.H;rcases Int.lt_or_eq_of_le c with h|h
    ·have h3:=vT (show H9 u v p.H+1≤p.L by omega) hd;rw[Int.add_mul,Int.one_mul] at h3;omega
    ·have h3:=w3 h;rw[h] at h1;omega
   ·rw[e,WO] at c;rw[e,Sb];exact vT c hd
  ·have W:=VX y C;have e:J4 u v 2251799813685248=v.L*(v.H-u.H):=by
    have:=Sb u v;rw[W] at this ⊢;exact this
   show J4 u v 2251799813685248≤_
   rw[e];refine vT ?_ hd;have q:a[a.length-1]? =some a[a.length-1]:=by simp
   obtain⟨w,g,c⟩:=Y _ _ q;obtain⟨V,A,B,o,F⟩:=Ky G z (y.vol q).1;rw[F] at g;cases g;have c:(a[a.length-1]).L≤H9 A B (a[a.length-1]).H:=c;have:=(o.bounds Q).2;have:=Uk z o.r_;have I:=NS q;rw[W,I];show(a[a.length-1]).L≤(b.getLastD ⟨0,0⟩).L
   omega
 have hl:=(M k l r s.l_ s.r_).1;have aa:=(Q K d r' t.l_ t.r_).1;have s1:=s.lo;have s2:=s.hi;have t1:=t.lo;have t2:=t.hi;have ab:Y6 l r d r' (max l.H d.H):=by
  unfold Y6;rcases Int.le_total l.H d.H with e|e
  ·rw[Int.max_eq_right e];have:=cb K d t.l_ k l r ⟨s.l_,s.r_,e,by omega⟩;have J:J4 d r' d.H=d.L*(r'.H-d.H):=by unfold J4;grind
   rw[J];have:=vT this (show 0≤r'.H-d.H by omega);grind
  ·rw[Int.max_eq_left e];have:=ca k l s.l_ K d r' ⟨t.l_,t.r_,e,by omega⟩;have J:J4 l r l.H=l.L*(r.H-l.H):=by unfold J4;grind
   rw[J];have:=vT this (show 0≤r.H-l.H by omega);grind
 have X:Y6 l r d r' (min r.H r'.H):=by
  unfold Y6;rcases Int.le_total r.H r'.H with e|e
  ·rw[Int.min_eq_left e];have:=ca (k+1) r s.r_ K d r' ⟨t.l_,t.r_,by omega,e⟩;have J:J4 l r r.H=r.L*(r.H-l.H):=by unfold J4;grind
   rw[J];have:=vT this (show 0≤r.H-l.H by omega);grind
  ·rw[Int.min_eq_right e];have:=cb (K+1) r' t.r_ k l r ⟨s.l_,s.r_,by omega,e⟩;have J:J4 d r' r'.H=r'.L*(r'.H-d.H):=by unfold J4;grind
   rw[J];have:=vT this (show 0≤r'.H-d.H by omega);grind
 exact(ab.mid X (by omega) (by omega) (by omega)).val hl aa
end Go.Proofs.YtibidnaedddfdaaGreat
