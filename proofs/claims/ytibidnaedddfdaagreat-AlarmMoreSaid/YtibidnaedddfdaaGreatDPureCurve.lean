import Derived.Test.YtibidnaedddfdaaGreatDPureDiv2
import Derived.Test.YtibidnaedddfdaaGreatDPureBase
namespace Go.Proofs.YtibidnaedddfdaaGreat
set_option linter.all false
open Go.RowKit
def TQ {t t' n d s:Int}(hd:0<d) (c:n*1099511627776≤s*d) (g:t≤t'):(t'*n/d-t*n/d-1)*1099511627776≤s*(t'-t):=by
 have i:=Int.ediv_mul_le (t'*n) (b:=d) (by omega)
 have j:=Int.lt_ediv_add_one_mul_self (t*n) hd
 have k:(t'-t)*(n*1099511627776)≤(t'-t)*(s*d):=lM c (by omega)
 refine Int.le_of_mul_le_mul_right (a:=d) ?_ hd
 generalize t'*n/d=l at*
 generalize t*n/d=q at*
 grind
def dS {t n d s:Int}(hd:0<d) (c:n*1099511627776≤s*d) (g:0≤t):t*n/d*1099511627776≤s*t:=by
 have i:=Int.ediv_mul_le (t*n) (b:=d) (by omega)
 have j:t*(n*1099511627776)≤t*(s*d):=lM c g
 refine Int.le_of_mul_le_mul_right (a:=d) ?_ hd
 generalize t*n/d=q at*
 grind
def Nh {t t' n d:Int}(hd:0≤d) (a:0≤n) (b:t≤t'):t*n/d≤t'*n/d:=by
 rcases Int.lt_or_eq_of_le hd with h|h
 ·exact Int.ediv_le_ediv h (jT b a)
 ·rw[←h];simp
def Mp {t n d:Int}(hd:0≤d) (a:0≤n) (b:0≤t):0≤t*n/d:=Int.ediv_nonneg (lR b a) hd
def Mq {t n d:Int}(hd:0≤d) (h:n≤d) (a:0≤t):t*n/d≤t:=by
 rcases Int.lt_or_eq_of_le hd with h0|h0
 ·refine Int.ediv_le_of_le_mul h0 (lM h a)
 ·rw[←h0];simp [a]
def Hy (c:List BC):List BC:=(⟨-1,(c.headD ⟨0,0⟩).L⟩:BC)::(c++[(⟨2251799813685248,(c.getLastD ⟨0,0⟩).L⟩:BC)])
def Y7 (e:List BC):Prop:=∀k l r,e[k]? =some l→e[k+1]? =some r→l.G<r.G∧l.L≤r.L
def Pb (c:List BC):(Hy c)[0]? =some ⟨-1,(c.headD ⟨0,0⟩).L⟩:=rfl
def L7 (c:List BC) {k:Nat}(h:k<c.length):(Hy c)[k+1]? =c[k]? :=by
 simp [Hy,List.getElem?_append,h]
def QY (c:List BC):(Hy c)[c.length+1]? =some ⟨2251799813685248,(c.getLastD ⟨0,0⟩).L⟩:=by
 simp [Hy]
def MO {c:List BC}{p:BC}(h:c[0]? =some p):c.headD ⟨0,0⟩=p:=by
 cases c with
 |nil=>cases h
 |cons a l=>simpa using h
def MN {c:List BC}{p:BC}(h:c[c.length-1]? =some p):c.getLastD ⟨0,0⟩=p:=by
 rw[List.getLastD_eq_getLast?,List.getLast?_eq_getElem?,h];rfl
def C1.vol {c:List BC}(h:C1 c) {k:Nat}{p:BC}(a:c[k]? =some p):Gh p.G∧Gh p.L:=⟨(h.2.2 k p a).1,(h.2.2 k p a).2.1⟩
def C1.step {c:List BC}(h:C1 c) {k:Nat}{p q:BC}(a:c[k]? =some p) (b:c[k+1]? =some q):p.G<q.G∧p.L≤q.L:=(h.2.2 (k+1) q b).2.2 p (by omega) a
def Jq {c:List BC}(h:C1 c):Y7 (Hy c):=by
 intro k l r b a
 have d:(Hy c).length=c.length+2:=by simp [Hy]
 have j:=(jF.1 a).1
 have n:=h.1
 rw[d] at j
 cases k with
 |zero=>
  rw[Pb] at b
  rw[L7 c (by omega)] at a
  have m:=h.vol a
  have g:=MO a
  cases b
  rw[g]
  exact⟨by have:=m.1.1;show(-1:Int)<_;omega,kG _⟩
 |succ k=>
  rw[L7 c (by omega)] at b
  by_cases i:k+1<c.length
  ·rw[L7 c i] at a
   exact h.step b a
  ·have e:k+1=c.length:=by omega
   rw[show k+1+1=c.length+1 by omega,QY] at a
   have g:=MN (c:=c) (p:=l) (by rw[←b];congr 1;omega)
   cases a
   rw[g]
   exact⟨by have:=(h.vol b).1.2;show _<(2251799813685248:Int);omega,kG _⟩
def Y7.mono {e:List BC}(h:Y7 e) {i:Nat}:∀{j:Nat}{a b:BC},i≤j→e[i]? =some a→e[j]? =some b→a.G≤b.G∧a.L≤b.L∧(i<j→a.G<b.G)
 |j,a,b,l,g,d=>by
  rcases jN i j with n|hge
  ·obtain⟨j,rfl⟩:∃m,j=m+1:=⟨j-1,by omega⟩
   have o:=(jF.1 d).1
   obtain⟨c,k⟩:∃c,e[j]? =some c:=⟨e[j],by simp [show j<e.length by omega]⟩
   have p:=Y7.mono h (j:=j) (by omega) g k
   have q:=h j c b k d
   exact⟨by omega,by omega,λ_=>by omega⟩
  ·have:i=j:=by omega
   subst this
   rw[g] at d
   cases d
   exact⟨kG _,kG _,λh=>by omega⟩
structure Rk (e:List BC) (x:Int) (k:Nat) (l r:BC):Prop where
 l_:e[k]? =some l
 r_:e[k+1]? =some r
 lo:l.G≤x
 hi:x<r.G
structure XF (e:List BC) (x:Int) (k:Nat) (l r:BC):Prop where
 l_:e[k]? =some l
 r_:e[k+1]? =some r
 lo:l.G≤x
 hi:x≤r.G
def Gi (l r:BC) (x:Int):Int:=l.L+(x-l.G)*(r.L-l.L)/(r.G-l.G)
def Oa (l r:BC) (x:Int):Int:=(x-l.G)*(r.L-l.L)%(r.G-l.G)
def Sq {e:List BC}(h:Y7 e) {x:Int}{k c:Nat}{l r d r':BC}(a:XF e x k l r) (b:Rk e x c d r'):(k=c∧l=d∧r=r')∨(c=k+1∧d=r∧x=r.G):=by
 rcases Nat.lt_trichotomy k c with j|heq|hgt
 ·have i:=h.mono (show k+1≤c by omega) a.r_ b.l_
  have m:=a.hi
  have n:=b.lo
  by_cases g:c=k+1
  ·subst g
   have:=a.r_.symm.trans b.l_
   cases this
   exact .inr ⟨rfl,rfl,by omega⟩
  ·have:=i.2.2 (by omega);omega
 ·subst heq
  have g:=a.l_.symm.trans b.l_
  have o:=a.r_.symm.trans b.r_
  cases g;cases o
  exact .inl ⟨rfl,rfl,rfl⟩
 ·have i:=h.mono (show c+1≤k by omega) b.r_ a.l_
  have m:=a.lo
  have n:=b.hi
  omega
def Rk.bounds {e:List BC}(h:Y7 e) {x:Int}{k:Nat}{l r:BC}(a:Rk e x k l r):l.L≤Gi l r x∧Gi l r x≤r.L:=by
 have b:=h k l r a.l_ a.r_
 have c:=a.lo
 have g:=a.hi
 have i:=Mp (t:=x-l.G) (n:=r.L-l.L) (d:=r.G-l.G) (by omega) (by omega) (by omega)
 have j:(x-l.G)*(r.L-l.L)/(r.G-l.G)≤r.L-l.L:=by
  refine Int.ediv_le_of_le_mul (by omega) ?_
  rw[Int.mul_comm]
  exact lM (by omega) (by omega)
 unfold Gi
 omega
def Rk.mono {e:List BC}(h:Y7 e) {x c:Int}{k g:Nat}{l r i r':BC}(a:Rk e x k l r) (b:Rk e c g i r') (u:x≤c):Gi l r x≤Gi i r' c:=by
 rcases Nat.lt_trichotomy k g with m|heq|hgt
 ·have j:=h.mono (show k+1≤g by omega) a.r_ b.l_
  have o:=(a.bounds h).2
  have p:=(b.bounds h).1
  omega
 ·subst heq
  have q:=a.l_.symm.trans b.l_
  have s:=a.r_.symm.trans b.r_
  cases q;cases s
  have j:=h k l r a.l_ a.r_
  have:=Nh (t:=x-l.G) (t':=c-l.G) (n:=r.L-l.L) (d:=r.G-l.G) (by omega) (by omega) (by omega)
  unfold Gi
  omega
 ·have j:=h.mono (show g+1≤k by omega) b.r_ a.l_
  have o:=a.lo
  have p:=b.hi
  omega
def bU (e:List BC) (s:Int):Prop:=∀k l r,e[k]? =some l→e[k+1]? =some r→(r.L-l.L)*1099511627776≤s*(r.G-l.G)
def bU.mono {e:List BC}{s:Int}(h:bU e s) {i:Nat}:∀{j:Nat}{a b:BC},i≤j→e[i]? =some a→e[j]? =some b→(b.L-a.L)*1099511627776≤s*(b.G-a.G)
 |j,a,b,l,g,d=>by
  rcases jN i j with n|hge
  ·obtain⟨j,rfl⟩:∃m,j=m+1:=⟨j-1,by omega⟩
   have o:=(jF.1 d).1
   obtain⟨c,k⟩:∃c,e[j]? =some c:=⟨e[j],by simp [show j<e.length by omega]⟩
   have p:=bU.mono h (j:=j) (by omega) g k
   have q:=h j c b k d
   grind
  ·have:i=j:=by omega
   subst this
   rw[g] at d
   cases d
   grind
def Rk.lip {e:List BC}(h:Y7 e) {s:Int}(i:bU e s) {x d:Int}{k g:Nat}{l r c r':BC}(a:Rk e x k l r) (b:Rk e d g c r') (y:x≤d):(Gi c r' d-Gi l r x-1)*1099511627776≤s*(d-x):=by
 have z:=h k l r a.l_ a.r_
 have A:=h g c r' b.l_ b.r_
 have j:=i k l r a.l_ a.r_
 have sb:=i g c r' b.l_ b.r_
 have B:=a.lo
 have C:=a.hi
 have D:=b.lo
 have F:=b.hi
 rcases Nat.lt_trichotomy k g with n|heq|hgt
 ·have o:=i.mono (show k+1≤g by omega) a.r_ b.l_
  have m:=TQ (t:=x-l.G) (t':=r.G-l.G) (show 0<r.G-l.G by omega) j (by omega)
  have H:=dS (t:=d-c.G) (show 0<r'.G-c.G by omega) sb (by omega)
  have p:(r.G-l.G)*(r.L-l.L)/(r.G-l.G)=r.L-l.L:=Int.mul_ediv_cancel_left _ (by omega)
  rw[p] at m
  unfold Gi
  generalize (x-l.G)*(r.L-l.L)/(r.G-l.G)=q at*
  generalize (d-c.G)*(r'.L-c.L)/(r'.G-c.G)=u at*
  grind
 ·subst heq
  have v:=a.l_.symm.trans b.l_
  have w:=a.r_.symm.trans b.r_
  cases v;cases w
  have m:=TQ (t:=x-l.G) (t':=d-l.G) (show 0<r.G-l.G by omega) j (by omega)
  unfold Gi
  generalize (x-l.G)*(r.L-l.L)/(r.G-l.G)=q at*
  generalize (d-l.G)*(r.L-l.L)/(r.G-l.G)=u at*
  grind
 ·have o:=h.mono (show g+1≤k by omega) b.r_ a.l_
  omega
def Vi {a n d:Int}(b:0≤a∧a≤1125899906842624) (c:0≤n∧n≤1125899906842624) (g:1≤d∧d≤1125899906842624) (i:a*n/d≤1125899906842624):Xm a n d=(a*n/d,a*n%d,true):=by
 unfold Xm
 rw[iR ⟨b,c,g,i⟩]
def IC {N:Nat}(C:18446744073709551616<N) {c:List BC}(h:C1 c) {x:Int}(K:0≤x∧x≤1125899906842624):∃k l r,Rk (Hy c) x k l r∧EB N c x=some (Gi l r x,decide (0<Oa l r x)):=by
 have M:=h.1
 have Q:=h.2.1
 unfold EB
 obtain⟨r,D,U,F,z⟩:=QM (N:=N) (λy=>Eh N c x y) c.length (by omega) (by omega) λi o=>by
  unfold Eh
  rw[Bv o];exact Df.mk _
 have s:∀i (o:i<c.length),Eh N c x (i:Int)=some (decide (x<(c[i]).G)):=λi o=>by
  unfold Eh
  rw[Bv o];rfl
 rw[D,iM]
 by_cases u:r=0
 ·subst u
  have h0:c[0]? =some c[0]:=by simp
  have g:=z (by omega)
  rw[s 0 (by omega)] at g
  have A:=lK (jH g)
  refine⟨0,_,_,⟨Pb c,(L7 c (by omega)).trans h0,by show(-1:Int)≤x;omega,A⟩,?_⟩
  rw[show decide (((0:Nat):Int)=0)=true by simp,iN,show ix c 0=some c[0] from Bv (i:=0) (by omega),iM]
  have v:=MO h0
  rw[v]
  simp [Gi,Oa]
 ·have a:c[r-1]? =some c[r-1]:=by simp
  have g:=F (by omega)
  rw[s (r-1) (by omega)] at g
  have A:=mX (jH g)
  have v1:=h.vol a
  have H:B8 ((r:Int)-1)=((r-1:Nat):Int):=by rw[DE (by omega) (by omega)];omega
  rw[show decide ((r:Int)=0)=false by simp;omega,iO,H,Bv (show r-1<c.length by omega),iM]
  by_cases w:r=c.length
  ·subst w
   rw[show decide ((c.length:Int)=(c.length:Int))=true by simp,iN]
   have v:=MN a
   have j:(Hy c)[c.length-1+1]? =some c[c.length-1]:=(L7 c (by omega)).trans a
   rw[show c.length-1+1=c.length by omega] at j
   refine⟨c.length,_,_,⟨j,QY c,by omega,by show x<(2251799813685248:Int);omega⟩,?_⟩
   rw[v]
   simp [Gi,Oa]
  ·have m:r<c.length:=by omega
   have b:c[r]? =some c[r]:=by simp [m]
   have B:=z m
   rw[s r m] at B
   have I:=lK (jH B)
   have J:=h.vol b
   have V:=h.step a (q:=c[r]) (by rw[show r-1+1=r by omega];exact b)
   have j:(Hy c)[r-1+1]? =some c[r-1]:=(L7 c (by omega)).trans a
   rw[show r-1+1=r by omega] at j
   refine⟨r,_,_,⟨j,(L7 c m).trans b,by omega,I⟩,?_⟩
   rw[show decide ((r:Int)=(c.length:Int))=false by simp;omega,iO,Bv m]
   simp only[iM]
   unfold Gh at v1 J
   generalize c[r-1]=p at*
   generalize c[r]=q at*
   rw[DE (n:=x-p.G) (by omega) (by omega),DE (n:=q.L-p.L) (by omega) (by omega),DE (n:=q.G-p.G) (by omega) (by omega),NW C]
   have W:(x-p.G)*(q.L-p.L)/(q.G-p.G)≤q.L-p.L:=by
    refine Int.ediv_le_of_le_mul (by omega) ?_
    rw[Int.mul_comm]
    exact lM (by omega) (by omega)
   have X:=Mp (t:=x-p.G) (n:=q.L-p.L) (d:=q.G-p.G) (by omega) (by omega) (by omega)
   rw[Vi (by omega) (by omega) (by omega) (by omega),iM]
   unfold Gi Oa
   rw[DE (by omega) (by omega)]
def JD {N:Nat}(i:33<N) {c:List BC}(h:C1 c):EE N c=some true:=by
 unfold EE
 have j:=h.1
 have l:=h.2.1
 rw[show (decide ((c.length:Int)<1)||decide (32<(c.length:Int)))=false by simp;omega,iO]
 exact T4 c.length (ED N c (Fu N)) (Fu N) (λn k a=>by
  simp only[ED];rw[FY a];rfl) (λn k a=>by
  have b:c[k]? =some c[k]:=by simp [a]
  have v:=h.vol b
  unfold Gh at v
  simp only[ED]
  rw[FX a,iN,Bv a,iM,show(((decide ((c[k]).G<0)||decide (1125899906842624<(c[k]).G))||decide ((c[k]).L<0))||decide (1125899906842624<(c[k]).L))=false by simp only[jP,jK];omega,iO,BV (by omega)]
  by_cases h0:k=0
  ·subst h0
   rfl
  ·have d:c[k-1]? =some c[k-1]:=by simp
   have m:=h.step d (q:=c[k]) (by rw[show k-1+1=k by omega];exact b)
   have g:B8 ((k:Int)-1)=((k-1:Nat):Int):=by rw[DE (by omega) (by omega)];omega
   rw[show decide ((0:Int)<(k:Int))=true by simp;omega,iN,g,Bv (show k-1<c.length by omega)]
   simp only[iM]
   rw[show decide ((c[k]).G≤(c[k-1]).G)=false by simp only[jK];omega,show decide ((c[k]).L<(c[k-1]).L)=false by simp only[jK];omega]
   rfl) N 0 (by omega) (iU _)
def OI {N:Nat}(a:18446744073709551616<N) {c:List BC}(h:C1 c) {x:Int}(b:0≤x∧x≤1125899906842624):∃k l r,Rk (Hy c) x k l r∧J5 N c x=some (Gi l r x):=by
 obtain⟨k,l,r,d,g⟩:=IC a h b
 refine⟨k,l,r,d,?_⟩
 unfold J5
 rw[JD (by omega) h]
 simp only[iM,jV,iO,g]
def UJ {c:List BC}(h:C1 c):∀{k:Nat}{p:BC},(Hy c)[k]? =some p→Gh p.L:=by
 intro k p a
 have m:=h.1
 have b:(Hy c).length=c.length+2:=by simp [Hy]
 have l:=(jF.1 a).1
 rw[b] at l
 have g:∀i (j:i<c.length),Gh (c[i]).L:=λi j=>(h.vol (k:=i) (by simp [j])).2
 cases k with
 |zero=>
  rw[Pb] at a
  cases a
  rw[MO (p:=c[0]) (by simp)]
  exact g 0 (by omega)
 |succ k=>
  by_cases d:k<c.length
  ·rw[L7 c d] at a
   exact(h.vol a).2
  ·rw[show k+1=c.length+1 by omega,QY] at a
   cases a
   rw[MN (p:=c[c.length-1]) (by simp)]
   exact g _ (by omega)
def NC {c:List BC}(h:C1 c) {x:Int}{k:Nat}{l r:BC}(s:Rk (Hy c) x k l r):Gh (Gi l r x):=by
 have a:=s.bounds (Jq h)
 have b:=UJ h s.l_
 have d:=UJ h s.r_
 unfold Gh at*
 omega
def Uh {N:Nat}(u:18446744073709551616<N) {a b:List BC}(j:C1 a) (l:C1 b) (h:EC N a b=some true):
  (∀(i:Nat) p,a[i]? =some p→∃v,EB N b p.G=some v∧p.L≤v.1)∧(∀(i:Nat) p,b[i]? =some p→∃v,EB N a p.G=some v∧v.1≤p.L∧(v.1=p.L→v.2=false)):=by
 have x:=j.2.1
 have y:=l.2.1
 unfold EC at h
 rw[JD (by omega) j,JD (by omega) l] at h
 simp only[iM,jV,iO] at h
 rcases Fl a.length (DA N a b (C0 N a b)) (C0 N a b) (λi=>∀p,a[i]? =some p→∃v,EB N b p.G=some v∧p.L≤v.1) (λn k c=>by
  simp only[DA];rw[FY c];rfl) (λn k c=>by
  simp only[DA]
  have d:a[k]? =some a[k]:=by simp [c]
  obtain⟨_,_,_,_,e⟩:=IC u l (j.vol d).1
  rw[FX c,iN,Bv c,iM,e,iM,BV (by omega)]
  cases o:decide (Gi _ _ _<(a[k]).L)
  ·refine .inr ⟨λp g=>?_,rfl⟩
   cases d.symm.trans g
   exact⟨_,e,by simpa using o⟩
  ·exact .inl rfl) N 0 (by omega) (iU _) with s|⟨s,h2⟩
 ·rw[show DA N a b (C0 N a b) N 0=some false from s] at h;cases h
 ·rw[show DA N a b (C0 N a b) N 0=C0 N a b from h2] at h
  unfold C0 at h
  rcases Fl b.length (DW N a b (Ep N)) (Ep N) (λi=>∀p,b[i]? =some p→∃v,EB N a p.G=some v∧v.1≤p.L∧(v.1=p.L→v.2=false)) (λn k c=>by
   simp only[DW];rw[FY c];rfl) (λn k c=>by
   simp only[DW]
   have d:b[k]? =some b[k]:=by simp [c]
   obtain⟨_,_,_,_,e⟩:=IC u j (l.vol d).1
   rw[FX c,iN,Bv c,iM,e,iM,BV (by omega)]
   generalize Gi _ _ _=q at*
   generalize decide (0<Oa _ _ _)=m at*
   cases o:(decide ((b[k]).L<q)||(decide (q=(b[k]).L)&&m))
   ·refine .inr ⟨λp g=>?_,rfl⟩
    cases d.symm.trans g
    simp only[jP,mQ,jK] at o
    exact⟨_,e,by show q≤_;omega,λh=>o.2.resolve_left λw=>w h⟩
   ·exact .inl rfl) N 0 (by omega) (iU _) with t|⟨t,h4⟩
  ·rw[show DW N a b (Ep N) N 0=some false from t] at h;cases h
  ·refine⟨λi p d=>s i (iU _) (jF.1 d).1 p d,λi p d=>t i (iU _) (jF.1 d).1 p d⟩
def HH (l r:BC) (x:Int):Int:=l.L*(r.G-l.G)+(x-l.G)*(r.L-l.L)
def MK {l r:BC}(h:l.G<r.G) (x:Int):Gi l r x*(r.G-l.G)+Oa l r x=HH l r x:=by
 have:=Int.ediv_mul_add_emod ((x-l.G)*(r.L-l.L)) (r.G-l.G)
 unfold Gi Oa HH
 grind
def Oo {l r:BC}(h:l.G<r.G) (x:Int):0≤Oa l r x∧Oa l r x<r.G-l.G:=⟨Int.emod_nonneg _ (by omega),Int.emod_lt_of_pos _ (by omega)⟩
def U9 (l r a r':BC) (x:Int):Prop:=HH l r x*(r'.G-a.G)≤HH a r' x*(r.G-l.G)
def U9.mid {l r b r':BC}{x u v:Int}(c:U9 l r b r' u) (d:U9 l r b r' v) (i:u≤x) (j:x≤v) (g:u<v):U9 l r b r' x:=by
 unfold U9 HH at*
 have k:=jT c (show 0≤v-x by omega)
 have m:=jT d (show 0≤x-u by omega)
 refine Int.le_of_mul_le_mul_right (a:=v-u) ?_ (by omega)
 grind
def U9.val {l r c r':BC}{x:Int}(h:U9 l r c r' x) (j:l.G<r.G) (g:c.G<r'.G):Gi l r x≤Gi c r' x:=by
 have k:=MK j x
 have n:=MK g x
 have o:=Oo j x
 have p:=Oo g x
 unfold U9 at h
 rw[←k,←n] at h
 refine Int.not_lt.1 λt=>?_
 generalize Gi l r x=a at*
 generalize Gi c r' x=b at*
 generalize Oa l r x=m at*
 generalize Oa c r' x=q at*
 have s:0<r.G-l.G:=by omega
 have u:0<r'.G-c.G:=by omega
 generalize r.G-l.G=d at*
 generalize r'.G-c.G=i at*
 have v:(b+1)*(d*i)≤a*(d*i):=jT (by omega) (lR (by omega) (by omega))
 have w:0≤m*i:=lR o.1 (by omega)
 have y:q*d<i*d:=Int.mul_lt_mul_of_pos_right p.2 s
 grind
def MY {c:List BC}{i:Nat}{p:BC}(a:(Hy c)[i]? =some p):(i=0∧p=⟨-1,(c.headD ⟨0,0⟩).L⟩)∨(∃m,i=m+1∧c[m]? =some p)∨(i=c.length+1∧p=⟨2251799813685248,(c.getLastD ⟨0,0⟩).L⟩):=by
 have b:(Hy c).length=c.length+2:=by simp [Hy]
 have d:=(jF.1 a).1
 rw[b] at d
 cases i with
 |zero=>rw[Pb] at a;cases a;exact .inl ⟨rfl,rfl⟩
 |succ m=>
  by_cases h:m<c.length
  ·rw[L7 c h] at a
   exact .inr (.inl ⟨m,rfl,a⟩)
  ·have:m=c.length:=by omega
   subst this
   rw[QY] at a
   cases a
   exact .inr (.inr ⟨rfl,rfl⟩)
def T6 (l r:BC):HH l r l.G=l.L*(r.G-l.G):=by unfold HH;grind
def Ou (l r:BC):HH l r r.G=r.L*(r.G-l.G):=by unfold HH;grind
def VH (l r:BC):Gi l r l.G=l.L:=by unfold Gi;simp
def PF {b:List BC}(a:C1 b) {j:Nat}{u v:BC}(t:XF (Hy b) (-1) j u v):u=⟨-1,(b.headD ⟨0,0⟩).L⟩:=by
 rcases mZ j with e|e
 ·subst e
  have:=t.l_
  rw[Pb] at this
  exact(jH this).symm
 ·have h:=((Jq a).mono (iU j) (Pb b) t.l_).2.2 e
  have:=t.lo
  have h:(-1:Int)<u.G:=h
  omega
def R0 {b:List BC}(a:C1 b) {j:Nat}{u v:BC}(t:XF (Hy b) 2251799813685248 j u v):v=⟨2251799813685248,(b.getLastD ⟨0,0⟩).L⟩:=by
 rcases MY t.r_ with ⟨h,_⟩|⟨m,h1,h2⟩|⟨_,h⟩
 ·omega
 ·have:=(a.vol h2).1.2
  have:=t.hi
  omega
 ·exact h
def SI {b:List BC}(a:C1 b) {j:Nat}{p:BC}(h:(Hy b)[j]? =some p):(b.headD ⟨0,0⟩).L≤p.L:=((Jq a).mono (iU j) (Pb b) h).2.1
def T8 {b:List BC}(c:C1 b) {j:Nat}{p:BC}(h:(Hy b)[j]? =some p):p.L≤(b.getLastD ⟨0,0⟩).L:=by
 have a:(Hy b).length=b.length+2:=by simp [Hy]
 have d:=(jF.1 h).1
 exact((Jq c).mono (show j≤b.length+1 by omega) h (QY b)).2.1
def NL {N:Nat}(H:18446744073709551616<N) {a b:List BC}(y:C1 a) (z:C1 b) (h:EC N a b=some true) {x:Int}{k K:Nat}{l r d r':BC}(s:Rk (Hy a) x k l r) (t:Rk (Hy b) x K d r'):Gi l r x≤Gi d r' x:=by
 obtain⟨Y,Z⟩:=Uh H y z h
 have M:=Jq y
 have Q:=Jq z
 have a1:=y.1
 have b1:=z.1
 have ca:∀(i:Nat) p,(Hy a)[i]? =some p→∀j u v,XF (Hy b) p.G j u v→p.L*(v.G-u.G)≤HH u v p.G:=by
  intro i p hp j u v C
  have D:=(Q j u v C.l_ C.r_).1
  have hd:0≤v.G-u.G:=by omega
  rcases MY hp with ⟨_,rfl⟩|⟨m,_,hm⟩|⟨_,rfl⟩
  ·have U:=PF z C
   have e:HH u v (-1)=u.L*(v.G-u.G):=by
    have:=T6 u v
    rw[U] at this ⊢
    exact this
   show _≤HH u v (-1)
   rw[e]
   refine jT ?_ hd
   have n:b[0]? =some b[0]:=by simp
   obtain⟨w,g,c,_⟩:=Z 0 _ n
   obtain⟨V,A,B,o,F⟩:=IC H y (z.vol n).1
   rw[F] at g
   cases g
   have c:Gi A B (b[0]).G≤(b[0]).L:=c
   have:=(o.bounds M).1
   have:=SI y o.l_
   have I:=MO n
   rw[U,I]
   show(a.headD ⟨0,0⟩).L≤(b[0]).L
   omega
  ·obtain⟨w,g,c⟩:=Y m p hm
   obtain⟨V,A,B,o,F⟩:=IC H z (y.vol hm).1
   rw[F] at g
   cases g
   have c:p.L≤Gi A B p.G:=c
   rcases Sq Q C o with ⟨_,rfl,rfl⟩|⟨_,rfl,e⟩
   ·have h1:=MK D p.G
    have h2:=(Oo D p.G).1
    have h3:=jT c hd
    omega
   ·rw[e,VH] at c
    rw[e,Ou]
    exact jT c hd
  ·have W:=R0 z C
   have e:HH u v 2251799813685248=v.L*(v.G-u.G):=by
    have:=Ou u v
    rw[W] at this ⊢
    exact this
   show _≤HH u v 2251799813685248
   rw[e]
   refine jT ?_ hd
   have q:a[a.length-1]? =some a[a.length-1]:=by simp
   obtain⟨w,g,c⟩:=Y _ _ q
   obtain⟨V,A,B,o,F⟩:=IC H z (y.vol q).1
   rw[F] at g
   cases g
   have c:(a[a.length-1]).L≤Gi A B (a[a.length-1]).G:=c
   have:=(o.bounds Q).2
   have:=T8 z o.r_
   have I:=MN q
   rw[W,I]
   show(a[a.length-1]).L≤(b.getLastD ⟨0,0⟩).L
   omega
 have cb:∀(i:Nat) p,(Hy b)[i]? =some p→∀j u v,XF (Hy a) p.G j u v→HH u v p.G≤p.L*(v.G-u.G):=by
  intro i p hp j u v C
  have D:=(M j u v C.l_ C.r_).1
  have hd:0≤v.G-u.G:=by omega
  rcases MY hp with ⟨_,rfl⟩|⟨m,_,hm⟩|⟨_,rfl⟩
  ·have U:=PF y C
   have e:HH u v (-1)=u.L*(v.G-u.G):=by
    have:=T6 u v
    rw[U] at this ⊢
    exact this
   show HH u v (-1)≤_
   rw[e]
   refine jT ?_ hd
   have n:b[0]? =some b[0]:=by simp
   obtain⟨w,g,c,_⟩:=Z 0 _ n
   obtain⟨V,A,B,o,F⟩:=IC H y (z.vol n).1
   rw[F] at g
   cases g
   have c:Gi A B (b[0]).G≤(b[0]).L:=c
   have:=(o.bounds M).1
   have:=SI y o.l_
   have I:=MO n
   rw[U,I]
   show(a.headD ⟨0,0⟩).L≤(b[0]).L
   omega
  ·obtain⟨w,g,c,w3⟩:=Z m p hm
   obtain⟨V,A,B,o,F⟩:=IC H y (z.vol hm).1
   rw[F] at g
   cases g
   have c:Gi A B p.G≤p.L:=c
   have w3:Gi A B p.G=p.L→¬0<Oa A B p.G:=λh=>mX (w3 h)
   rcases Sq M C o with ⟨_,rfl,rfl⟩|⟨_,rfl,e⟩
   ·have h1:=MK D p.G
    have h2:=Oo D p.G
    rcases Int.lt_or_eq_of_le c with h|h
    ·have h3:=jT (show Gi u v p.G+1≤p.L by omega) hd
     rw[Int.add_mul,Int.one_mul] at h3
     omega
    ·have h3:=w3 h
     rw[h] at h1
     omega
   ·rw[e,VH] at c
    rw[e,Ou]
    exact jT c hd
  ·have W:=R0 y C
   have e:HH u v 2251799813685248=v.L*(v.G-u.G):=by
    have:=Ou u v
    rw[W] at this ⊢
    exact this
   show HH u v 2251799813685248≤_
   rw[e]
   refine jT ?_ hd
   have q:a[a.length-1]? =some a[a.length-1]:=by simp
   obtain⟨w,g,c⟩:=Y _ _ q
   obtain⟨V,A,B,o,F⟩:=IC H z (y.vol q).1
   rw[F] at g
   cases g
   have c:(a[a.length-1]).L≤Gi A B (a[a.length-1]).G:=c
   have:=(o.bounds Q).2
   have:=T8 z o.r_
   have I:=MN q
   rw[W,I]
   show(a[a.length-1]).L≤(b.getLastD ⟨0,0⟩).L
   omega
 have hl:=(M k l r s.l_ s.r_).1
 have aa:=(Q K d r' t.l_ t.r_).1
 have s1:=s.lo
 have s2:=s.hi
 have t1:=t.lo
 have t2:=t.hi
 have ab:U9 l r d r' (max l.G d.G):=by
  unfold U9
  rcases Int.le_total l.G d.G with e|e
  ·rw[Int.max_eq_right e]
   have:=cb K d t.l_ k l r ⟨s.l_,s.r_,e,by omega⟩
   have J:HH d r' d.G=d.L*(r'.G-d.G):=by unfold HH;grind
   rw[J]
   have:=jT this (show 0≤r'.G-d.G by omega)
   grind
  ·rw[Int.max_eq_left e]
   have:=ca k l s.l_ K d r' ⟨t.l_,t.r_,e,by omega⟩
   have J:HH l r l.G=l.L*(r.G-l.G):=by unfold HH;grind
   rw[J]
   have:=jT this (show 0≤r.G-l.G by omega)
   grind
 have X:U9 l r d r' (min r.G r'.G):=by
  unfold U9
  rcases Int.le_total r.G r'.G with e|e
  ·rw[Int.min_eq_left e]
   have:=ca (k+1) r s.r_ K d r' ⟨t.l_,t.r_,by omega,e⟩
   have J:HH l r r.G=r.L*(r.G-l.G):=by unfold HH;grind
   rw[J]
   have:=jT this (show 0≤r.G-l.G by omega)
   grind
  ·rw[Int.min_eq_right e]
   have:=cb (K+1) r' t.r_ k l r ⟨s.l_,s.r_,by omega,e⟩
   have J:HH d r' r'.G=r'.L*(r'.G-d.G):=by unfold HH;grind
   rw[J]
   have:=jT this (show 0≤r'.G-d.G by omega)
   grind
 exact(ab.mid X (by omega) (by omega) (by omega)).val hl aa
end Go.Proofs.YtibidnaedddfdaaGreat
