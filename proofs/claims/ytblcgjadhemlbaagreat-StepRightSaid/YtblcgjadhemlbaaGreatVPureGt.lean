import Derived.Test.YtblcgjadhemlbaaGreatVPureRight
import Derived.Test.YtblcgjadhemlbaaGreatVPureBase
namespace Go.Proofs.YtblcgjadhemlbaaGreat
set_option linter.all false
open Go.RowKit
def ZG {t t' n d:Int}(hd:0≤d) (a:0≤n) (b:t≤t'):t*n/d≤t'*n/d:=by
 rcases Int.lt_or_eq_of_le hd with c|c
 ·exact Int.ediv_le_ediv c (qK b a)
 ·rw[←c];simp
def Ti {t n d:Int}(hd:0≤d) (a:0≤n) (b:0≤t):0≤t*n/d:=Int.ediv_nonneg (Int.mul_nonneg b a) hd
def Xg {t n d:Int}(hd:0≤d) (b:n≤d) (a:0≤t):t*n/d≤t:=by
 rcases Int.lt_or_eq_of_le hd with h0|h0
 ·refine Int.ediv_le_of_le_mul h0 (Int.mul_le_mul_of_nonneg_left b a)
 ·rw[←h0];simp [a]
def kI (e:List B4):Prop:=∀k l r,e[k]? =some l→e[k+1]? =some r→l.N<r.N∧l.Y≤r.Y
def Hp.vol {c:List B4}(b:Hp c) {k:Nat}{p:B4}(a:c[k]? =some p):Ia p.N∧Ia p.Y:=⟨(b.2.2 k p a).1,(b.2.2 k p a).2.1⟩
def Hp.step {c:List B4}(d:Hp c) {k:Nat}{p q:B4}(a:c[k]? =some p) (b:c[k+1]? =some q):p.N<q.N∧p.Y≤q.Y:=(d.2.2 (k+1) q b).2.2 p (by omega) a
def kI.mono {e:List B4}(s:kI e) {i:Nat}:∀{j:Nat}{a b:B4},i≤j→e[i]? =some a→e[j]? =some b→a.N≤b.N∧a.Y≤b.Y∧(i<j→a.N<b.N)
 |j,a,b,l,g,d=>by
  rcases nT i j with n|hge
  ·obtain⟨j,rfl⟩:∃m,j=m+1:=⟨j-1,by omega⟩
   have o:=(nK.1 d).1
   obtain⟨c,k⟩:∃c,e[j]? =some c:=⟨e[j],by simp [show j<e.length by omega]⟩
   have p:=kI.mono s (j:=j) (by omega) g k
   have q:=s j c b k d
   exact⟨by omega,by omega,λ_=>by omega⟩
  ·have:i=j:=by omega
   subst this
   rw[g] at d
   cases d
   exact⟨oA _,oA _,λs=>by omega⟩
structure jY (e:List B4) (x:Int) (k:Nat) (l r:B4):Prop where
 l_:e[k]? =some l
 r_:e[k+1]? =some r
 lo:l.N≤x
 hi:x<r.N
def PG (l r:B4) (x:Int):Int:=l.Y+(x-l.N)*(r.Y-l.Y)/(r.N-l.N)
def Vv (l r:B4) (x:Int):Int:=(x-l.N)*(r.Y-l.Y)%(r.N-l.N)
def jY.bounds {e:List B4}(m:kI e) {x:Int}{k:Nat}{l r:B4}(a:jY e x k l r):l.Y≤PG l r x∧PG l r x≤r.Y:=by
 have b:=m k l r a.l_ a.r_
 have c:=a.lo
 have g:=a.hi
 have i:=Ti (t:=x-l.N) (n:=r.Y-l.Y) (d:=r.N-l.N) (by omega) (by omega) (by omega)
 have j:(x-l.N)*(r.Y-l.Y)/(r.N-l.N)≤r.Y-l.Y:=by
  refine Int.ediv_le_of_le_mul (by omega) ?_
  rw[Int.mul_comm]
  exact Int.mul_le_mul_of_nonneg_left (by omega) (by omega)
 unfold PG
 omega
def jY.mono {e:List B4}(v:kI e) {x c:Int}{k g:Nat}{l r i r':B4}(a:jY e x k l r) (b:jY e c g i r') (u:x≤c):PG l r x≤PG i r' c:=by
 rcases Nat.lt_trichotomy k g with m|heq|hgt
 ·have j:=v.mono (show k+1≤g by omega) a.r_ b.l_
  have o:=(a.bounds v).2
  have p:=(b.bounds v).1
  omega
 ·subst heq
  have q:=a.l_.symm.trans b.l_
  have s:=a.r_.symm.trans b.r_
  cases q;cases s
  have j:=v k l r a.l_ a.r_
  have:=ZG (t:=x-l.N) (t':=c-l.N) (n:=r.Y-l.Y) (d:=r.N-l.N) (by omega) (by omega) (by omega)
  unfold PG
  omega
 ·have j:=v.mono (show g+1≤k by omega) b.r_ a.l_
  have o:=a.lo
  have p:=b.hi
  omega
def lW (e:List B4) (s:Int):Prop:=∀k l r,e[k]? =some l→e[k+1]? =some r→(r.Y-l.Y)*1099511627776≤s*(r.N-l.N)
def lW.mono {e:List B4}{s:Int}(t:lW e s) {i:Nat}:∀{j:Nat}{a b:B4},i≤j→e[i]? =some a→e[j]? =some b→(b.Y-a.Y)*1099511627776≤s*(b.N-a.N)
 |j,a,b,l,g,d=>by
  rcases nT i j with n|hge
  ·obtain⟨j,rfl⟩:∃m,j=m+1:=⟨j-1,by omega⟩
   have o:=(nK.1 d).1
   obtain⟨c,k⟩:∃c,e[j]? =some c:=⟨e[j],by simp [show j<e.length by omega]⟩
   have p:=lW.mono t (j:=j) (by omega) g k
   have q:=t j c b k d
   grind
  ·have:i=j:=by omega
   subst this
   rw[g] at d
   cases d
   grind
def bQ {a n d:Int}(b:0≤a∧a≤1125899906842624) (c:0≤n∧n≤1125899906842624) (g:1≤d∧d≤1125899906842624) (i:a*n/d≤1125899906842624):fG a n d=(a*n/d,a*n%d,true):=by
 unfold fG
 rw[nD ⟨b,c,g,i⟩]
def Ns {N:Nat}(i:33<N) {c:List B4}(o:Hp c):Ed N c=some true:=by
 unfold Ed
 have j:=o.1
 have l:=o.2.1
 rw[show (decide ((c.length:Int)<1)||decide (32<(c.length:Int)))=false by simp;omega,mX]
 exact OG c.length (Ec N c (Gm N)) (Gm N) (λn k a=>by
  simp only[Ec];rw[E7 a];rfl) (λn k a=>by
  have b:c[k]? =some c[k]:=by simp [a]
  have v:=o.vol b
  unfold Ia at v
  simp only[Ec]
  rw[Ev a,mW,BS a,mV,show(((decide ((c[k]).N<0)||decide (1125899906842624<(c[k]).N))||decide ((c[k]).Y<0))||decide (1125899906842624<(c[k]).Y))=false by simp only[nZ,nV];omega,mX,BX (by omega)]
  by_cases h0:k=0
  ·subst h0
   rfl
  ·have d:c[k-1]? =some c[k-1]:=by simp
   have m:=o.step d (q:=c[k]) (by rw[show k-1+1=k by omega];exact b)
   have g:B0 ((k:Int)-1)=((k-1:Nat):Int):=by rw[DG (by omega) (by omega)];omega
   rw[show decide ((0:Int)<(k:Int))=true by simp;omega,mW,g,BS (show k-1<c.length by omega)]
   simp only[mV]
   rw[show decide ((c[k]).N≤(c[k-1]).N)=false by simp only[nV];omega,show decide ((c[k]).Y<(c[k-1]).Y)=false by simp only[nV];omega]
   rfl) N 0 (by omega) (nE _)
def Td (l r:B4) (x:Int):Int:=l.Y*(r.N-l.N)+(x-l.N)*(r.Y-l.Y)
def Q5 {l r:B4}(a:l.N<r.N) (x:Int):PG l r x*(r.N-l.N)+Vv l r x=Td l r x:=by
 have:=Int.ediv_mul_add_emod ((x-l.N)*(r.Y-l.Y)) (r.N-l.N)
 unfold PG Vv Td
 grind
def Up {l r:B4}(a:l.N<r.N) (x:Int):0≤Vv l r x∧Vv l r x<r.N-l.N:=⟨Int.emod_nonneg _ (by omega),Int.emod_lt_of_pos _ (by omega)⟩
def aY (l r a r':B4) (x:Int):Prop:=Td l r x*(r'.N-a.N)≤Td a r' x*(r.N-l.N)
def aY.mid {l r b r':B4}{x u v:Int}(c:aY l r b r' u) (d:aY l r b r' v) (i:u≤x) (j:x≤v) (g:u<v):aY l r b r' x:=by
 unfold aY Td at*
 have k:=qK c (show 0≤v-x by omega)
 have m:=qK d (show 0≤x-u by omega)
 refine Int.le_of_mul_le_mul_right (a:=v-u) ?_ (by omega)
 grind
def aY.val {l r c r':B4}{x:Int}(z:aY l r c r' x) (j:l.N<r.N) (g:c.N<r'.N):PG l r x≤PG c r' x:=by
 have k:=Q5 j x
 have n:=Q5 g x
 have o:=Up j x
 have p:=Up g x
 unfold aY at z
 rw[←k,←n] at z
 refine Int.not_lt.1 λt=>?_
 generalize PG l r x=a at*
 generalize PG c r' x=b at*
 generalize Vv l r x=m at*
 generalize Vv c r' x=q at*
 have s:0<r.N-l.N:=by omega
 have u:0<r'.N-c.N:=by omega
 generalize r.N-l.N=d at*
 generalize r'.N-c.N=i at*
 have v:(b+1)*(d*i)≤a*(d*i):=qK (by omega) (Int.mul_nonneg (by omega) (by omega))
 have w:0≤m*i:=Int.mul_nonneg o.1 (by omega)
 have y:q*d<i*d:=Int.mul_lt_mul_of_pos_right p.2 s
 grind
end Go.Proofs.YtblcgjadhemlbaaGreat
namespace Go.Proofs.YtblcgjadhemlbaaGreat
set_option linter.all false
open Go.RowKit
def Ud (N:Nat) (a b:Int):Df (Gc N a b):=by
 unfold Gc;exact Df.cond (λ_=>Df.mk _) λ_=>Df.cond (λ_=>Df.mk _) λ_=>Df.mk _
def Pw (N:Nat) (a b:Int):Df (Gb N a b):=by
 unfold Gb;exact Df.cond (λ_=>Df.mk _) λ_=>Df.cond (λ_=>Df.mk _) λ_=>Df.mk _
def IM {k:Nat}(b:k≤1000) (c:Nat) (a:c≤1000) {α}(x:Option α):chk (Jh (k:Int) (k:Int) c) x=x:=by
 have:Jh (k:Int) (k:Int) c=true:=by
  simp only[Jh,mY,nR]
  refine⟨⟨by omega,by omega⟩,?_⟩
  have:(c:Int)*(k:Int)≤1000*1000:=Int.mul_le_mul (by omega) (by omega) (by omega) (by omega)
  omega
 rw[this];rfl
def mJ {α}{l:List α}{i:Nat}(a:i<l.length):∃x,ix l (i:Int)=some x∧x∈l:=⟨l[i],BS a,nP a⟩
def ZQ {α}(l xs:List α):(NO l xs).length=l.length:=by unfold NO;simp;omega
def YF {α}{l xs:List α}(a:l.length=xs.length):NO l xs=xs:=by
 unfold NO;rw[a,oL,List.drop_of_length_le (by omega),oS]
def MC (k:Nat) (z:Int):(List.replicate ((k:Int)).toNat z).length=k:=by simp
def Mt {α}(k:Nat) (z:α):(List.replicate ((k:Int)).toNat z).length=k:=by simp
def SU (p:List Int):NO (List.replicate ((p.length:Int)).toNat (0:Int)) p=p:=YF (by simp)
def K0 {α}(l:List α) (i:Int) (x:α):(upd l i x).length=l.length:=by simp [upd]
def KH (N:Nat) {p:List Int}(a:p.length≤1000000):Cw N p=some p:=by
 unfold Cw
 rw[KC (by simp;omega)];rfl
def UZ (N:Nat) {p:List BH}(a:p.length≤1000000):Cg N p=some p:=by
 unfold Cg
 rw[KC (by simp;omega)];rfl
def XI {N:Nat}(l:1000000<N) {p q:List Int}(m:p.length≤1000) (o:q.length≤1000):∃r,Gk N p q=some r∧r.length=max p.length q.length:=by
 unfold Gk
 have c:max (p.length:Int) (q.length:Int)=((max p.length q.length:Nat):Int):=by omega
 rw[c,IM (by omega) _ (by decide)]
 obtain⟨s,d,e⟩:=EQ q.length (λn i s=>Fi N q (HT N) n i s) (HT N) (λ_ s=>s.length=max p.length q.length) (λn k s a=>by
  simp only[Fi];rw[E7 a];rfl) (λn k s g a=>by
  simp only[Fi]
  have b:k<s.length:=by omega
  obtain⟨v,j⟩:=Ud N s[k] q[k]
  rw[Ev a,mW,BS a]
  simp only[BS b,mV]
  rw[j,mV,BX (by omega)]
  exact⟨_,by rw[K0];exact g,rfl⟩) N 0 (NO (List.replicate (((max p.length q.length:Nat):Int)).toNat (0:Int)) p) (by rw[ZQ,MC]) (by omega) (nE _)
 exact⟨s,e,d⟩
def V6 {N:Nat}(l:1000000<N) {p:List Int}(m:p.length≤1000):∃v,Gs N p=some v∧(v=true→(∀x∈p,0≤x)∧p.sum≤1125899906842624):=by
 unfold Gs
 rcases ME p.length (λn i s=>DT N p (E4 N) n s i) (λ_=>E4 N) (some false) (λk s=>(∀x∈p.take k,0≤x)∧s=(p.take k).sum∧s≤1125899906842624∧0≤s) (λn k s a=>by
  simp only[DT];rw[E7 a];rfl) (λn k s d a=>by
  obtain⟨b,c,g,o⟩:=d
  simp only[DT]
  rw[Ev a,mW,BS a,mV,DG (n:=1125899906842624-s) (by omega) (by omega)]
  cases j:(decide (p[k]<0)||decide (1125899906842624-s<p[k]))
  ·simp only[nZ,nV] at j
   rw[mX,BX (by omega),DG (n:=s+p[k]) (by omega) (by omega)]
   exact .inr ⟨_,⟨KM a b (by omega),by rw[Hf a,c],by omega,by omega⟩,rfl⟩
  ·exact .inl rfl) N 0 0 ⟨by simp,rfl,by decide,by decide⟩ (by omega) (nE _) with e|⟨s,⟨b,c,g,_⟩,e⟩
 ·exact⟨false,e,λq=>by cases q⟩
 ·rw[oL] at b c
  exact⟨true,e,λ_=>⟨b,by omega⟩⟩
end Go.Proofs.YtblcgjadhemlbaaGreat
namespace Go.Proofs.YtblcgjadhemlbaaGreat
set_option linter.all false
open Go.RowKit
def GO {α}{l:List α}{k:Nat}(a:k<l.length) (x:α):(upd l (k:Int) x)[k]? =some x:=by
 simp [upd,a]
def IC {α}{l:List α}{k j:Nat}(a:k≠j) (x:α):(upd l (k:Int) x)[j]? =l[j]? :=by
 simp [upd,pN a]
end Go.Proofs.YtblcgjadhemlbaaGreat
namespace Go.Proofs.YtblcgjadhemlbaaGreat
set_option linter.all false
open Go.RowKit
def M0 (N:Nat) (n a b:Int):HW N n a b=some (if n<a then a else if b<n then b else n):=by
 unfold HW
 by_cases c:n<a
 ·rw[nW c,nD c];rfl
 ·rw[nL c,nB c]
  by_cases d:b<n
  ·rw[nW d,nD d];rfl
  ·rw[nL d,nB d];rfl
def K6 (N:Nat) (i n:Int):GQ N i n=some (decide (0≤i)&&decide (i<n)):=rfl
def Xh (N:Nat) (l:BQ) (g:BH) (k:Int):∃a,HL N l g k=some a∧a.V=g.V∧a.W=g.W:=by
 have b:∀c:Bool,∃a,Ga N l g k (Ft N g) c=some a∧a.V=g.V∧a.W=g.W:=λc=>by
  unfold Ga
  cases c
  ·exact⟨_,rfl,rfl,rfl⟩
  ·cases decide (l.C=5)<;>exact⟨_,rfl,rfl,rfl⟩
 unfold HL
 cases decide (k=0)
 ·cases decide (k=1)
  ·cases decide (k=2)
   ·exact b (decide (k=3))
   ·exact b true
  ·exact⟨_,rfl,rfl,rfl⟩
 ·exact⟨_,rfl,rfl,rfl⟩
def YT (N:Nat) (l:BQ) (g:BH) (t:Int):∃a,Ih N l g t=some a∧a.V=g.V∧a.Aw=g.Aw∧(0≤l.T→0≤g.W→g.W≤l.T→0≤a.W∧a.W≤l.T):=by
 unfold Ih
 cases decide (l.T≠0)
 ·exact⟨_,rfl,rfl,rfl,λ_ b c=>⟨b,c⟩⟩
 ·rw[mW,M0,mV]
  refine⟨_,rfl,rfl,rfl,λh0 b c=>?_⟩
  show 0≤(if t<0 then 0 else if l.T<t then l.T else t)∧_≤l.T
  split
  ·exact⟨oA _,h0⟩
  ·split
   ·exact⟨h0,oA _⟩
   ·exact⟨by omega,show t≤_ by omega⟩
def Y5 (N:Nat) (l:BQ) (g:BH):Df (HV N l g):=by
 unfold HV
 cases g.Aw
 ·obtain⟨a,d⟩:=Pw N g.W g.V
  obtain⟨b,i⟩:=Pw N 0 l.Z
  rw[mX,d,mV,i,mV,M0,mV]
  obtain⟨c,j⟩:=Ud N g.V (if a<b then b else if l.Z<a then l.Z else a)
  rw[j]
  exact⟨_,rfl⟩
 ·exact⟨_,rfl⟩
def Vz (N:Nat) (l:BQ) (g:BH) (v:Int):∃b,Gr N l g v=some b∧b.V=g.V∧(l.C≠3→b=g):=by
 unfold Gr
 by_cases a:l.C=3
 ·rw[show decide (l.C≠3)=false by simp [a],mX]
  cases decide (l.Ah≤v)
  ·cases decide (v≤l.Ai)<;>exact⟨_,rfl,rfl,λc=>absurd a c⟩
  ·exact⟨_,rfl,rfl,λc=>absurd a c⟩
 ·rw[show decide (l.C≠3)=true by simp [a],mW]
  exact⟨g,rfl,rfl,λ_=>rfl⟩
def gF (N:Nat) (l:BQ) (g:BH) (k:Int):BH:=(HL N l g k).getD g
def gA (N:Nat) (l:BQ) (g:BH) (k:Int):BH:=(Ih N l g k).getD g
def gM (N:Nat) (l:BQ) (g:BH):BH:=(HV N l g).getD g
def gS (N:Nat) (l:BQ) (g:BH) (v:Int):BH:=(Gr N l g v).getD g
def gP (N:Nat) (l:BQ) (g:BH) (k:Int):HL N l g k=some (gF N l g k)∧(gF N l g k).V=g.V∧(gF N l g k).W=g.W:=by
 obtain⟨a,e,b⟩:=Xh N l g k
 unfold gF;rw[e];exact⟨rfl,b⟩
def gQ (N:Nat) (l:BQ) (g:BH) (k:Int):Ih N l g k=some (gA N l g k)∧(gA N l g k).V=g.V∧(gA N l g k).Aw=g.Aw∧(0≤l.T→0≤g.W→g.W≤l.T→0≤(gA N l g k).W∧(gA N l g k).W≤l.T):=by
 obtain⟨a,e,b⟩:=YT N l g k
 unfold gA;rw[e];exact⟨rfl,b⟩
def Xd (N:Nat) (l:BQ) (g:BH):HV N l g=some (gM N l g):=by
 obtain⟨a,e⟩:=Y5 N l g
 unfold gM;rw[e];rfl
def gO (N:Nat) (l:BQ) (g:BH) (v:Int):Gr N l g v=some (gS N l g v)∧(gS N l g v).V=g.V∧(l.C≠3→gS N l g v=g):=by
 obtain⟨a,e,b⟩:=Vz N l g v
 unfold gS;rw[e];exact⟨rfl,b⟩
def cJ (N:Nat) (l:BQ) (g:BH) (k:l.T≤64) (m:0≤l.Z∧l.Z≤l.T) (d:0≤g.V∧g.V≤l.T) (n:0≤g.W∧g.W≤l.T):(0≤(gM N l g).V∧(gM N l g).V≤l.T)∧(gM N l g).V-g.V≤l.Z∧ -l.Z≤(gM N l g).V-g.V∧(g.Aw=true→gM N l g=g):=by
 have e:=Xd N l g
 unfold HV at e
 cases a:g.Aw with
 |true=>
  rw[a,mW] at e
  have e:=mZ e
  rw[←e]
  exact⟨d,by omega,by omega,λ_=>rfl⟩
 |false=>
  rw[a,mX,Wt N (by omega) (by omega) (by omega) (by omega),mV,Wt N (by omega) (by omega) (by omega) (by omega),mV,M0,mV] at e
  have b:∃c,(if g.W-g.V<0-l.Z then 0-l.Z else if l.Z<g.W-g.V then l.Z else g.W-g.V)=c∧ -l.Z≤c∧c≤l.Z∧0≤g.V+c∧g.V+c≤l.T:=by
   refine⟨_,rfl,?_⟩
   split
   ·omega
   ·split<;>omega
  obtain⟨c,b,o,p,i,j⟩:=b
  rw[b,Sa N (by omega) (by omega) (by omega) (by omega),mV] at e
  have e:=mZ e
  rw[←e]
  exact⟨⟨i,j⟩,by show g.V+c-g.V≤_;omega,by show _≤g.V+c-g.V;omega,λq=>by cases q⟩
def Yu (N:Nat) (l:BQ) (k:Nat) (a:List KK) (g:BH):BH:=a.foldl (λg f=>if f.Ay=(k:Int) then gF N l g f.C else g) g
def stA (N:Nat) (l:BQ) (k:Nat) (cs:List PY) (g:BH):BH:=cs.foldl (λg c=>if c.Ay=(k:Int) then gA N l g c.W else g) g
def Py {N:Nat}{l:BQ}{k:Nat}{a:List KK}{g:BH}{i:Nat}(b:i<a.length):Yu N l k (a.take (i+1)) g=if a[i].Ay=(k:Int) then gF N l (Yu N l k (a.take i) g) a[i].C else Yu N l k (a.take i) g:=by
 unfold Yu;rw[pO b,qT];rfl
def Pz {N:Nat}{l:BQ}{k:Nat}{cs:List PY}{g:BH}{i:Nat}(a:i<cs.length):stA N l k (cs.take (i+1)) g=if cs[i].Ay=(k:Int) then gA N l (stA N l k (cs.take i) g) cs[i].W else stA N l k (cs.take i) g:=by
 unfold stA;rw[pO a,qT];rfl
def Vq (L:Nat) (a:List BH) (g:Nat→BH):Prop:=a.length=L∧∀k,k<L→a[k]? =some (g k)
def Vq.ix {L:Nat}{a:List BH}{g:Nat→BH}(c:Vq L a g) {k:Nat}(b:k<L):ix a (k:Int)=some (g k):=by
 have:=c.2 k b
 simp [Go.Proofs.YtblcgjadhemlbaaGreat.ix,this]
def Vq.upd {L:Nat}{b:List BH}{g a:Nat→BH}(m:Vq L b g) {j:Nat}(d:j<L) (x:BH) (i:a j=x) (l:∀k,k<L→k≠j→a k=g k):Vq L (upd b (j:Int) x) a:=
 ⟨by rw[K0];exact m.1,λk c=>by
  by_cases e:j=k
  ·subst e;rw[GO (by rw[m.1];exact d),i]
  ·rw[IC e,m.2 k c,l k c λm=>e m.symm]⟩
def Vq.congr {L:Nat}{a:List BH}{g b:Nat→BH}(d:Vq L a g) (e:∀k,k<L→b k=g k):Vq L a b:=⟨d.1,λk c=>by rw[d.2 k c,e k c]⟩
def VD (b:AU) (k:Nat):BQ:=b.E.getD k default
def QG {b:AU}{k:Nat}(a:k<b.E.length):VD b k=b.E[k]:=by unfold VD;simp [oT,a]
def aE {α}{l:List α}{i:Int}(h0:0≤i) (a:i<l.length):∃n:Nat,i=(n:Int)∧n<l.length:=⟨i.toNat,by omega,by omega⟩
def OJ {i:Int}{n:Nat}:(decide (0≤i)&&decide (i<(n:Int)))=true↔0≤i∧i<n:=by simp
def XN {N:Nat}(H:1000000<N) {w:A4}{b:AU}(q:w.b=b) (I:b.E.length≤1000) (J:w.in_.Am.length≤1000) (K:w.in_.Ar.length≤1000) {o:Nat→BH}(h0:Vq b.E.length w.s.Q o):
  ∃x,GR N w=some x∧Vq b.E.length x (λk=>gM N (VD b k) (stA N (VD b k) k w.in_.Ar (Yu N (VD b k) k w.in_.Am (o k)))):=by
 subst q
 unfold GR
 obtain⟨t,y,B⟩:=EQ w.in_.Am.length (λn i s=>Cp N w (C9 N w) n i s) (C9 N w) (λi s=>Vq w.b.E.length s (λk=>Yu N (VD w.b k) k (w.in_.Am.take i) (o k))) (λn k s a=>by
  simp only[Cp];rw[E7 a];rfl) (λn i s g a=>by
  simp only[Cp,F9]
  rw[Ev a,mW,BS a,mV,K6,mV,BX (by omega)]
  cases l:(decide (0≤w.in_.Am[i].Ay)&&decide (w.in_.Am[i].Ay<(w.b.E.length:Int)))
  ·refine⟨s,g.congr λk d=>?_,rfl⟩
   rw[Py a,nB]
   intro e
   rw[e] at l
   simp [d] at l
  ·obtain⟨u,v⟩:=OJ.1 l
   obtain⟨j,m,c⟩:=aE u v
   rw[mW,m,BS c]
   simp only[g.ix c,mV]
   rw[(gP N _ _ _).1,mV]
   refine⟨_,g.upd c _ ?_ λk d p=>?_,rfl⟩
   ·rw[Py a,nD m,QG c]
   ·rw[Py a,nB (by rw[m];omega)]) N 0 w.s.Q h0 (by omega) (nE _)
 rw[show Cp N w (C9 N w) N 0 w.s.Q=C9 N w t from B]
 rw[oL] at y
 unfold C9
 obtain⟨z,A,C⟩:=EQ w.in_.Ar.length (λn i s=>Co N w (C8 N w) n i s) (C8 N w) (λi s=>Vq w.b.E.length s (λk=>stA N (VD w.b k) k (w.in_.Ar.take i) (Yu N (VD w.b k) k w.in_.Am (o k)))) (λn k s a=>by
  simp only[Co];rw[E7 a];rfl) (λn i s g a=>by
  simp only[Co,F8]
  rw[Ev a,mW,BS a,mV,K6,mV,BX (by omega)]
  cases l:(decide (0≤w.in_.Ar[i].Ay)&&decide (w.in_.Ar[i].Ay<(w.b.E.length:Int)))
  ·refine⟨s,g.congr λk d=>?_,rfl⟩
   rw[Pz a,nB]
   intro e
   rw[e] at l
   simp [d] at l
  ·obtain⟨u,v⟩:=OJ.1 l
   obtain⟨j,m,c⟩:=aE u v
   rw[mW,m,BS c]
   simp only[g.ix c,mV]
   rw[(gQ N _ _ _).1,mV]
   refine⟨_,g.upd c _ ?_ λk d p=>?_,rfl⟩
   ·rw[Pz a,nD m,QG c]
   ·rw[Pz a,nB (by rw[m];omega)]) N 0 t y (by omega) (nE _)
 rw[show Co N w (C8 N w) N 0 t=C8 N w z from C]
 rw[oL] at A
 unfold C8
 obtain⟨D,F,G⟩:=EQ w.b.E.length (λn i s=>DM N w n i s) (λs=>some s) (λi s=>Vq w.b.E.length s (λk=>if k<i then gM N (VD w.b k) (stA N (VD w.b k) k w.in_.Ar (Yu N (VD w.b k) k w.in_.Am (o k))) else stA N (VD w.b k) k w.in_.Ar (Yu N (VD w.b k) k w.in_.Am (o k)))) (λn k s a=>by
  simp only[DM];rw[E7 a];rfl) (λn i s g a=>by
  simp only[DM]
  rw[Ev a,mW,BS a]
  simp only[g.ix a,mV]
  rw[Xd,mV,BX (by omega),nB (Nat.lt_irrefl i)]
  refine⟨_,g.upd a _ ?_ λk d p=>?_,rfl⟩
  ·rw[nD (Nat.lt_succ_self i),QG a]
  ·by_cases M:k<i
   ·rw[nD M,nD (by omega)]
   ·rw[nB M,nB (by omega)]) N 0 z (A.congr λk _=>by rw[nB (Nat.not_lt_zero k)]) (by omega) (nE _)
 exact⟨D,G,F.congr λk a=>by rw[nD a]⟩
end Go.Proofs.YtblcgjadhemlbaaGreat
