import Derived.Test.YtblcgjadhemlbaaGreatQPureDiv2
import Derived.Test.YtblcgjadhemlbaaGreatQPureBase
namespace Go.Proofs.YtblcgjadhemlbaaGreat
open Go.RowKit
set_option linter.unusedVariables false
set_option linter.unusedSimpArgs false
theorem Wc {t t' n d:Int}(hd:0≤d) (hn:0≤n) (ht:t≤t'):t*n/d≤t'*n/d:=by
 rcases Int.lt_or_eq_of_le hd with h|h
 ·exact Int.ediv_le_ediv h (Int.mul_le_mul_of_nonneg_right ht hn)
 ·rw[←h];simp
theorem XZ {t n d:Int}(hd:0≤d) (hn:0≤n) (ht:0≤t):0≤t*n/d:=Int.ediv_nonneg (Int.mul_nonneg ht hn) hd
theorem Z7 {t n d:Int}(hd:0≤d) (h:n≤d) (ht:0≤t):t*n/d≤t:=by
 rcases Int.lt_or_eq_of_le hd with h0|h0
 ·refine Int.ediv_le_of_le_mul h0 (Int.mul_le_mul_of_nonneg_left h ht)
 ·rw[←h0];simp [ht]
def cG (e:List BI):Prop:=∀k l r,e[k]? =some l→e[k+1]? =some r→l.X<r.X∧l.Y≤r.Y
theorem Gb.vol {c:List BI}(h:Gb c) {k:Nat}{p:BI}(hp:c[k]? =some p):Hy p.X∧Hy p.Y:=⟨(h.2.2 k p hp).1,(h.2.2 k p hp).2.1⟩
theorem Gb.step {c:List BI}(h:Gb c) {k:Nat}{p q:BI}(hp:c[k]? =some p) (hq:c[k+1]? =some q):p.X<q.X∧p.Y≤q.Y:=(h.2.2 (k+1) q hq).2.2 p (by omega) hp
theorem cG.mono {e:List BI}(h:cG e) {i:Nat}:∀{j:Nat}{a b:BI},i≤j→e[i]? =some a→e[j]? =some b→a.X≤b.X∧a.Y≤b.Y∧(i<j→a.X<b.X)
 |j,a,b,hij,ha,hb=>by
  rcases Nat.lt_or_ge i j with hlt|hge
  ·obtain⟨j,rfl⟩:∃m,j=m+1:=⟨j-1,by omega⟩
   have hj:=(List.getElem?_eq_some_iff.1 hb).1
   obtain⟨c,hc⟩:∃c,e[j]? =some c:=⟨e[j],by simp [show j<e.length by omega]⟩
   have h1:=cG.mono h (j:=j) (by omega) ha hc
   have h2:=h j c b hc hb
   exact⟨by omega,by omega,λ_=>by omega⟩
  ·have:i=j:=by omega
   subst this
   rw[ha] at hb
   cases hb
   exact⟨Int.le_refl _,Int.le_refl _,λh=>by omega⟩
structure cA (e:List BI) (x:Int) (k:Nat) (l r:BI):Prop where
 l_:e[k]? =some l
 r_:e[k+1]? =some r
 lo:l.X≤x
 hi:x<r.X
def OA (l r:BI) (x:Int):Int:=l.Y+(x-l.X)*(r.Y-l.Y)/(r.X-l.X)
def Tf (l r:BI) (x:Int):Int:=(x-l.X)*(r.Y-l.Y)%(r.X-l.X)
theorem cA.bounds {e:List BI}(h:cG e) {x:Int}{k:Nat}{l r:BI}(a:cA e x k l r):l.Y≤OA l r x∧OA l r x≤r.Y:=by
 have h1:=h k l r a.l_ a.r_
 have h2:=a.lo
 have h3:=a.hi
 have h4:=XZ (t:=x-l.X) (n:=r.Y-l.Y) (d:=r.X-l.X) (by omega) (by omega) (by omega)
 have h5:(x-l.X)*(r.Y-l.Y)/(r.X-l.X)≤r.Y-l.Y:=by
  refine Int.ediv_le_of_le_mul (by omega) ?_
  rw[Int.mul_comm]
  exact Int.mul_le_mul_of_nonneg_left (by omega) (by omega)
 unfold OA
 omega
theorem cA.mono {e:List BI}(h:cG e) {x x':Int}{k k':Nat}{l r l' r':BI}(a:cA e x k l r) (b:cA e x' k' l' r') (hx:x≤x'):OA l r x≤OA l' r' x':=by
 rcases Nat.lt_trichotomy k k' with hlt|heq|hgt
 ·have h1:=h.mono (show k+1≤k' by omega) a.r_ b.l_
  have h2:=(a.bounds h).2
  have h3:=(b.bounds h).1
  omega
 ·subst heq
  have e1:=a.l_.symm.trans b.l_
  have e2:=a.r_.symm.trans b.r_
  cases e1;cases e2
  have h1:=h k l r a.l_ a.r_
  have:=Wc (t:=x-l.X) (t':=x'-l.X) (n:=r.Y-l.Y) (d:=r.X-l.X) (by omega) (by omega) (by omega)
  unfold OA
  omega
 ·have h1:=h.mono (show k'+1≤k by omega) b.r_ a.l_
  have h2:=a.lo
  have h3:=b.hi
  omega
def dT (e:List BI) (s:Int):Prop:=∀k l r,e[k]? =some l→e[k+1]? =some r→(r.Y-l.Y)*1099511627776≤s*(r.X-l.X)
theorem dT.mono {e:List BI}{s:Int}(h:dT e s) {i:Nat}:∀{j:Nat}{a b:BI},i≤j→e[i]? =some a→e[j]? =some b→(b.Y-a.Y)*1099511627776≤s*(b.X-a.X)
 |j,a,b,hij,ha,hb=>by
  rcases Nat.lt_or_ge i j with hlt|hge
  ·obtain⟨j,rfl⟩:∃m,j=m+1:=⟨j-1,by omega⟩
   have hj:=(List.getElem?_eq_some_iff.1 hb).1
   obtain⟨c,hc⟩:∃c,e[j]? =some c:=⟨e[j],by simp [show j<e.length by omega]⟩
   have h1:=dT.mono h (j:=j) (by omega) ha hc
   have h2:=h j c b hc hb
   grind
  ·have:i=j:=by omega
   subst this
   rw[ha] at hb
   cases hb
   grind
theorem YE {a n d:Int}(h1:0≤a∧a≤1125899906842624) (h2:0≤n∧n≤1125899906842624) (h3:1≤d∧d≤1125899906842624) (h4:a*n/d≤1125899906842624):cO a n d=(a*n/d,a*n%d,true):=by
 unfold cO
 rw[if_pos ⟨h1,h2,h3,h4⟩]
theorem Mp {N:Nat}(hN:33<N) {c:List BI}(h:Gb c):Dm N c=some true:=by
 unfold Dm
 have h1:=h.1
 have h2:=h.2.1
 rw[show (decide ((c.length:Int)<1)||decide (32<(c.length:Int)))=false by simp;omega,cond_false]
 exact QR c.length (Dl N c (FZ N)) (FZ N) (λn k hk=>by
  simp only[Dl];rw[E7 hk];rfl) (λn k hk=>by
  have hp:c[k]? =some c[k]:=by simp [hk]
  have v:=h.vol hp
  unfold Hy at v
  simp only[Dl]
  rw[E6 hk,cond_true,BQ hk,Option.bind_some,show(((decide ((c[k]).X<0)||decide (1125899906842624<(c[k]).X))||decide ((c[k]).Y<0))||decide (1125899906842624<(c[k]).Y))=false by simp only[Bool.or_eq_false_iff,decide_eq_false_iff_not];omega,cond_false,BH (by omega)]
  by_cases h0:k=0
  ·subst h0
   rfl
  ·have hq:c[k-1]? =some c[k-1]:=by simp
   have st:=h.step hq (q:=c[k]) (by rw[show k-1+1=k by omega];exact hp)
   have w1:BD ((k:Int)-1)=((k-1:Nat):Int):=by rw[GF (by omega) (by omega)];omega
   rw[show decide ((0:Int)<(k:Int))=true by simp;omega,cond_true,w1,BQ (show k-1<c.length by omega)]
   simp only[Option.bind_some]
   rw[show decide ((c[k]).X≤(c[k-1]).X)=false by simp only[decide_eq_false_iff_not];omega,show decide ((c[k]).Y<(c[k-1]).Y)=false by simp only[decide_eq_false_iff_not];omega]
   rfl) N 0 (by omega) (Nat.zero_le _)
def RW (l r:BI) (x:Int):Int:=l.Y*(r.X-l.X)+(x-l.X)*(r.Y-l.Y)
theorem Pf {l r:BI}(h:l.X<r.X) (x:Int):OA l r x*(r.X-l.X)+Tf l r x=RW l r x:=by
 have:=Int.ediv_mul_add_emod ((x-l.X)*(r.Y-l.Y)) (r.X-l.X)
 unfold OA Tf RW
 grind
theorem Sg {l r:BI}(h:l.X<r.X) (x:Int):0≤Tf l r x∧Tf l r x<r.X-l.X:=⟨Int.emod_nonneg _ (by omega),Int.emod_lt_of_pos _ (by omega)⟩
def Xw (l r l' r':BI) (x:Int):Prop:=RW l r x*(r'.X-l'.X)≤RW l' r' x*(r.X-l.X)
theorem Xw.mid {l r l' r':BI}{x u v:Int}(h1:Xw l r l' r' u) (h2:Xw l r l' r' v) (hu:u≤x) (hv:x≤v) (huv:u<v):Xw l r l' r' x:=by
 unfold Xw RW at*
 have a1:=Int.mul_le_mul_of_nonneg_right h1 (show 0≤v-x by omega)
 have a2:=Int.mul_le_mul_of_nonneg_right h2 (show 0≤x-u by omega)
 refine Int.le_of_mul_le_mul_right (a:=v-u) ?_ (by omega)
 grind
theorem Xw.val {l r l' r':BI}{x:Int}(h:Xw l r l' r' x) (hl:l.X<r.X) (hl':l'.X<r'.X):OA l r x≤OA l' r' x:=by
 have e1:=Pf hl x
 have e2:=Pf hl' x
 have m1:=Sg hl x
 have m2:=Sg hl' x
 unfold Xw at h
 rw[←e1,←e2] at h
 refine Int.not_lt.1 λhc=>?_
 generalize OA l r x=a at*
 generalize OA l' r' x=b at*
 generalize Tf l r x=m at*
 generalize Tf l' r' x=m' at*
 have d1:0<r.X-l.X:=by omega
 have d2:0<r'.X-l'.X:=by omega
 generalize r.X-l.X=d at*
 generalize r'.X-l'.X=d' at*
 have q1:(b+1)*(d*d')≤a*(d*d'):=Int.mul_le_mul_of_nonneg_right (by omega) (Int.mul_nonneg (by omega) (by omega))
 have q2:0≤m*d':=Int.mul_nonneg m1.1 (by omega)
 have q3:m'*d<d'*d:=Int.mul_lt_mul_of_pos_right m2.2 d1
 grind
end Go.Proofs.YtblcgjadhemlbaaGreat
namespace Go.Proofs.YtblcgjadhemlbaaGreat
open Go.RowKit
set_option linter.unusedVariables false
set_option linter.unusedSimpArgs false
theorem PD (N:Nat) (a b:Int):Df (qZ N a b):=by
 unfold qZ;exact Df.cond (λ_=>Df.mk _) λ_=>Df.cond (λ_=>Df.mk _) λ_=>Df.mk _
theorem Of (N:Nat) (a b:Int):Df (FQ N a b):=by
 unfold FQ;exact Df.cond (λ_=>Df.mk _) λ_=>Df.cond (λ_=>Df.mk _) λ_=>Df.mk _
theorem JJ {k:Nat}(h:k≤1000) (c:Nat) (hc:c≤1000) {α}(x:Option α):chk (Iu (k:Int) (k:Int) c) x=x:=by
 have:Iu (k:Int) (k:Int) c=true:=by
  simp only[Iu,Bool.and_eq_true,decide_eq_true_eq]
  refine⟨⟨by omega,by omega⟩,?_⟩
  have:(c:Int)*(k:Int)≤1000*1000:=Int.mul_le_mul (by omega) (by omega) (by omega) (by omega)
  omega
 rw[this];rfl
theorem ixD {α}{l:List α}{i:Nat}(h:i<l.length):∃x,ix l (i:Int)=some x∧x∈l:=⟨l[i],BQ h,List.getElem_mem h⟩
theorem Qk {α}(l xs:List α):(Lw l xs).length=l.length:=by unfold Lw;simp;omega
theorem Yh {α}{l xs:List α}(h:l.length=xs.length):Lw l xs=xs:=by
 unfold Lw;rw[h,List.take_length,List.drop_of_length_le (by omega),List.append_nil]
theorem Ht (k:Nat) (z:Int):(List.replicate ((k:Int)).toNat z).length=k:=by simp
theorem Lp {α}(k:Nat) (z:α):(List.replicate ((k:Int)).toNat z).length=k:=by simp
theorem Wj (p:List Int):Lw (List.replicate ((p.length:Int)).toNat (0:Int)) p=p:=Yh (by simp)
theorem K0 {α}(l:List α) (i:Int) (x:α):(upd l i x).length=l.length:=by simp [upd]
theorem J3 (N:Nat) {p:List Int}(h:p.length≤1000000):B9 N p=some p:=by
 unfold B9
 rw[JI (by simp;omega)];rfl
theorem SP (N:Nat) {p:List Ak}(h:p.length≤1000000):Bs N p=some p:=by
 unfold Bs
 rw[JI (by simp;omega)];rfl
theorem IR {N:Nat}(hN:1000000<N) {p:List Int}(h:p.length≤1000000):Df (Dy N p):=by
 unfold Dy
 obtain⟨s,_,e⟩:=E5 p.length (λn i s=>FO N p (Gi N) n s i) (Gi N) (λ_ _=>True) (λn k s hk=>by
  simp only[FO];rw[E7 hk];rfl) (λn k s _ hk=>by
  simp only[FO]
  obtain⟨v,hv⟩:=PD N s p[k]
  rw[E6 hk,cond_true,BQ hk,Option.bind_some,hv,Option.bind_some,BH (by omega)]
  exact⟨v,trivial,rfl⟩) N 0 0 trivial (by omega) (Nat.zero_le _)
 exact⟨s,e⟩
theorem Ou {N:Nat}(hN:1000000<N) {p q:List Int}(hp:p.length≤1000) (hq:q.length≤1000):∃r,Im N p q=some r∧r.length=max p.length q.length:=by
 unfold Im
 have hm:max (p.length:Int) (q.length:Int)=((max p.length q.length:Nat):Int):=by omega
 rw[hm,JJ (by omega) _ (by decide)]
 obtain⟨s,i1,e⟩:=E5 q.length (λn i s=>GH N q (Ho N) n i s) (Ho N) (λ_ s=>s.length=max p.length q.length) (λn k s hk=>by
  simp only[GH];rw[E7 hk];rfl) (λn k s hi hk=>by
  simp only[GH]
  have hks:k<s.length:=by omega
  obtain⟨v,hv⟩:=PD N s[k] q[k]
  rw[E6 hk,cond_true,BQ hk]
  simp only[BQ hks,Option.bind_some]
  rw[hv,Option.bind_some,BH (by omega)]
  exact⟨_,by rw[K0];exact hi,rfl⟩) N 0 (Lw (List.replicate (((max p.length q.length:Nat):Int)).toNat (0:Int)) p) (by rw[Qk,Ht]) (by omega) (Nat.zero_le _)
 exact⟨s,e,i1⟩
theorem Nx {N:Nat}(hN:1000000<N) {p t:List Int}(hp:p.length≤1000) (ht:t.length≤p.length):∃r,HH N p t=some r∧r.length=p.length:=by
 unfold HH
 rw[JJ hp _ (by decide)]
 obtain⟨s,i1,e⟩:=E5 t.length (λn i s=>EU N t (Fv N) n i s) (Fv N) (λ_ s=>s.length=p.length) (λn k s hk=>by
  simp only[EU];rw[E7 hk];rfl) (λn k s hi hk=>by
  simp only[EU]
  have hks:k<s.length:=by omega
  rw[E6 hk,cond_true,BQ hk]
  simp only[BQ hks,Option.bind_some]
  rw[BH (by omega)]
  exact⟨_,by rw[K0];exact hi,rfl⟩) N 0 (Lw (List.replicate ((p.length:Int)).toNat (0:Int)) p) (by rw[Qk,Ht]) (by omega) (Nat.zero_le _)
 exact⟨s,e,i1⟩
theorem U2 (N:Nat) (p:List Int) (i:Int):∃v,JL N p i=some v∧(0<v→0≤i∧i<p.length):=by
 unfold JL
 cases hb:(decide (i<0)||decide ((p.length:Int)≤i)) with
 |true=>exact⟨0,rfl,λh=>absurd h (by decide)⟩
 |false=>
  simp only[Bool.or_eq_false_iff,decide_eq_false_iff_not] at hb
  obtain⟨x,hx⟩:=Df.ix (l:=p) (i:=i) (by omega) (by omega)
  rw[cond_false,hx,Option.bind_some,Option.bind_some,Option.bind_some]
  cases decide (x<0)
  ·exact⟨x,rfl,λ_=>⟨by omega,by omega⟩⟩
  ·exact⟨0,rfl,λh=>absurd h (by decide)⟩
theorem VA {N:Nat}(hN:1000000<N) {p:List Int}(hp:p.length≤1000) (o n:Int):∃r,Jf N p o n=some r∧r.1.length=p.length∧r.2.length=p.length:=by
 have j0:∀l:List Int,l.length=p.length→∃r,HI N p l=some r∧r.1.length=p.length∧r.2.length=p.length:=λl hl=>by
  obtain⟨r,e,hr⟩:=Nx hN hp (t:=l) (by omega)
  unfold HI
  rw[e]
  exact⟨_,rfl,hl,hr⟩
 unfold Jf
 obtain⟨v,hv,hv2⟩:=U2 N p o
 rw[JJ hp _ (by decide),hv,Option.bind_some]
 cases hc:decide (0<min n v)
 ·exact j0 _ (Ht _ _)
 ·have h1:=of_decide_eq_true hc
  obtain⟨h2,h3⟩:=hv2 (by omega)
  obtain⟨x,hx⟩:=Df.ix (l:=List.replicate ((p.length:Int)).toNat (0:Int)) h2 (by rw[Ht];exact h3)
  rw[cond_true,hx,Option.bind_some,Option.bind_some]
  exact j0 _ (by rw[K0,Ht])
theorem U6 {N:Nat}(hN:1000000<N) {p:List Int}(hp:p.length≤1000) (fr to n:Int):∃r,Je N p fr to n=some r∧r.length=p.length:=by
 unfold Je
 obtain⟨v,hv,hv2⟩:=U2 N p fr
 rw[JJ hp _ (by decide),hv,Option.bind_some,Wj]
 cases hc:(((decide (0<min n v)&&decide (0≤to))&&decide (to<(p.length:Int)))&&decide (fr≠to))
 ·exact⟨p,rfl,rfl⟩
 ·simp only[Bool.and_eq_true,decide_eq_true_eq] at hc
  obtain⟨⟨⟨c1,c2⟩,c3⟩,c4⟩:=hc
  obtain⟨h2,h3⟩:=hv2 (by omega)
  obtain⟨x,hx⟩:=Df.ix (l:=p) h2 h3
  rw[cond_true,hx]
  simp only[Option.bind_some]
  obtain⟨y,hy⟩:=Df.ix (l:=upd p fr (BD (x-min n v))) (i:=to) c2 (by rw[K0];exact c3)
  obtain⟨z,hz⟩:=PD N y (min n v)
  rw[hy]
  simp only[Option.bind_some]
  rw[hz]
  simp only[Option.bind_some]
  exact⟨_,rfl,by rw[K0,K0]⟩
theorem Pp {N:Nat}(hN:1000000<N) {p:List Int}(hp:p.length≤1000):∃v,IE N p=some v∧(v=true→(∀x∈p,0≤x)∧p.sum≤1125899906842624):=by
 unfold IE
 rcases KR p.length (λn i s=>FM N p (Gh N) n s i) (λ_=>Gh N) (some false) (λk s=>(∀x∈p.take k,0≤x)∧s=(p.take k).sum∧s≤1125899906842624∧0≤s) (λn k s hk=>by
  simp only[FM];rw[E7 hk];rfl) (λn k s hi hk=>by
  obtain⟨i1,i2,i3,i4⟩:=hi
  simp only[FM]
  rw[E6 hk,cond_true,BQ hk,Option.bind_some,GF (n:=1125899906842624-s) (by omega) (by omega)]
  cases hb:(decide (p[k]<0)||decide (1125899906842624-s<p[k]))
  ·simp only[Bool.or_eq_false_iff,decide_eq_false_iff_not] at hb
   rw[cond_false,BH (by omega),GF (n:=s+p[k]) (by omega) (by omega)]
   exact .inr ⟨_,⟨JP hk i1 (by omega),by rw[M4 hk,i2],by omega,by omega⟩,rfl⟩
  ·exact .inl rfl) N 0 0 ⟨by simp,rfl,by decide,by decide⟩ (by omega) (Nat.zero_le _) with e|⟨s,⟨i1,i2,i3,_⟩,e⟩
 ·exact⟨false,e,λh=>by cases h⟩
 ·rw[List.take_length] at i1 i2
  exact⟨true,e,λ_=>⟨i1,by omega⟩⟩
end Go.Proofs.YtblcgjadhemlbaaGreat
