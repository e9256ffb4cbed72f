import Derived.Test.YtibidnaedddfdaaGreatBPureDiv2
import Derived.Test.YtibidnaedddfdaaGreatBPureBase
namespace Go.Proofs.YtibidnaedddfdaaGreat
open Go.RowKit
set_option linter.unusedVariables false
set_option linter.unusedSimpArgs false
theorem Qg {t t' n d s:Int}(hd:0<d) (hn:n*1099511627776≤s*d) (ht:t≤t'):(t'*n/d-t*n/d-1)*1099511627776≤s*(t'-t):=by
 have h1:=Int.ediv_mul_le (t'*n) (b:=d) (by omega)
 have h2:=Int.lt_ediv_add_one_mul_self (t*n) hd
 have h3:(t'-t)*(n*1099511627776)≤(t'-t)*(s*d):=Int.mul_le_mul_of_nonneg_left hn (by omega)
 refine Int.le_of_mul_le_mul_right (a:=d) ?_ hd
 generalize t'*n/d=q' at*
 generalize t*n/d=q at*
 grind
theorem Ye {t n d s:Int}(hd:0<d) (hn:n*1099511627776≤s*d) (ht:0≤t):t*n/d*1099511627776≤s*t:=by
 have h1:=Int.ediv_mul_le (t*n) (b:=d) (by omega)
 have h3:t*(n*1099511627776)≤t*(s*d):=Int.mul_le_mul_of_nonneg_left hn ht
 refine Int.le_of_mul_le_mul_right (a:=d) ?_ hd
 generalize t*n/d=q at*
 grind
theorem Lq {t t' n d:Int}(hd:0≤d) (hn:0≤n) (ht:t≤t'):t*n/d≤t'*n/d:=by
 rcases Int.lt_or_eq_of_le hd with h|h
 ·exact Int.ediv_le_ediv h (Int.mul_le_mul_of_nonneg_right ht hn)
 ·rw[←h];simp
theorem LA {t n d:Int}(hd:0≤d) (hn:0≤n) (ht:0≤t):0≤t*n/d:=Int.ediv_nonneg (Int.mul_nonneg ht hn) hd
theorem LB {t n d:Int}(hd:0≤d) (h:n≤d) (ht:0≤t):t*n/d≤t:=by
 rcases Int.lt_or_eq_of_le hd with h0|h0
 ·refine Int.ediv_le_of_le_mul h0 (Int.mul_le_mul_of_nonneg_left h ht)
 ·rw[←h0];simp [ht]
def GN (c:List AX):List AX:=(⟨-1,(c.headD ⟨0,0⟩).Y⟩:AX)::(c++[(⟨2251799813685248,(c.getLastD ⟨0,0⟩).Y⟩:AX)])
def WL (e:List AX):Prop:=∀k l r,e[k]? =some l→e[k+1]? =some r→l.X<r.X∧l.Y≤r.Y
theorem NY (c:List AX):(GN c)[0]? =some ⟨-1,(c.headD ⟨0,0⟩).Y⟩:=rfl
theorem KX (c:List AX) {k:Nat}(h:k<c.length):(GN c)[k+1]? =c[k]? :=by
 simp [GN,List.getElem?_append,h]
theorem OH (c:List AX):(GN c)[c.length+1]? =some ⟨2251799813685248,(c.getLastD ⟨0,0⟩).Y⟩:=by
 simp [GN]
theorem Kk {c:List AX}{p:AX}(h:c[0]? =some p):c.headD ⟨0,0⟩=p:=by
 cases c with
 |nil=>cases h
 |cons a l=>simpa using h
theorem Kj {c:List AX}{p:AX}(h:c[c.length-1]? =some p):c.getLastD ⟨0,0⟩=p:=by
 rw[List.getLastD_eq_getLast?,List.getLast?_eq_getElem?,h];rfl
theorem Bo.vol {c:List AX}(h:Bo c) {k:Nat}{p:AX}(hp:c[k]? =some p):E2 p.X∧E2 p.Y:=⟨(h.2.2 k p hp).1,(h.2.2 k p hp).2.1⟩
theorem Bo.step {c:List AX}(h:Bo c) {k:Nat}{p q:AX}(hp:c[k]? =some p) (hq:c[k+1]? =some q):p.X<q.X∧p.Y≤q.Y:=(h.2.2 (k+1) q hq).2.2 p (by omega) hp
theorem IG {c:List AX}(h:Bo c):WL (GN c):=by
 intro k l r hl hr
 have hlen:(GN c).length=c.length+2:=by simp [GN]
 have hk:=(List.getElem?_eq_some_iff.1 hr).1
 have h1:=h.1
 rw[hlen] at hk
 cases k with
 |zero=>
  rw[NY] at hl
  rw[KX c (by omega)] at hr
  have hv:=h.vol hr
  have he:=Kk hr
  cases hl
  rw[he]
  exact⟨by have:=hv.1.1;show(-1:Int)<_;omega,Int.le_refl _⟩
 |succ k=>
  rw[KX c (by omega)] at hl
  by_cases hk2:k+1<c.length
  ·rw[KX c hk2] at hr
   exact h.step hl hr
  ·have e:k+1=c.length:=by omega
   rw[show k+1+1=c.length+1 by omega,OH] at hr
   have he:=Kj (c:=c) (p:=l) (by rw[←hl];congr 1;omega)
   cases hr
   rw[he]
   exact⟨by have:=(h.vol hl).1.2;show _<(2251799813685248:Int);omega,Int.le_refl _⟩
theorem WL.mono {e:List AX}(h:WL e) {i:Nat}:∀{j:Nat}{a b:AX},i≤j→e[i]? =some a→e[j]? =some b→a.X≤b.X∧a.Y≤b.Y∧(i<j→a.X<b.X)
 |j,a,b,hij,ha,hb=>by
  rcases Nat.lt_or_ge i j with hlt|hge
  ·obtain⟨j,rfl⟩:∃m,j=m+1:=⟨j-1,by omega⟩
   have hj:=(List.getElem?_eq_some_iff.1 hb).1
   obtain⟨c,hc⟩:∃c,e[j]? =some c:=⟨e[j],by simp [show j<e.length by omega]⟩
   have h1:=WL.mono h (j:=j) (by omega) ha hc
   have h2:=h j c b hc hb
   exact⟨by omega,by omega,λ_=>by omega⟩
  ·have:i=j:=by omega
   subst this
   rw[ha] at hb
   cases hb
   exact⟨Int.le_refl _,Int.le_refl _,λh=>by omega⟩
structure PJ (e:List AX) (x:Int) (k:Nat) (l r:AX):Prop where
 l_:e[k]? =some l
 r_:e[k+1]? =some r
 lo:l.X≤x
 hi:x<r.X
structure Ut (e:List AX) (x:Int) (k:Nat) (l r:AX):Prop where
 l_:e[k]? =some l
 r_:e[k+1]? =some r
 lo:l.X≤x
 hi:x≤r.X
def E3 (l r:AX) (x:Int):Int:=l.Y+(x-l.X)*(r.Y-l.Y)/(r.X-l.X)
def Mn (l r:AX) (x:Int):Int:=(x-l.X)*(r.Y-l.Y)%(r.X-l.X)
theorem QI {e:List AX}(h:WL e) {x:Int}{k k':Nat}{l r l' r':AX}(a:Ut e x k l r) (b:PJ e x k' l' r'):(k=k'∧l=l'∧r=r')∨(k'=k+1∧l'=r∧x=r.X):=by
 rcases Nat.lt_trichotomy k k' with hlt|heq|hgt
 ·have h1:=h.mono (show k+1≤k' by omega) a.r_ b.l_
  have h2:=a.hi
  have h3:=b.lo
  by_cases e1:k'=k+1
  ·subst e1
   have:=a.r_.symm.trans b.l_
   cases this
   exact .inr ⟨rfl,rfl,by omega⟩
  ·have:=h1.2.2 (by omega);omega
 ·subst heq
  have e1:=a.l_.symm.trans b.l_
  have e2:=a.r_.symm.trans b.r_
  cases e1;cases e2
  exact .inl ⟨rfl,rfl,rfl⟩
 ·have h1:=h.mono (show k'+1≤k by omega) b.r_ a.l_
  have h2:=a.lo
  have h3:=b.hi
  omega
theorem PJ.bounds {e:List AX}(h:WL e) {x:Int}{k:Nat}{l r:AX}(a:PJ e x k l r):l.Y≤E3 l r x∧E3 l r x≤r.Y:=by
 have h1:=h k l r a.l_ a.r_
 have h2:=a.lo
 have h3:=a.hi
 have h4:=LA (t:=x-l.X) (n:=r.Y-l.Y) (d:=r.X-l.X) (by omega) (by omega) (by omega)
 have h5:(x-l.X)*(r.Y-l.Y)/(r.X-l.X)≤r.Y-l.Y:=by
  refine Int.ediv_le_of_le_mul (by omega) ?_
  rw[Int.mul_comm]
  exact Int.mul_le_mul_of_nonneg_left (by omega) (by omega)
 unfold E3
 omega
theorem PJ.mono {e:List AX}(h:WL e) {x x':Int}{k k':Nat}{l r l' r':AX}(a:PJ e x k l r) (b:PJ e x' k' l' r') (hx:x≤x'):E3 l r x≤E3 l' r' x':=by
 rcases Nat.lt_trichotomy k k' with hlt|heq|hgt
 ·have h1:=h.mono (show k+1≤k' by omega) a.r_ b.l_
  have h2:=(a.bounds h).2
  have h3:=(b.bounds h).1
  omega
 ·subst heq
  have e1:=a.l_.symm.trans b.l_
  have e2:=a.r_.symm.trans b.r_
  cases e1;cases e2
  have h1:=h k l r a.l_ a.r_
  have:=Lq (t:=x-l.X) (t':=x'-l.X) (n:=r.Y-l.Y) (d:=r.X-l.X) (by omega) (by omega) (by omega)
  unfold E3
  omega
 ·have h1:=h.mono (show k'+1≤k by omega) b.r_ a.l_
  have h2:=a.lo
  have h3:=b.hi
  omega
def Xk (e:List AX) (s:Int):Prop:=∀k l r,e[k]? =some l→e[k+1]? =some r→(r.Y-l.Y)*1099511627776≤s*(r.X-l.X)
theorem Xk.mono {e:List AX}{s:Int}(h:Xk e s) {i:Nat}:∀{j:Nat}{a b:AX},i≤j→e[i]? =some a→e[j]? =some b→(b.Y-a.Y)*1099511627776≤s*(b.X-a.X)
 |j,a,b,hij,ha,hb=>by
  rcases Nat.lt_or_ge i j with hlt|hge
  ·obtain⟨j,rfl⟩:∃m,j=m+1:=⟨j-1,by omega⟩
   have hj:=(List.getElem?_eq_some_iff.1 hb).1
   obtain⟨c,hc⟩:∃c,e[j]? =some c:=⟨e[j],by simp [show j<e.length by omega]⟩
   have h1:=Xk.mono h (j:=j) (by omega) ha hc
   have h2:=h j c b hc hb
   grind
  ·have:i=j:=by omega
   subst this
   rw[ha] at hb
   cases hb
   grind
theorem PJ.lip {e:List AX}(h:WL e) {s:Int}(hs:Xk e s) {x x':Int}{k k':Nat}{l r l' r':AX}(a:PJ e x k l r) (b:PJ e x' k' l' r') (hx:x≤x'):(E3 l' r' x'-E3 l r x-1)*1099511627776≤s*(x'-x):=by
 have ha:=h k l r a.l_ a.r_
 have hb:=h k' l' r' b.l_ b.r_
 have sa:=hs k l r a.l_ a.r_
 have sb:=hs k' l' r' b.l_ b.r_
 have a1:=a.lo
 have a2:=a.hi
 have b1:=b.lo
 have b2:=b.hi
 rcases Nat.lt_trichotomy k k' with hlt|heq|hgt
 ·have h1:=hs.mono (show k+1≤k' by omega) a.r_ b.l_
  have h2:=Qg (t:=x-l.X) (t':=r.X-l.X) (show 0<r.X-l.X by omega) sa (by omega)
  have h3:=Ye (t:=x'-l'.X) (show 0<r'.X-l'.X by omega) sb (by omega)
  have h4:(r.X-l.X)*(r.Y-l.Y)/(r.X-l.X)=r.Y-l.Y:=Int.mul_ediv_cancel_left _ (by omega)
  rw[h4] at h2
  unfold E3
  generalize (x-l.X)*(r.Y-l.Y)/(r.X-l.X)=q at*
  generalize (x'-l'.X)*(r'.Y-l'.Y)/(r'.X-l'.X)=q' at*
  grind
 ·subst heq
  have e1:=a.l_.symm.trans b.l_
  have e2:=a.r_.symm.trans b.r_
  cases e1;cases e2
  have h2:=Qg (t:=x-l.X) (t':=x'-l.X) (show 0<r.X-l.X by omega) sa (by omega)
  unfold E3
  generalize (x-l.X)*(r.Y-l.Y)/(r.X-l.X)=q at*
  generalize (x'-l.X)*(r.Y-l.Y)/(r.X-l.X)=q' at*
  grind
 ·have h1:=h.mono (show k'+1≤k by omega) b.r_ a.l_
  omega
theorem TS {a n d:Int}(h1:0≤a∧a≤1125899906842624) (h2:0≤n∧n≤1125899906842624) (h3:1≤d∧d≤1125899906842624) (h4:a*n/d≤1125899906842624):VG a n d=(a*n/d,a*n%d,true):=by
 unfold VG
 rw[if_pos ⟨h1,h2,h3,h4⟩]
theorem Ga {N:Nat}(hN:18446744073709551616<N) {c:List AX}(h:Bo c) {x:Int}(hx:0≤x∧x≤1125899906842624):∃k l r,PJ (GN c) x k l r∧Cv N c x=some (E3 l r x,decide (0<Mn l r x)):=by
 have h1:=h.1
 have h2:=h.2.1
 unfold Cv
 obtain⟨r,e1,e2,e3,e4⟩:=N4 (N:=N) (λy=>DN N c x y) c.length (by omega) (by omega) λi hi=>by
  unfold DN
  rw[Aw hi];exact Df.mk _
 have hf:∀i (hi:i<c.length),DN N c x (i:Int)=some (decide (x<(c[i]).X)):=λi hi=>by
  unfold DN
  rw[Aw hi];rfl
 rw[e1,Option.bind_some]
 by_cases hr0:r=0
 ·subst hr0
  have h0:c[0]? =some c[0]:=by simp
  have e5:=e4 (by omega)
  rw[hf 0 (by omega)] at e5
  have e6:=of_decide_eq_true (Option.some.inj e5)
  refine⟨0,_,_,⟨NY c,(KX c (by omega)).trans h0,by show(-1:Int)≤x;omega,e6⟩,?_⟩
  rw[show decide (((0:Nat):Int)=0)=true by simp,cond_true,show ix c 0=some c[0] from Aw (i:=0) (by omega),Option.bind_some]
  have e7:=Kk h0
  rw[e7]
  simp [E3,Mn]
 ·have hlr:c[r-1]? =some c[r-1]:=by simp
  have e5:=e3 (by omega)
  rw[hf (r-1) (by omega)] at e5
  have e6:=of_decide_eq_false (Option.some.inj e5)
  have v1:=h.vol hlr
  have w1:A3 ((r:Int)-1)=((r-1:Nat):Int):=by rw[B9 (by omega) (by omega)];omega
  rw[show decide ((r:Int)=0)=false by simp;omega,cond_false,w1,Aw (show r-1<c.length by omega),Option.bind_some]
  by_cases hrl:r=c.length
  ·subst hrl
   rw[show decide ((c.length:Int)=(c.length:Int))=true by simp,cond_true]
   have e7:=Kj hlr
   have g1:(GN c)[c.length-1+1]? =some c[c.length-1]:=(KX c (by omega)).trans hlr
   rw[show c.length-1+1=c.length by omega] at g1
   refine⟨c.length,_,_,⟨g1,OH c,by omega,by show x<(2251799813685248:Int);omega⟩,?_⟩
   rw[e7]
   simp [E3,Mn]
  ·have hr:r<c.length:=by omega
   have hrr:c[r]? =some c[r]:=by simp [hr]
   have e8:=e4 hr
   rw[hf r hr] at e8
   have e9:=of_decide_eq_true (Option.some.inj e8)
   have v2:=h.vol hrr
   have st:=h.step hlr (q:=c[r]) (by rw[show r-1+1=r by omega];exact hrr)
   have g1:(GN c)[r-1+1]? =some c[r-1]:=(KX c (by omega)).trans hlr
   rw[show r-1+1=r by omega] at g1
   refine⟨r,_,_,⟨g1,(KX c hr).trans hrr,by omega,e9⟩,?_⟩
   rw[show decide ((r:Int)=(c.length:Int))=false by simp;omega,cond_false,Aw hr]
   simp only[Option.bind_some]
   unfold E2 at v1 v2
   generalize c[r-1]=p at*
   generalize c[r]=q at*
   rw[B9 (n:=x-p.X) (by omega) (by omega),B9 (n:=q.Y-p.Y) (by omega) (by omega),B9 (n:=q.X-p.X) (by omega) (by omega),LZ hN]
   have b1:(x-p.X)*(q.Y-p.Y)/(q.X-p.X)≤q.Y-p.Y:=by
    refine Int.ediv_le_of_le_mul (by omega) ?_
    rw[Int.mul_comm]
    exact Int.mul_le_mul_of_nonneg_left (by omega) (by omega)
   have b0:=LA (t:=x-p.X) (n:=q.Y-p.Y) (d:=q.X-p.X) (by omega) (by omega) (by omega)
   rw[TS (by omega) (by omega) (by omega) (by omega),Option.bind_some]
   unfold E3 Mn
   rw[B9 (by omega) (by omega)]
theorem Hf {N:Nat}(hN:33<N) {c:List AX}(h:Bo c):Cy N c=some true:=by
 unfold Cy
 have h1:=h.1
 have h2:=h.2.1
 rw[show (decide ((c.length:Int)<1)||decide (32<(c.length:Int)))=false by simp;omega,cond_false]
 exact Oh c.length (Cx N c (EE N)) (EE N) (λn k hk=>by
  simp only[Cx];rw[EK hk];rfl) (λn k hk=>by
  have hp:c[k]? =some c[k]:=by simp [hk]
  have v:=h.vol hp
  unfold E2 at v
  simp only[Cx]
  rw[EJ hk,cond_true,Aw hk,Option.bind_some,show(((decide ((c[k]).X<0)||decide (1125899906842624<(c[k]).X))||decide ((c[k]).Y<0))||decide (1125899906842624<(c[k]).Y))=false by simp only[Bool.or_eq_false_iff,decide_eq_false_iff_not];omega,cond_false,Au (by omega)]
  by_cases h0:k=0
  ·subst h0
   rfl
  ·have hq:c[k-1]? =some c[k-1]:=by simp
   have st:=h.step hq (q:=c[k]) (by rw[show k-1+1=k by omega];exact hp)
   have w1:A3 ((k:Int)-1)=((k-1:Nat):Int):=by rw[B9 (by omega) (by omega)];omega
   rw[show decide ((0:Int)<(k:Int))=true by simp;omega,cond_true,w1,Aw (show k-1<c.length by omega)]
   simp only[Option.bind_some]
   rw[show decide ((c[k]).X≤(c[k-1]).X)=false by simp only[decide_eq_false_iff_not];omega,show decide ((c[k]).Y<(c[k-1]).Y)=false by simp only[decide_eq_false_iff_not];omega]
   rfl) N 0 (by omega) (Nat.zero_le _)
theorem MS {N:Nat}(hN:18446744073709551616<N) {c:List AX}(h:Bo c) {x:Int}(hx:0≤x∧x≤1125899906842624):∃k l r,PJ (GN c) x k l r∧IU N c x=some (E3 l r x):=by
 obtain⟨k,l,r,h1,h2⟩:=Ga hN h hx
 refine⟨k,l,r,h1,?_⟩
 unfold IU
 rw[Hf (by omega) h]
 simp only[Option.bind_some,Bool.not_true,cond_false,h2]
theorem Ri {c:List AX}(h:Bo c):∀{k:Nat}{p:AX},(GN c)[k]? =some p→E2 p.Y:=by
 intro k p hp
 have h1:=h.1
 have hlen:(GN c).length=c.length+2:=by simp [GN]
 have hk:=(List.getElem?_eq_some_iff.1 hp).1
 rw[hlen] at hk
 have hg:∀i (hi:i<c.length),E2 (c[i]).Y:=λi hi=>(h.vol (k:=i) (by simp [hi])).2
 cases k with
 |zero=>
  rw[NY] at hp
  cases hp
  rw[Kk (p:=c[0]) (by simp)]
  exact hg 0 (by omega)
 |succ k=>
  by_cases hk2:k<c.length
  ·rw[KX c hk2] at hp
   exact(h.vol hp).2
  ·rw[show k+1=c.length+1 by omega,OH] at hp
   cases hp
   rw[Kj (p:=c[c.length-1]) (by simp)]
   exact hg _ (by omega)
theorem LR {c:List AX}(h:Bo c) {x:Int}{k:Nat}{l r:AX}(s:PJ (GN c) x k l r):E2 (E3 l r x):=by
 have h1:=s.bounds (IG h)
 have h2:=Ri h s.l_
 have h3:=Ri h s.r_
 unfold E2 at*
 omega
theorem R7 {N:Nat}(hN:18446744073709551616<N) {a b:List AX}(ha:Bo a) (hb:Bo b) (h:Cw N a b=some true):
  (∀(i:Nat) p,a[i]? =some p→∃v,Cv N b p.X=some v∧p.Y≤v.1)∧(∀(i:Nat) p,b[i]? =some p→∃v,Cv N a p.X=some v∧v.1≤p.Y∧(v.1=p.Y→v.2=false)):=by
 have a2:=ha.2.1
 have b2:=hb.2.1
 unfold Cw at h
 rw[Hf (by omega) ha,Hf (by omega) hb] at h
 simp only[Option.bind_some,Bool.not_true,cond_false] at h
 rcases Ey a.length (Bz N a b (Bn N a b)) (Bn N a b) (λi=>∀p,a[i]? =some p→∃v,Cv N b p.X=some v∧p.Y≤v.1) (λn k hk=>by
  simp only[Bz];rw[EK hk];rfl) (λn k hk=>by
  simp only[Bz]
  have hp:a[k]? =some a[k]:=by simp [hk]
  obtain⟨_,_,_,_,e⟩:=Ga hN hb (ha.vol hp).1
  rw[EJ hk,cond_true,Aw hk,Option.bind_some,e,Option.bind_some,Au (by omega)]
  cases hc:decide (E3 _ _ _<(a[k]).Y)
  ·refine .inr ⟨λp hp2=>?_,rfl⟩
   cases hp.symm.trans hp2
   exact⟨_,e,by simpa using hc⟩
  ·exact .inl rfl) N 0 (by omega) (Nat.zero_le _) with h1|⟨h1,h2⟩
 ·rw[show Bz N a b (Bn N a b) N 0=some false from h1] at h;cases h
 ·rw[show Bz N a b (Bn N a b) N 0=Bn N a b from h2] at h
  unfold Bn at h
  rcases Ey b.length (CG N a b (DU N)) (DU N) (λi=>∀p,b[i]? =some p→∃v,Cv N a p.X=some v∧v.1≤p.Y∧(v.1=p.Y→v.2=false)) (λn k hk=>by
   simp only[CG];rw[EK hk];rfl) (λn k hk=>by
   simp only[CG]
   have hp:b[k]? =some b[k]:=by simp [hk]
   obtain⟨_,_,_,_,e⟩:=Ga hN ha (hb.vol hp).1
   rw[EJ hk,cond_true,Aw hk,Option.bind_some,e,Option.bind_some,Au (by omega)]
   generalize E3 _ _ _=q at*
   generalize decide (0<Mn _ _ _)=m at*
   cases hc:(decide ((b[k]).Y<q)||(decide (q=(b[k]).Y)&&m))
   ·refine .inr ⟨λp hp2=>?_,rfl⟩
    cases hp.symm.trans hp2
    simp only[Bool.or_eq_false_iff,Bool.and_eq_false_iff,decide_eq_false_iff_not] at hc
    exact⟨_,e,by show q≤_;omega,λh=>hc.2.resolve_left λhn=>hn h⟩
   ·exact .inl rfl) N 0 (by omega) (Nat.zero_le _) with h3|⟨h3,h4⟩
  ·rw[show CG N a b (DU N) N 0=some false from h3] at h;cases h
  ·refine⟨λi p hp=>h1 i (Nat.zero_le _) (List.getElem?_eq_some_iff.1 hp).1 p hp,λi p hp=>h3 i (Nat.zero_le _) (List.getElem?_eq_some_iff.1 hp).1 p hp⟩
def FX (l r:AX) (x:Int):Int:=l.Y*(r.X-l.X)+(x-l.X)*(r.Y-l.Y)
theorem Kh {l r:AX}(h:l.X<r.X) (x:Int):E3 l r x*(r.X-l.X)+Mn l r x=FX l r x:=by
 have:=Int.ediv_mul_add_emod ((x-l.X)*(r.Y-l.Y)) (r.X-l.X)
 unfold E3 Mn FX
 grind
theorem Mw {l r:AX}(h:l.X<r.X) (x:Int):0≤Mn l r x∧Mn l r x<r.X-l.X:=⟨Int.emod_nonneg _ (by omega),Int.emod_lt_of_pos _ (by omega)⟩
def Sa (l r l' r':AX) (x:Int):Prop:=FX l r x*(r'.X-l'.X)≤FX l' r' x*(r.X-l.X)
theorem Sa.mid {l r l' r':AX}{x u v:Int}(h1:Sa l r l' r' u) (h2:Sa l r l' r' v) (hu:u≤x) (hv:x≤v) (huv:u<v):Sa l r l' r' x:=by
 unfold Sa FX at*
 have a1:=Int.mul_le_mul_of_nonneg_right h1 (show 0≤v-x by omega)
 have a2:=Int.mul_le_mul_of_nonneg_right h2 (show 0≤x-u by omega)
 refine Int.le_of_mul_le_mul_right (a:=v-u) ?_ (by omega)
 grind
theorem Sa.val {l r l' r':AX}{x:Int}(h:Sa l r l' r' x) (hl:l.X<r.X) (hl':l'.X<r'.X):E3 l r x≤E3 l' r' x:=by
 have e1:=Kh hl x
 have e2:=Kh hl' x
 have m1:=Mw hl x
 have m2:=Mw hl' x
 unfold Sa at h
 rw[←e1,←e2] at h
 refine Int.not_lt.1 λhc=>?_
 generalize E3 l r x=a at*
 generalize E3 l' r' x=b at*
 generalize Mn l r x=m at*
 generalize Mn l' r' x=m' at*
 have d1:0<r.X-l.X:=by omega
 have d2:0<r'.X-l'.X:=by omega
 generalize r.X-l.X=d at*
 generalize r'.X-l'.X=d' at*
 have q1:(b+1)*(d*d')≤a*(d*d'):=Int.mul_le_mul_of_nonneg_right (by omega) (Int.mul_nonneg (by omega) (by omega))
 have q2:0≤m*d':=Int.mul_nonneg m1.1 (by omega)
 have q3:m'*d<d'*d:=Int.mul_lt_mul_of_pos_right m2.2 d1
 grind
theorem Kt {c:List AX}{i:Nat}{p:AX}(hp:(GN c)[i]? =some p):(i=0∧p=⟨-1,(c.headD ⟨0,0⟩).Y⟩)∨(∃m,i=m+1∧c[m]? =some p)∨(i=c.length+1∧p=⟨2251799813685248,(c.getLastD ⟨0,0⟩).Y⟩):=by
 have hlen:(GN c).length=c.length+2:=by simp [GN]
 have hk:=(List.getElem?_eq_some_iff.1 hp).1
 rw[hlen] at hk
 cases i with
 |zero=>rw[NY] at hp;cases hp;exact .inl ⟨rfl,rfl⟩
 |succ m=>
  by_cases h:m<c.length
  ·rw[KX c h] at hp
   exact .inr (.inl ⟨m,rfl,hp⟩)
  ·have:m=c.length:=by omega
   subst this
   rw[OH] at hp
   cases hp
   exact .inr (.inr ⟨rfl,rfl⟩)
theorem RQ (l r:AX):FX l r l.X=l.Y*(r.X-l.X):=by unfold FX;grind
theorem Mz (l r:AX):FX l r r.X=r.Y*(r.X-l.X):=by unfold FX;grind
theorem Sh (l r:AX):E3 l r l.X=l.Y:=by unfold E3;simp
theorem NG {b:List AX}(hb:Bo b) {j:Nat}{u v:AX}(t:Ut (GN b) (-1) j u v):u=⟨-1,(b.headD ⟨0,0⟩).Y⟩:=by
 rcases Nat.eq_zero_or_pos j with e|e
 ·subst e
  have:=t.l_
  rw[NY] at this
  exact(Option.some.inj this).symm
 ·have h:=((IG hb).mono (Nat.zero_le j) (NY b) t.l_).2.2 e
  have:=t.lo
  have h:(-1:Int)<u.X:=h
  omega
theorem Pc {b:List AX}(hb:Bo b) {j:Nat}{u v:AX}(t:Ut (GN b) 2251799813685248 j u v):v=⟨2251799813685248,(b.getLastD ⟨0,0⟩).Y⟩:=by
 rcases Kt t.r_ with ⟨h,_⟩|⟨m,h1,h2⟩|⟨_,h⟩
 ·omega
 ·have:=(hb.vol h2).1.2
  have:=t.hi
  omega
 ·exact h
theorem Ps {b:List AX}(hb:Bo b) {j:Nat}{p:AX}(h:(GN b)[j]? =some p):(b.headD ⟨0,0⟩).Y≤p.Y:=((IG hb).mono (Nat.zero_le j) (NY b) h).2.1
theorem RT {b:List AX}(hb:Bo b) {j:Nat}{p:AX}(h:(GN b)[j]? =some p):p.Y≤(b.getLastD ⟨0,0⟩).Y:=by
 have hlen:(GN b).length=b.length+2:=by simp [GN]
 have hk:=(List.getElem?_eq_some_iff.1 h).1
 exact((IG hb).mono (show j≤b.length+1 by omega) h (OH b)).2.1
theorem LT {N:Nat}(hN:18446744073709551616<N) {a b:List AX}(ha:Bo a) (hb:Bo b) (h:Cw N a b=some true) {x:Int}{k k':Nat}{l r l' r':AX}(s:PJ (GN a) x k l r) (t:PJ (GN b) x k' l' r'):E3 l r x≤E3 l' r' x:=by
 obtain⟨ua,ub⟩:=R7 hN ha hb h
 have ia:=IG ha
 have ib:=IG hb
 have a1:=ha.1
 have b1:=hb.1
 have ca:∀(i:Nat) p,(GN a)[i]? =some p→∀j u v,Ut (GN b) p.X j u v→p.Y*(v.X-u.X)≤FX u v p.X:=by
  intro i p hp j u v hs
  have huv:=(ib j u v hs.l_ hs.r_).1
  have hd:0≤v.X-u.X:=by omega
  rcases Kt hp with ⟨_,rfl⟩|⟨m,_,hm⟩|⟨_,rfl⟩
  ·have hu:=NG hb hs
   have e:FX u v (-1)=u.Y*(v.X-u.X):=by
    have:=RQ u v
    rw[hu] at this ⊢
    exact this
   show _≤FX u v (-1)
   rw[e]
   refine Int.mul_le_mul_of_nonneg_right ?_ hd
   have hb0:b[0]? =some b[0]:=by simp
   obtain⟨w,w1,w2,_⟩:=ub 0 _ hb0
   obtain⟨k2,l2,r2,q1,q2⟩:=Ga hN ha (hb.vol hb0).1
   rw[q2] at w1
   cases w1
   have w2:E3 l2 r2 (b[0]).X≤(b[0]).Y:=w2
   have:=(q1.bounds ia).1
   have:=Ps ha q1.l_
   have hh:=Kk hb0
   rw[hu,hh]
   show(a.headD ⟨0,0⟩).Y≤(b[0]).Y
   omega
  ·obtain⟨w,w1,w2⟩:=ua m p hm
   obtain⟨k2,l2,r2,q1,q2⟩:=Ga hN hb (ha.vol hm).1
   rw[q2] at w1
   cases w1
   have w2:p.Y≤E3 l2 r2 p.X:=w2
   rcases QI ib hs q1 with ⟨_,rfl,rfl⟩|⟨_,rfl,e⟩
   ·have h1:=Kh huv p.X
    have h2:=(Mw huv p.X).1
    have h3:=Int.mul_le_mul_of_nonneg_right w2 hd
    omega
   ·rw[e,Sh] at w2
    rw[e,Mz]
    exact Int.mul_le_mul_of_nonneg_right w2 hd
  ·have hv:=Pc hb hs
   have e:FX u v 2251799813685248=v.Y*(v.X-u.X):=by
    have:=Mz u v
    rw[hv] at this ⊢
    exact this
   show _≤FX u v 2251799813685248
   rw[e]
   refine Int.mul_le_mul_of_nonneg_right ?_ hd
   have hal:a[a.length-1]? =some a[a.length-1]:=by simp
   obtain⟨w,w1,w2⟩:=ua _ _ hal
   obtain⟨k2,l2,r2,q1,q2⟩:=Ga hN hb (ha.vol hal).1
   rw[q2] at w1
   cases w1
   have w2:(a[a.length-1]).Y≤E3 l2 r2 (a[a.length-1]).X:=w2
   have:=(q1.bounds ib).2
   have:=RT hb q1.r_
   have hh:=Kj hal
   rw[hv,hh]
   show(a[a.length-1]).Y≤(b.getLastD ⟨0,0⟩).Y
   omega
 have cb:∀(i:Nat) p,(GN b)[i]? =some p→∀j u v,Ut (GN a) p.X j u v→FX u v p.X≤p.Y*(v.X-u.X):=by
  intro i p hp j u v hs
  have huv:=(ia j u v hs.l_ hs.r_).1
  have hd:0≤v.X-u.X:=by omega
  rcases Kt hp with ⟨_,rfl⟩|⟨m,_,hm⟩|⟨_,rfl⟩
  ·have hu:=NG ha hs
   have e:FX u v (-1)=u.Y*(v.X-u.X):=by
    have:=RQ u v
    rw[hu] at this ⊢
    exact this
   show FX u v (-1)≤_
   rw[e]
   refine Int.mul_le_mul_of_nonneg_right ?_ hd
   have hb0:b[0]? =some b[0]:=by simp
   obtain⟨w,w1,w2,_⟩:=ub 0 _ hb0
   obtain⟨k2,l2,r2,q1,q2⟩:=Ga hN ha (hb.vol hb0).1
   rw[q2] at w1
   cases w1
   have w2:E3 l2 r2 (b[0]).X≤(b[0]).Y:=w2
   have:=(q1.bounds ia).1
   have:=Ps ha q1.l_
   have hh:=Kk hb0
   rw[hu,hh]
   show(a.headD ⟨0,0⟩).Y≤(b[0]).Y
   omega
  ·obtain⟨w,w1,w2,w3⟩:=ub m p hm
   obtain⟨k2,l2,r2,q1,q2⟩:=Ga hN ha (hb.vol hm).1
   rw[q2] at w1
   cases w1
   have w2:E3 l2 r2 p.X≤p.Y:=w2
   have w3:E3 l2 r2 p.X=p.Y→¬0<Mn l2 r2 p.X:=λh=>of_decide_eq_false (w3 h)
   rcases QI ia hs q1 with ⟨_,rfl,rfl⟩|⟨_,rfl,e⟩
   ·have h1:=Kh huv p.X
    have h2:=Mw huv p.X
    rcases Int.lt_or_eq_of_le w2 with h|h
    ·have h3:=Int.mul_le_mul_of_nonneg_right (show E3 u v p.X+1≤p.Y by omega) hd
     rw[Int.add_mul,Int.one_mul] at h3
     omega
    ·have h3:=w3 h
     rw[h] at h1
     omega
   ·rw[e,Sh] at w2
    rw[e,Mz]
    exact Int.mul_le_mul_of_nonneg_right w2 hd
  ·have hv:=Pc ha hs
   have e:FX u v 2251799813685248=v.Y*(v.X-u.X):=by
    have:=Mz u v
    rw[hv] at this ⊢
    exact this
   show FX u v 2251799813685248≤_
   rw[e]
   refine Int.mul_le_mul_of_nonneg_right ?_ hd
   have hal:a[a.length-1]? =some a[a.length-1]:=by simp
   obtain⟨w,w1,w2⟩:=ua _ _ hal
   obtain⟨k2,l2,r2,q1,q2⟩:=Ga hN hb (ha.vol hal).1
   rw[q2] at w1
   cases w1
   have w2:(a[a.length-1]).Y≤E3 l2 r2 (a[a.length-1]).X:=w2
   have:=(q1.bounds ib).2
   have:=RT hb q1.r_
   have hh:=Kj hal
   rw[hv,hh]
   show(a[a.length-1]).Y≤(b.getLastD ⟨0,0⟩).Y
   omega
 have hl:=(ia k l r s.l_ s.r_).1
 have hl':=(ib k' l' r' t.l_ t.r_).1
 have s1:=s.lo
 have s2:=s.hi
 have t1:=t.lo
 have t2:=t.hi
 have low:Sa l r l' r' (max l.X l'.X):=by
  unfold Sa
  rcases Int.le_total l.X l'.X with e|e
  ·rw[Int.max_eq_right e]
   have:=cb k' l' t.l_ k l r ⟨s.l_,s.r_,e,by omega⟩
   have e2:FX l' r' l'.X=l'.Y*(r'.X-l'.X):=by unfold FX;grind
   rw[e2]
   have:=Int.mul_le_mul_of_nonneg_right this (show 0≤r'.X-l'.X by omega)
   grind
  ·rw[Int.max_eq_left e]
   have:=ca k l s.l_ k' l' r' ⟨t.l_,t.r_,e,by omega⟩
   have e2:FX l r l.X=l.Y*(r.X-l.X):=by unfold FX;grind
   rw[e2]
   have:=Int.mul_le_mul_of_nonneg_right this (show 0≤r.X-l.X by omega)
   grind
 have high:Sa l r l' r' (min r.X r'.X):=by
  unfold Sa
  rcases Int.le_total r.X r'.X with e|e
  ·rw[Int.min_eq_left e]
   have:=ca (k+1) r s.r_ k' l' r' ⟨t.l_,t.r_,by omega,e⟩
   have e2:FX l r r.X=r.Y*(r.X-l.X):=by unfold FX;grind
   rw[e2]
   have:=Int.mul_le_mul_of_nonneg_right this (show 0≤r.X-l.X by omega)
   grind
  ·rw[Int.min_eq_right e]
   have:=cb (k'+1) r' t.r_ k l r ⟨s.l_,s.r_,by omega,e⟩
   have e2:FX l' r' r'.X=r'.Y*(r'.X-l'.X):=by unfold FX;grind
   rw[e2]
   have:=Int.mul_le_mul_of_nonneg_right this (show 0≤r'.X-l'.X by omega)
   grind
 exact(low.mid high (by omega) (by omega) (by omega)).val hl hl'
end Go.Proofs.YtibidnaedddfdaaGreat
