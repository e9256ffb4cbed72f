import Derived.Test.YtblcgjadhemlbaaGreatUPureRight2
import Derived.Test.YtblcgjadhemlbaaGreatUPureDiv2
namespace Go.Proofs.YtblcgjadhemlbaaGreat
open Go.RowKit
set_option linter.unusedVariables false
set_option linter.unusedSimpArgs false
theorem Wj (N:Nat) (n z:Int):D8 N n z=some (Wi n 0 (BC (z-1))):=rfl
structure Rx (b:AW) (t:Lx):Prop where
 place:0≤t.Place∧t.Place<b.Places.length
 flood:Ik t.Flood
 lead:0≤t.Lead∧t.Lead≤24
 watch:Ik t.Watch
 quorum:0≤t.Quorum∧t.Quorum≤128
theorem V0 {N:Nat}(hN:1000<N) (b:AW) (hb:G1 b):∃v,Gp N b=some v∧(v=true→∀t∈b.Towns,Rx b t):=by
 have q3:=hb.pl
 have q5:=hb.to
 have q8:=hb.sh
 have hj:Df (DF N b):=by
  unfold DF
  rcases IG b.Shelters.length (DD N b (Eb N)) (Eb N) (λ_=>True) (λn k h=>by
   simp only[DD];rw[Ey h];rfl) (λn k h=>by
   simp only[DD]
   rw[Ea h,cond_true,BA h]
   simp only[Option.bind_some,NB,BE (show k<4611686018427387904 by omega)]
   cases Wi (b.Shelters[k]).Room 0 1073741824
   ·exact .inl rfl
   ·exact .inr ⟨trivial,rfl⟩) N 0 (by omega) (Nat.zero_le _) with h|⟨_,h⟩
  ·exact⟨_,h⟩
  ·exact⟨true,h⟩
 unfold Gp
 rcases IG b.Towns.length (DE N b (DF N b)) (DF N b) (λi=>∀t,b.Towns[i]? =some t→Rx b t) (λn k h=>by
  simp only[DE];rw[Ey h];rfl) (λn k h=>by
  simp only[DE]
  rw[Ea h,cond_true,BA h]
  simp only[Option.bind_some,NB,LZ,Pk N _ (show b.Places.length<4611686018427387904 by omega),Fi,Km,BE (show k<4611686018427387904 by omega)]
  generalize hB:(_|| !Wi (b.Towns[k]).Quorum 0 128)=B
  cases B
  ·simp only[Bool.or_eq_false_iff,Bool.not_eq_false'] at hB
   obtain⟨⟨⟨⟨⟨h1,h2⟩,h3⟩,h4⟩,h5⟩,h6⟩:=hB
   refine .inr ⟨λt ht=>?_,rfl⟩
   have:t=b.Towns[k]:=by simpa [h] using ht.symm
   rw[this]
   have i1:=KI h1
   exact⟨⟨i1.1,by omega⟩,MC h2,KI h3,MC h5,KI h6⟩
  ·exact .inl rfl) N 0 (by omega) (Nat.zero_le _) with h|⟨hp,h⟩
 ·exact⟨false,h,λh=>by cases h⟩
 ·obtain⟨v,hv⟩:=hj
  refine⟨v,h.trans hv,λ_ t ht=>?_⟩
  obtain⟨i,hi,rfl⟩:=List.mem_iff_getElem.1 ht
  exact hp i (Nat.zero_le _) hi _ (by simp [hi])
theorem VS {N:Nat}(hN:1000<N) (b:AW) (hb:G1 b):Df (GS N b):=by
 have q6:=hb.ga
 unfold GS
 rcases IG b.Gauges.length (C7 N b (EL N)) (EL N) (λ_=>True) (λn k h=>by
  simp only[C7];rw[Ey h];rfl) (λn k h=>by
  simp only[C7]
  rw[Ea h,cond_true,BA h]
  simp only[Option.bind_some,NB,Wj,Fi,Km,BE (show k<4611686018427387904 by omega)]
  generalize hB:(_|| !Wi (b.Gauges[k]).Drift 0 1440)=B
  cases B
  ·simp only[Bool.or_eq_false_iff,Bool.not_eq_false'] at hB
   have i1:=KI hB.1.1
   obtain⟨z,hz⟩:=Df.ix (l:=[(b.Places.length:Int),b.Cells,(b.Links.length:Int)]) (i:=(b.Gauges[k]).Kind) i1.1 (by simp;omega)
   rw[hz]
   simp only[cond_false,Option.bind_some]
   cases Wi (b.Gauges[k]).Target 0 (BC (z-1))
   ·exact .inl rfl
   ·exact .inr ⟨trivial,rfl⟩
  ·exact .inl rfl) N 0 (by omega) (Nat.zero_le _) with h|⟨_,h⟩
 ·exact⟨_,h⟩
 ·exact⟨true,h⟩
theorem WN {N:Nat}(hN:1000<N) (b:AW) (hb:G1 b):Df (Gq N b):=by
 have q7:=hb.ro
 unfold Gq
 rcases IG b.Roads.length (DG N b (Ec N)) (Ec N) (λ_=>True) (λn k h=>by
  simp only[DG];rw[Ey h];rfl) (λn k h=>by
  simp only[DG]
  rw[Ea h,cond_true,BA h]
  simp only[Option.bind_some,NB,LZ,Wj,Fi,Km,Pw,BE (show k<4611686018427387904 by omega)]
  generalize (_|| !Q3 (b.Roads[k]).Limit)=B
  cases B
  ·simp only[cond_false]
   generalize ((decide ((b.Roads[k]).By= -1)&&decide ((b.Roads[k]).Limit≠0))||_)=B2
   cases B2
   ·exact .inr ⟨trivial,rfl⟩
   ·exact .inl rfl
  ·exact .inl rfl) N 0 (by omega) (Nat.zero_le _) with h|⟨_,h⟩
 ·exact⟨_,h⟩
 ·exact⟨true,h⟩
structure KQ (b:AW):Prop where
 head:G1 b
 places:∀p∈b.Places,IJ b p
 links:∀l∈b.Links,JP b l
 towns:∀t∈b.Towns,Rx b t
theorem chainB {b:Bool}{x:Option Bool}{f:Bool→Option Bool}(Q:Prop) {G:Option Bool→Prop}(h:b=true→∃v,x=some v∧(v=true→Q)) (k:∀c,(c=true→b=true∧Q)→G (f c)):G (Option.bind (cond b (Option.bind x λy=>some y) (some false)) f):=by
 cases b
 ·exact k false λh=>by cases h
 ·obtain⟨v,hv,hq⟩:=h rfl
  rw[hv]
  exact k v λhc=>⟨rfl,hq hc⟩
theorem Df.q {x:Option Bool}(h:Df x):∃v,x=some v∧(v=true→True):=by obtain⟨v,hv⟩:=h;exact⟨v,hv,λ_=>trivial⟩
theorem WO {N:Nat}(hN:18446744073709551616<N) (b:AW):∃v,ID N b=some v∧(v=true→KQ b):=by
 have hN2:1000<N:=by omega
 unfold ID
 obtain⟨v0,e0,p0⟩:=YM hN2 b
 rw[e0]
 simp only[Option.bind_some]
 refine chainB True (G:=λx=>∃v,x=some v∧(v=true→KQ b)) (λh=>(WW hN2 (p0 h)).q) λc1 h1=>?_
 refine chainB (∀p∈b.Places,IJ b p) (G:=λx=>∃v,x=some v∧(v=true→KQ b)) (λh=>VK hN2 b (p0 (h1 h).1)) λc2 h2=>?_
 have d2:c2=true→G1 b∧∀p∈b.Places,IJ b p:=λh=>⟨p0 (h1 (h2 h).1).1,(h2 h).2⟩
 refine chainB (∀l∈b.Links,JP b l) (G:=λx=>∃v,x=some v∧(v=true→KQ b)) (λh=>WY hN b (d2 h).1) λc3 h3=>?_
 have d3:c3=true→G1 b∧(∀p∈b.Places,IJ b p)∧∀l∈b.Links,JP b l:=λh=>⟨(d2 (h3 h).1).1,(d2 (h3 h).1).2,(h3 h).2⟩
 refine chainB True (G:=λx=>∃v,x=some v∧(v=true→KQ b)) (λh=>(Ti hN2 b (d3 h).1 (d3 h).2.1 (d3 h).2.2).q) λc4 h4=>?_
 refine chainB True (G:=λx=>∃v,x=some v∧(v=true→KQ b)) (λh=>(VC hN b (d3 (h4 h).1).1 (d3 (h4 h).1).2.1 (d3 (h4 h).1).2.2).q) λc5 h5=>?_
 refine chainB (∀t∈b.Towns,Rx b t) (G:=λx=>∃v,x=some v∧(v=true→KQ b)) (λh=>V0 hN2 b (d3 (h4 (h5 h).1).1).1) λc6 h6=>?_
 refine chainB True (G:=λx=>∃v,x=some v∧(v=true→KQ b)) (λh=>(VS hN2 b (d3 (h4 (h5 (h6 h).1).1).1).1).q) λc7 h7=>?_
 refine chainB True (G:=λx=>∃v,x=some v∧(v=true→KQ b)) (λh=>(WN hN2 b (d3 (h4 (h5 (h6 (h7 h).1).1).1).1).1).q) λc8 h8=>?_
 refine⟨c8,rfl,λh=>?_⟩
 have d:=d3 (h4 (h5 (h6 (h7 (h8 h).1).1).1).1).1
 exact⟨d.1,d.2.1,d.2.2,(h6 (h7 (h8 h).1).1).2⟩
end Go.Proofs.YtblcgjadhemlbaaGreat
namespace Go.Proofs.YtblcgjadhemlbaaGreat
open Go.RowKit
set_option linter.unusedVariables false
set_option linter.unusedSimpArgs false
theorem Da {σ β:Type}(L:Nat) (f:Nat→Int→σ→Option β) (kj:σ→Option β) (I:Nat→σ→Prop) (hstop:∀n (k:Nat) s,L≤k→f (n+1) (k:Int) s=kj s) (hstep:∀n (k:Nat) s,I k s→k<L→∃s',I (k+1) s'∧f (n+1) (k:Int) s=f n ((k+1:Nat):Int) s'):
  ∀n (k:Nat) s,I k s→L<n+k→k≤L→∃s',I L s'∧f n (k:Int) s=kj s'
 |0,k,s,_,h,hk=>by omega
 |n+1,k,s,hi,h,hk=>by
  rcases Nat.lt_or_ge k L with hl|hl
  ·obtain⟨s1,i1,h1⟩:=hstep n k s hi hl
   obtain⟨s2,i2,h2⟩:=Da L f kj I hstop hstep n (k+1) s1 i1 (by omega) (by omega)
   exact⟨s2,i2,h1.trans h2⟩
  ·have:k=L:=by omega
   subst this
   exact⟨s,hi,hstop n k s hl⟩
theorem Lh {σ β:Type}(L:Nat) (f:Nat→Int→σ→Option β) (kj:σ→Option β) (x0:Option β) (I:Nat→σ→Prop) (hstop:∀n (k:Nat) s,L≤k→f (n+1) (k:Int) s=kj s) (hstep:∀n (k:Nat) s,I k s→k<L→f (n+1) (k:Int) s=x0∨∃s',I (k+1) s'∧f (n+1) (k:Int) s=f n ((k+1:Nat):Int) s'):
  ∀n (k:Nat) s,I k s→L<n+k→k≤L→f n (k:Int) s=x0∨∃s',I L s'∧f n (k:Int) s=kj s'
 |0,k,s,_,h,hk=>by omega
 |n+1,k,s,hi,h,hk=>by
  rcases Nat.lt_or_ge k L with hl|hl
  ·rcases hstep n k s hi hl with h0|⟨s1,i1,h1⟩
   ·exact .inl h0
   ·rcases Lh L f kj x0 I hstop hstep n (k+1) s1 i1 (by omega) (by omega) with h2|⟨s2,i2,h2⟩
    ·exact .inl (h1.trans h2)
    ·exact .inr ⟨s2,i2,h1.trans h2⟩
  ·have:k=L:=by omega
   subst this
   exact .inr ⟨s,hi,hstop n k s hl⟩
theorem H2 {l:List Int}{k:Nat}(h:k<l.length):(l.take (k+1)).sum=(l.take k).sum+l[k]:=by
 rw[List.take_succ_eq_append_getElem h,List.sum_append];simp
theorem Hr:∀{l:List Int},(∀x∈l,0≤x)→0≤l.sum
 |[],_=>by simp
 |a::l,h=>by
  have h1:=h a (List.mem_cons_self ..)
  have h2:=Hr (l:=l) λx hx=>h x (List.mem_cons_of_mem _ hx)
  simp only[List.sum_cons];omega
theorem G9 {l:List Int}(h:∀x∈l,0≤x) (k:Nat):0≤(l.take k).sum∧(l.take k).sum≤l.sum:=by
 have h1:=Hr (l:=l.take k) λx hx=>h x (List.mem_of_mem_take hx)
 have h2:=Hr (l:=l.drop k) λx hx=>h x (List.mem_of_mem_drop hx)
 have h3:(l.take k).sum+(l.drop k).sum=l.sum:=by rw[←List.sum_append,List.take_append_drop]
 omega
theorem Rv (N:Nat) {a b:Int}(h1: -4611686018427387903≤a) (h2:a≤4611686018427387903) (h3: -4611686018427387903≤b) (h4:b≤4611686018427387903):Fe N a b=some (a+b):=by
 unfold Fe
 have e3:BC (a+b)=a+b:=DB (by omega) (by omega)
 by_cases hb:0<b
 ·have e1:BC (9223372036854775807-b)=9223372036854775807-b:=DB (by omega) (by omega)
  rw[e1,e3]
  have c1:decide (9223372036854775807-b<a)=false:=by simp;omega
  have c2:decide (b<0)=false:=by simp;omega
  rw[c1,c2];simp
 ·have c1:decide (0<b)=false:=by simp;omega
  rw[c1]
  by_cases hb2:b<0
  ·have e2:BC (-9223372036854775808-b)= -9223372036854775808-b:=DB (by omega) (by omega)
   have c2:decide (a< -9223372036854775808-b)=false:=by simp;omega
   rw[e2,e3,c2];simp
  ·have c2:decide (b<0)=false:=by simp;omega
   rw[c2,e3];simp
theorem Jj {α}{l:List α}{k:Nat}(h:k<l.length) {P:α→Prop}(h1:∀x∈l.take k,P x) (h2:P l[k]):∀x∈l.take (k+1),P x:=by
 intro x hx
 rw[List.take_succ_eq_append_getElem h,List.mem_append] at hx
 rcases hx with hx|hx
 ·exact h1 x hx
 ·simp only[List.mem_singleton] at hx;subst hx;exact h2
theorem LO {α}{f:α→Int}{l:List α}{k:Nat}(h:k<l.length):((l.take (k+1)).map f).sum=((l.take k).map f).sum+f l[k]:=by
 rw[List.take_succ_eq_append_getElem h,List.map_append,List.sum_append];simp
theorem O9 {α}{f:α→Int}{l:List α}(h:∀x∈l,0≤f x):0≤(l.map f).sum:=Hr λy hy=>by
 obtain⟨x,hx,rfl⟩:=List.mem_map.1 hy;exact h x hx
theorem Jc {n by_:Nat}(h:n*by_≤140737488355328) {α}(x:Option α):chk (KN n by_) x=x:=by
 unfold chk KN;rw[decide_eq_true h];rfl
theorem UT {β:Type}(L:Nat) (f:Nat→Int→Option β) (kj:Option β) (hstop:∀n (k:Nat),L≤k→f (n+1) (k:Int)=kj) (hstep:∀n (k:Nat),k<L→f (n+1) (k:Int)=f n ((k+1:Nat):Int)):
  ∀n (k:Nat),L<n+k→k≤L→f n (k:Int)=kj
 |0,k,h,hk=>by omega
 |n+1,k,h,hk=>by
  rcases Nat.lt_or_ge k L with hl|hl
  ·rw[hstep n k hl];exact UT L f kj hstop hstep n (k+1) (by omega) (by omega)
  ·exact hstop n k hl
end Go.Proofs.YtblcgjadhemlbaaGreat
namespace Go.Proofs.YtblcgjadhemlbaaGreat
open Go.RowKit
set_option linter.unusedVariables false
set_option linter.unusedSimpArgs false
theorem YS {t t' n d:Int}(hd:0≤d) (hn:0≤n) (ht:t≤t'):t*n/d≤t'*n/d:=by
 rcases Int.lt_or_eq_of_le hd with h|h
 ·exact Int.ediv_le_ediv h (Int.mul_le_mul_of_nonneg_right ht hn)
 ·rw[←h];simp
theorem Ss {t n d:Int}(hd:0≤d) (hn:0≤n) (ht:0≤t):0≤t*n/d:=Int.ediv_nonneg (Int.mul_nonneg ht hn) hd
theorem Wp {t n d:Int}(hd:0≤d) (h:n≤d) (ht:0≤t):t*n/d≤t:=by
 rcases Int.lt_or_eq_of_le hd with h0|h0
 ·refine Int.ediv_le_of_le_mul h0 (Int.mul_le_mul_of_nonneg_left h ht)
 ·rw[←h0];simp [ht]
def iM (e:List BO):Prop:=∀k l r,e[k]? =some l→e[k+1]? =some r→l.X<r.X∧l.Y≤r.Y
theorem Y6 {c:List BO}(h:H0 c) {k:Nat}{p q:BO}(hp:c[k]? =some p) (hq:c[k+1]? =some q):p.X<q.X∧p.Y≤q.Y:=(h.2.2 (k+1) q hq).2.2 p (by omega) hp
theorem iM.mono {e:List BO}(h:iM e) {i:Nat}:∀{j:Nat}{a b:BO},i≤j→e[i]? =some a→e[j]? =some b→a.X≤b.X∧a.Y≤b.Y∧(i<j→a.X<b.X)
 |j,a,b,hij,ha,hb=>by
  rcases Nat.lt_or_ge i j with hlt|hge
  ·obtain⟨j,rfl⟩:∃m,j=m+1:=⟨j-1,by omega⟩
   have hj:=(List.getElem?_eq_some_iff.1 hb).1
   obtain⟨c,hc⟩:∃c,e[j]? =some c:=⟨e[j],by simp [show j<e.length by omega]⟩
   have h1:=iM.mono h (j:=j) (by omega) ha hc
   have h2:=h j c b hc hb
   exact⟨by omega,by omega,λ_=>by omega⟩
  ·have:i=j:=by omega
   subst this
   rw[ha] at hb
   cases hb
   exact⟨Int.le_refl _,Int.le_refl _,λh=>by omega⟩
structure iE (e:List BO) (x:Int) (k:Nat) (l r:BO):Prop where
 l_:e[k]? =some l
 r_:e[k+1]? =some r
 lo:l.X≤x
 hi:x<r.X
def Ok (l r:BO) (x:Int):Int:=l.Y+(x-l.X)*(r.Y-l.Y)/(r.X-l.X)
def U9 (l r:BO) (x:Int):Int:=(x-l.X)*(r.Y-l.Y)%(r.X-l.X)
theorem iE.bounds {e:List BO}(h:iM e) {x:Int}{k:Nat}{l r:BO}(a:iE e x k l r):l.Y≤Ok l r x∧Ok l r x≤r.Y:=by
 have h1:=h k l r a.l_ a.r_
 have h2:=a.lo
 have h3:=a.hi
 have h4:=Ss (t:=x-l.X) (n:=r.Y-l.Y) (d:=r.X-l.X) (by omega) (by omega) (by omega)
 have h5:(x-l.X)*(r.Y-l.Y)/(r.X-l.X)≤r.Y-l.Y:=by
  refine Int.ediv_le_of_le_mul (by omega) ?_
  rw[Int.mul_comm]
  exact Int.mul_le_mul_of_nonneg_left (by omega) (by omega)
 unfold Ok
 omega
theorem iE.mono {e:List BO}(h:iM e) {x x':Int}{k k':Nat}{l r l' r':BO}(a:iE e x k l r) (b:iE e x' k' l' r') (hx:x≤x'):Ok l r x≤Ok l' r' x':=by
 rcases Nat.lt_trichotomy k k' with hlt|heq|hgt
 ·have h1:=h.mono (show k+1≤k' by omega) a.r_ b.l_
  have h2:=(a.bounds h).2
  have h3:=(b.bounds h).1
  omega
 ·subst heq
  have e1:=a.l_.symm.trans b.l_
  have e2:=a.r_.symm.trans b.r_
  cases e1;cases e2
  have h1:=h k l r a.l_ a.r_
  have:=YS (t:=x-l.X) (t':=x'-l.X) (n:=r.Y-l.Y) (d:=r.X-l.X) (by omega) (by omega) (by omega)
  unfold Ok
  omega
 ·have h1:=h.mono (show k'+1≤k by omega) b.r_ a.l_
  have h2:=a.lo
  have h3:=b.hi
  omega
def kC (e:List BO) (s:Int):Prop:=∀k l r,e[k]? =some l→e[k+1]? =some r→(r.Y-l.Y)*1099511627776≤s*(r.X-l.X)
theorem kC.mono {e:List BO}{s:Int}(h:kC e s) {i:Nat}:∀{j:Nat}{a b:BO},i≤j→e[i]? =some a→e[j]? =some b→(b.Y-a.Y)*1099511627776≤s*(b.X-a.X)
 |j,a,b,hij,ha,hb=>by
  rcases Nat.lt_or_ge i j with hlt|hge
  ·obtain⟨j,rfl⟩:∃m,j=m+1:=⟨j-1,by omega⟩
   have hj:=(List.getElem?_eq_some_iff.1 hb).1
   obtain⟨c,hc⟩:∃c,e[j]? =some c:=⟨e[j],by simp [show j<e.length by omega]⟩
   have h1:=kC.mono h (j:=j) (by omega) ha hc
   have h2:=h j c b hc hb
   grind
  ·have:i=j:=by omega
   subst this
   rw[ha] at hb
   cases hb
   grind
theorem Z2 {a n d:Int}(h1:0≤a∧a≤1125899906842624) (h2:0≤n∧n≤1125899906842624) (h3:1≤d∧d≤1125899906842624) (h4:a*n/d≤1125899906842624):iU a n d=(a*n/d,a*n%d,true):=by
 unfold iU
 rw[if_pos ⟨h1,h2,h3,h4⟩]
def Sk (l r:BO) (x:Int):Int:=l.Y*(r.X-l.X)+(x-l.X)*(r.Y-l.Y)
theorem QU {l r:BO}(h:l.X<r.X) (x:Int):Ok l r x*(r.X-l.X)+U9 l r x=Sk l r x:=by
 have:=Int.ediv_mul_add_emod ((x-l.X)*(r.Y-l.Y)) (r.X-l.X)
 unfold Ok U9 Sk
 grind
theorem T5 {l r:BO}(h:l.X<r.X) (x:Int):0≤U9 l r x∧U9 l r x<r.X-l.X:=⟨Int.emod_nonneg _ (by omega),Int.emod_lt_of_pos _ (by omega)⟩
def Zk (l r l' r':BO) (x:Int):Prop:=Sk l r x*(r'.X-l'.X)≤Sk l' r' x*(r.X-l.X)
theorem Zk.mid {l r l' r':BO}{x u v:Int}(h1:Zk l r l' r' u) (h2:Zk l r l' r' v) (hu:u≤x) (hv:x≤v) (huv:u<v):Zk l r l' r' x:=by
 unfold Zk Sk at*
 have a1:=Int.mul_le_mul_of_nonneg_right h1 (show 0≤v-x by omega)
 have a2:=Int.mul_le_mul_of_nonneg_right h2 (show 0≤x-u by omega)
 refine Int.le_of_mul_le_mul_right (a:=v-u) ?_ (by omega)
 grind
theorem Zk.val {l r l' r':BO}{x:Int}(h:Zk l r l' r' x) (hl:l.X<r.X) (hl':l'.X<r'.X):Ok l r x≤Ok l' r' x:=by
 have e1:=QU hl x
 have e2:=QU hl' x
 have m1:=T5 hl x
 have m2:=T5 hl' x
 unfold Zk at h
 rw[←e1,←e2] at h
 refine Int.not_lt.1 λhc=>?_
 generalize Ok l r x=a at*
 generalize Ok l' r' x=b at*
 generalize U9 l r x=m at*
 generalize U9 l' r' x=m' at*
 have d1:0<r.X-l.X:=by omega
 have d2:0<r'.X-l'.X:=by omega
 generalize r.X-l.X=d at*
 generalize r'.X-l'.X=d' at*
 have q1:(b+1)*(d*d')≤a*(d*d'):=Int.mul_le_mul_of_nonneg_right (by omega) (Int.mul_nonneg (by omega) (by omega))
 have q2:0≤m*d':=Int.mul_nonneg m1.1 (by omega)
 have q3:m'*d<d'*d:=Int.mul_lt_mul_of_pos_right m2.2 d1
 grind
end Go.Proofs.YtblcgjadhemlbaaGreat
namespace Go.Proofs.YtblcgjadhemlbaaGreat
open Go.RowKit
set_option linter.unusedVariables false
set_option linter.unusedSimpArgs false
theorem Tr (N:Nat) (a b:Int):Df (Fe N a b):=by
 unfold Fe;exact Df.cond (λ_=>Df.mk _) λ_=>Df.cond (λ_=>Df.mk _) λ_=>Df.mk _
theorem PR (N:Nat) (a b:Int):Df (GZ N a b):=by
 unfold GZ;exact Df.cond (λ_=>Df.mk _) λ_=>Df.cond (λ_=>Df.mk _) λ_=>Df.mk _
theorem I5 {k:Nat}(h:k≤1000) (c:Nat) (hc:c≤1000) {α}(x:Option α):chk (JC (k:Int) (k:Int) c) x=x:=by
 have:JC (k:Int) (k:Int) c=true:=by
  simp only[JC,Bool.and_eq_true,decide_eq_true_eq]
  refine⟨⟨by omega,by omega⟩,?_⟩
  have:(c:Int)*(k:Int)≤1000*1000:=Int.mul_le_mul (by omega) (by omega) (by omega) (by omega)
  omega
 rw[this];rfl
theorem kQ {α}{l:List α}{i:Nat}(h:i<l.length):∃x,ix l (i:Int)=some x∧x∈l:=⟨l[i],BA h,List.getElem_mem h⟩
theorem Yb {α}(l xs:List α):(Ms l xs).length=l.length:=by unfold Ms;simp;omega
theorem XQ {α}{l xs:List α}(h:l.length=xs.length):Ms l xs=xs:=by
 unfold Ms;rw[h,List.take_length,List.drop_of_length_le (by omega),List.append_nil]
theorem Lf (k:Nat) (z:Int):(List.replicate ((k:Int)).toNat z).length=k:=by simp
theorem Nc {α}(k:Nat) (z:α):(List.replicate ((k:Int)).toNat z).length=k:=by simp
theorem Rq (p:List Int):Ms (List.replicate ((p.length:Int)).toNat (0:Int)) p=p:=XQ (by simp)
theorem Kt {α}(l:List α) (i:Int) (x:α):(upd l i x).length=l.length:=by simp [upd]
theorem KU (N:Nat) {p:List Int}(h:p.length≤1000000):CA N p=some p:=by
 unfold CA
 rw[Jc (by simp;omega)];rfl
theorem Tm (N:Nat) {p:List Au}(h:p.length≤1000000):Bz N p=some p:=by
 unfold Bz
 rw[Jc (by simp;omega)];rfl
theorem WV {N:Nat}(hN:1000000<N) {p q:List Int}(hp:p.length≤1000) (hq:q.length≤1000):∃r,Fl N p q=some r∧r.length=max p.length q.length:=by
 unfold Fl
 have hm:max (p.length:Int) (q.length:Int)=((max p.length q.length:Nat):Int):=by omega
 rw[hm,I5 (by omega) _ (by decide)]
 obtain⟨s,i1,e⟩:=Da q.length (λn i s=>Ej N q (GX N) n i s) (GX N) (λ_ s=>s.length=max p.length q.length) (λn k s hk=>by
  simp only[Ej];rw[Ey hk];rfl) (λn k s hi hk=>by
  simp only[Ej]
  have hks:k<s.length:=by omega
  obtain⟨v,hv⟩:=Tr N s[k] q[k]
  rw[Ea hk,cond_true,BA hk]
  simp only[BA hks,Option.bind_some]
  rw[hv,Option.bind_some,BE (by omega)]
  exact⟨_,by rw[Kt];exact hi,rfl⟩) N 0 (Ms (List.replicate (((max p.length q.length:Nat):Int)).toNat (0:Int)) p) (by rw[Yb,Lf]) (by omega) (Nat.zero_le _)
 exact⟨s,e,i1⟩
theorem VJ {N:Nat}(hN:1000000<N) {p:List Int}(hp:p.length≤1000):∃v,HE N p=some v∧(v=true→(∀x∈p,0≤x)∧p.sum≤1125899906842624):=by
 unfold HE
 rcases Lh p.length (λn i s=>Dj N p (Fb N) n s i) (λ_=>Fb N) (some false) (λk s=>(∀x∈p.take k,0≤x)∧s=(p.take k).sum∧s≤1125899906842624∧0≤s) (λn k s hk=>by
  simp only[Dj];rw[Ey hk];rfl) (λn k s hi hk=>by
  obtain⟨i1,i2,i3,i4⟩:=hi
  simp only[Dj]
  rw[Ea hk,cond_true,BA hk,Option.bind_some,DB (n:=1125899906842624-s) (by omega) (by omega)]
  cases hb:(decide (p[k]<0)||decide (1125899906842624-s<p[k]))
  ·simp only[Bool.or_eq_false_iff,decide_eq_false_iff_not] at hb
   rw[cond_false,BE (by omega),DB (n:=s+p[k]) (by omega) (by omega)]
   exact .inr ⟨_,⟨Jj hk i1 (by omega),by rw[H2 hk,i2],by omega,by omega⟩,rfl⟩
  ·exact .inl rfl) N 0 0 ⟨by simp,rfl,by decide,by decide⟩ (by omega) (Nat.zero_le _) with e|⟨s,⟨i1,i2,i3,_⟩,e⟩
 ·exact⟨false,e,λh=>by cases h⟩
 ·rw[List.take_length] at i1 i2
  exact⟨true,e,λ_=>⟨i1,by omega⟩⟩
end Go.Proofs.YtblcgjadhemlbaaGreat
namespace Go.Proofs.YtblcgjadhemlbaaGreat
open Go.RowKit
set_option linter.unusedVariables false
set_option linter.unusedSimpArgs false
theorem FQ {α}{l:List α}{k:Nat}(h:k<l.length) (x:α):(upd l (k:Int) x)[k]? =some x:=by
 simp [upd,h]
theorem Gy {α}{l:List α}{k j:Nat}(h:k≠j) (x:α):(upd l (k:Int) x)[j]? =l[j]? :=by
 simp [upd,List.getElem?_set_ne h]
end Go.Proofs.YtblcgjadhemlbaaGreat
namespace Go.Proofs.YtblcgjadhemlbaaGreat
open Go.RowKit
set_option linter.unusedVariables false
set_option linter.unusedSimpArgs false
theorem Nx (N:Nat) (n lo hi:Int):Ga N n lo hi=some (if n<lo then lo else if hi<n then hi else n):=by
 unfold Ga
 by_cases h1:n<lo
 ·rw[decide_eq_true h1,if_pos h1];rfl
 ·rw[decide_eq_false h1,if_neg h1]
  by_cases h2:hi<n
  ·rw[decide_eq_true h2,if_pos h2];rfl
  ·rw[decide_eq_false h2,if_neg h2];rfl
theorem LM (N:Nat) (i n:Int):FU N i n=some (decide (0≤i)&&decide (i<n)):=rfl
theorem Wq (N:Nat) (l:Ay) (g:Au) (k:Int):∃g',Hv N l g k=some g'∧g'.Pos=g.Pos∧g'.Target=g.Target:=by
 have j1:∀c:Bool,∃g',G4 N l g k (Fd N g) c=some g'∧g'.Pos=g.Pos∧g'.Target=g.Target:=λc=>by
  unfold G4
  cases c
  ·exact⟨_,rfl,rfl,rfl⟩
  ·cases decide (l.Kind=5)<;>exact⟨_,rfl,rfl,rfl⟩
 unfold Hv
 cases decide (k=0)
 ·cases decide (k=1)
  ·cases decide (k=2)
   ·exact j1 (decide (k=3))
   ·exact j1 true
  ·exact⟨_,rfl,rfl,rfl⟩
 ·exact⟨_,rfl,rfl,rfl⟩
theorem bK (N:Nat) (l:Ay) (g:Au) (t:Int):∃g',I7 N l g t=some g'∧g'.Pos=g.Pos∧g'.Stuck=g.Stuck∧(0≤l.Positions→0≤g.Target→g.Target≤l.Positions→0≤g'.Target∧g'.Target≤l.Positions):=by
 unfold I7
 cases decide (l.Positions≠0)
 ·exact⟨_,rfl,rfl,rfl,λ_ h1 h2=>⟨h1,h2⟩⟩
 ·rw[cond_true,Nx,Option.bind_some]
  refine⟨_,rfl,rfl,rfl,λh0 h1 h2=>?_⟩
  show 0≤(if t<0 then 0 else if l.Positions<t then l.Positions else t)∧_≤l.Positions
  split
  ·exact⟨Int.le_refl _,h0⟩
  ·split
   ·exact⟨h0,Int.le_refl _⟩
   ·exact⟨by omega,show t≤_ by omega⟩
theorem YI (N:Nat) (l:Ay) (g:Au):Df (IS N l g):=by
 unfold IS
 cases g.Stuck
 ·obtain⟨a,ha⟩:=PR N g.Target g.Pos
  obtain⟨b,hb⟩:=PR N 0 l.Speed
  rw[cond_false,ha,Option.bind_some,hb,Option.bind_some,Nx,Option.bind_some]
  obtain⟨c,hc⟩:=Tr N g.Pos (if a<b then b else if l.Speed<a then l.Speed else a)
  rw[hc]
  exact⟨_,rfl⟩
 ·exact⟨_,rfl⟩
theorem VD (N:Nat) (l:Ay) (g:Au) (v:Int):∃g',HK N l g v=some g'∧g'.Pos=g.Pos∧(l.Kind≠3→g'=g):=by
 unfold HK
 by_cases h3:l.Kind=3
 ·rw[show decide (l.Kind≠3)=false by simp [h3],cond_false]
  cases decide (l.Prime≤v)
  ·cases decide (v≤l.Break)<;>exact⟨_,rfl,rfl,λh=>absurd h3 h⟩
  ·exact⟨_,rfl,rfl,λh=>absurd h3 h⟩
 ·rw[show decide (l.Kind≠3)=true by simp [h3],cond_true]
  exact⟨g,rfl,rfl,λ_=>rfl⟩
def gF (N:Nat) (l:Ay) (g:Au) (k:Int):Au:=(Hv N l g k).getD g
def gA (N:Nat) (l:Ay) (g:Au) (k:Int):Au:=(I7 N l g k).getD g
def gM (N:Nat) (l:Ay) (g:Au):Au:=(IS N l g).getD g
def gS (N:Nat) (l:Ay) (g:Au) (v:Int):Au:=(HK N l g v).getD g
theorem eR (N:Nat) (l:Ay) (g:Au) (k:Int):Hv N l g k=some (gF N l g k)∧(gF N l g k).Pos=g.Pos∧(gF N l g k).Target=g.Target:=by
 obtain⟨g',e,h⟩:=Wq N l g k
 unfold gF;rw[e];exact⟨rfl,h⟩
theorem eT (N:Nat) (l:Ay) (g:Au) (k:Int):I7 N l g k=some (gA N l g k)∧(gA N l g k).Pos=g.Pos∧(gA N l g k).Stuck=g.Stuck∧(0≤l.Positions→0≤g.Target→g.Target≤l.Positions→0≤(gA N l g k).Target∧(gA N l g k).Target≤l.Positions):=by
 obtain⟨g',e,h⟩:=bK N l g k
 unfold gA;rw[e];exact⟨rfl,h⟩
theorem eQ (N:Nat) (l:Ay) (g:Au):IS N l g=some (gM N l g):=by
 obtain⟨g',e⟩:=YI N l g
 unfold gM;rw[e];rfl
theorem eP (N:Nat) (l:Ay) (g:Au) (v:Int):HK N l g v=some (gS N l g v)∧(gS N l g v).Pos=g.Pos∧(l.Kind≠3→gS N l g v=g):=by
 obtain⟨g',e,h⟩:=VD N l g v
 unfold gS;rw[e];exact⟨rfl,h⟩
def X5 (N:Nat) (l:Ay) (k:Nat) (fs:List Jh) (g:Au):Au:=fs.foldl (λg f=>if f.Link=(k:Int) then gF N l g f.Kind else g) g
def stA (N:Nat) (l:Ay) (k:Nat) (cs:List O4) (g:Au):Au:=cs.foldl (λg c=>if c.Link=(k:Int) then gA N l g c.Target else g) g
theorem PT {N:Nat}{l:Ay}{k:Nat}{fs:List Jh}{g:Au}{i:Nat}(h:i<fs.length):X5 N l k (fs.take (i+1)) g=if fs[i].Link=(k:Int) then gF N l (X5 N l k (fs.take i) g) fs[i].Kind else X5 N l k (fs.take i) g:=by
 unfold X5;rw[List.take_succ_eq_append_getElem h,List.foldl_append];rfl
theorem PU {N:Nat}{l:Ay}{k:Nat}{cs:List O4}{g:Au}{i:Nat}(h:i<cs.length):stA N l k (cs.take (i+1)) g=if cs[i].Link=(k:Int) then gA N l (stA N l k (cs.take i) g) cs[i].Target else stA N l k (cs.take i) g:=by
 unfold stA;rw[List.take_succ_eq_append_getElem h,List.foldl_append];rfl
def U4 (L:Nat) (gs:List Au) (g:Nat→Au):Prop:=gs.length=L∧∀k,k<L→gs[k]? =some (g k)
theorem U4.ix {L:Nat}{gs:List Au}{g:Nat→Au}(h:U4 L gs g) {k:Nat}(hk:k<L):ix gs (k:Int)=some (g k):=by
 have:=h.2 k hk
 simp [Go.Proofs.YtblcgjadhemlbaaGreat.ix,this]
theorem U4.upd {L:Nat}{gs:List Au}{g g':Nat→Au}(h:U4 L gs g) {j:Nat}(hj:j<L) (x:Au) (h1:g' j=x) (h2:∀k,k<L→k≠j→g' k=g k):U4 L (upd gs (j:Int) x) g':=
 ⟨by rw[Kt];exact h.1,λk hk=>by
  by_cases e:j=k
  ·subst e;rw[FQ (by rw[h.1];exact hj),h1]
  ·rw[Gy e,h.2 k hk,h2 k hk λh=>e h.symm]⟩
theorem U4.congr {L:Nat}{gs:List Au}{g g':Nat→Au}(h:U4 L gs g) (e:∀k,k<L→g' k=g k):U4 L gs g':=⟨h.1,λk hk=>by rw[h.2 k hk,e k hk]⟩
def UV (b:AW) (k:Nat):Ay:=b.Links.getD k default
theorem RT {b:AW}{k:Nat}(h:k<b.Links.length):UV b k=b.Links[k]:=by unfold UV;simp [List.getD_eq_getElem?_getD,h]
theorem ZR {α}{l:List α}{i:Int}(h0:0≤i) (h1:i<l.length):∃n:Nat,i=(n:Int)∧n<l.length:=⟨i.toNat,by omega,by omega⟩
theorem Nk {i:Int}{n:Nat}:(decide (0≤i)&&decide (i<(n:Int)))=true↔0≤i∧i<n:=by simp
theorem WX {N:Nat}(hN:1000000<N) {w:Aj}{b:AW}(hwb:w.b=b) (hL:b.Links.length≤1000) (hf:w.in_.Faults.length≤1000) (hc:w.in_.Cmds.length≤1000) {g0:Nat→Au}(h0:U4 b.Links.length w.s.Gates g0):
  ∃gs,GF N w=some gs∧U4 b.Links.length gs (λk=>gM N (UV b k) (stA N (UV b k) k w.in_.Cmds (X5 N (UV b k) k w.in_.Faults (g0 k)))):=by
 subst hwb
 unfold GF
 obtain⟨s1,i1,e1⟩:=Da w.in_.Faults.length (λn i s=>CN N w (Cb N w) n i s) (Cb N w) (λi s=>U4 w.b.Links.length s (λk=>X5 N (UV w.b k) k (w.in_.Faults.take i) (g0 k))) (λn k s hk=>by
  simp only[CN];rw[Ey hk];rfl) (λn i s hi hk=>by
  simp only[CN,Fy]
  rw[Ea hk,cond_true,BA hk,Option.bind_some,LM,Option.bind_some,BE (by omega)]
  cases hr:(decide (0≤w.in_.Faults[i].Link)&&decide (w.in_.Faults[i].Link<(w.b.Links.length:Int)))
  ·refine⟨s,hi.congr λk hkl=>?_,rfl⟩
   rw[PT hk,if_neg]
   intro e
   rw[e] at hr
   simp [hkl] at hr
  ·obtain⟨r1,r2⟩:=Nk.1 hr
   obtain⟨j,hj,hjl⟩:=ZR r1 r2
   rw[cond_true,hj,BA hjl]
   simp only[hi.ix hjl,Option.bind_some]
   rw[(eR N _ _ _).1,Option.bind_some]
   refine⟨_,hi.upd hjl _ ?_ λk hkl hne=>?_,rfl⟩
   ·rw[PT hk,if_pos hj,RT hjl]
   ·rw[PT hk,if_neg (by rw[hj];omega)]) N 0 w.s.Gates h0 (by omega) (Nat.zero_le _)
 rw[show CN N w (Cb N w) N 0 w.s.Gates=Cb N w s1 from e1]
 rw[List.take_length] at i1
 unfold Cb
 obtain⟨s2,i2,e2⟩:=Da w.in_.Cmds.length (λn i s=>CM N w (Ca N w) n i s) (Ca N w) (λi s=>U4 w.b.Links.length s (λk=>stA N (UV w.b k) k (w.in_.Cmds.take i) (X5 N (UV w.b k) k w.in_.Faults (g0 k)))) (λn k s hk=>by
  simp only[CM];rw[Ey hk];rfl) (λn i s hi hk=>by
  simp only[CM,Fx]
  rw[Ea hk,cond_true,BA hk,Option.bind_some,LM,Option.bind_some,BE (by omega)]
  cases hr:(decide (0≤w.in_.Cmds[i].Link)&&decide (w.in_.Cmds[i].Link<(w.b.Links.length:Int)))
  ·refine⟨s,hi.congr λk hkl=>?_,rfl⟩
   rw[PU hk,if_neg]
   intro e
   rw[e] at hr
   simp [hkl] at hr
  ·obtain⟨r1,r2⟩:=Nk.1 hr
   obtain⟨j,hj,hjl⟩:=ZR r1 r2
   rw[cond_true,hj,BA hjl]
   simp only[hi.ix hjl,Option.bind_some]
   rw[(eT N _ _ _).1,Option.bind_some]
   refine⟨_,hi.upd hjl _ ?_ λk hkl hne=>?_,rfl⟩
   ·rw[PU hk,if_pos hj,RT hjl]
   ·rw[PU hk,if_neg (by rw[hj];omega)]) N 0 s1 i1 (by omega) (Nat.zero_le _)
 rw[show CM N w (Ca N w) N 0 s1=Ca N w s2 from e2]
 rw[List.take_length] at i2
 unfold Ca
 obtain⟨s3,i3,e3⟩:=Da w.b.Links.length (λn i s=>DU N w n i s) (λs=>some s) (λi s=>U4 w.b.Links.length s (λk=>if k<i then gM N (UV w.b k) (stA N (UV w.b k) k w.in_.Cmds (X5 N (UV w.b k) k w.in_.Faults (g0 k))) else stA N (UV w.b k) k w.in_.Cmds (X5 N (UV w.b k) k w.in_.Faults (g0 k)))) (λn k s hk=>by
  simp only[DU];rw[Ey hk];rfl) (λn i s hi hk=>by
  simp only[DU]
  rw[Ea hk,cond_true,BA hk]
  simp only[hi.ix hk,Option.bind_some]
  rw[eQ,Option.bind_some,BE (by omega),if_neg (Nat.lt_irrefl i)]
  refine⟨_,hi.upd hk _ ?_ λk hkl hne=>?_,rfl⟩
  ·rw[if_pos (Nat.lt_succ_self i),RT hk]
  ·by_cases h:k<i
   ·rw[if_pos h,if_pos (by omega)]
   ·rw[if_neg h,if_neg (by omega)]) N 0 s2 (i2.congr λk _=>by rw[if_neg (Nat.not_lt_zero k)]) (by omega) (Nat.zero_le _)
 exact⟨s3,e3,i3.congr λk hk=>by rw[if_pos hk]⟩
end Go.Proofs.YtblcgjadhemlbaaGreat
