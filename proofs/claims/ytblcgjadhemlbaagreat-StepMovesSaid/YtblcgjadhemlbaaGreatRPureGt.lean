import Derived.Test.YtblcgjadhemlbaaGreatRPureRight2
import Derived.Test.YtblcgjadhemlbaaGreatRPureDiv2
namespace Go.Proofs.YtblcgjadhemlbaaGreat
open Go.RowKit
set_option linter.unusedVariables false
set_option linter.unusedSimpArgs false
theorem WN (N:Nat) (n z:Int):EO N n z=some (WM n 0 (BD (z-1))):=rfl
structure Ru (b:AX) (t:L5):Prop where
 place:0≤t.Place∧t.Place<b.Places.length
 flood:Iy t.Flood
 lead:0≤t.Lead∧t.Lead≤24
 watch:Iy t.Watch
 quorum:0≤t.Quorum∧t.Quorum≤128
theorem Vg {N:Nat}(hN:1000<N) (b:AX) (hb:qQ b):∃v,Gy N b=some v∧(v=true→∀t∈b.Towns,Ru b t):=by
 have q3:=hb.pl
 have q5:=hb.to
 have q8:=hb.sh
 have hj:Df (DM N b):=by
  unfold DM
  rcases IP b.Shelters.length (DK N b (Er N)) (Er N) (λ_=>True) (λn k h=>by
   simp only[DK];rw[Eh h];rfl) (λn k h=>by
   simp only[DK]
   rw[Ee h,cond_true,BI h]
   simp only[Option.bind_some,NM,BF (show k<4611686018427387904 by omega)]
   cases WM (b.Shelters[k]).Room 0 1073741824
   ·exact .inl rfl
   ·exact .inr ⟨trivial,rfl⟩) N 0 (by omega) (Nat.zero_le _) with h|⟨_,h⟩
  ·exact⟨_,h⟩
  ·exact⟨true,h⟩
 unfold Gy
 rcases IP b.Towns.length (DL N b (DM N b)) (DM N b) (λi=>∀t,b.Towns[i]? =some t→Ru b t) (λn k h=>by
  simp only[DL];rw[Eh h];rfl) (λn k h=>by
  simp only[DL]
  rw[Ee h,cond_true,BI h]
  simp only[Option.bind_some,NM,Lb,Ps N _ (show b.Places.length<4611686018427387904 by omega),Fc,Ku,BF (show k<4611686018427387904 by omega)]
  generalize hB:(_|| !WM (b.Towns[k]).Quorum 0 128)=B
  cases B
  ·simp only[Bool.or_eq_false_iff,Bool.not_eq_false'] at hB
   obtain⟨⟨⟨⟨⟨h1,h2⟩,h3⟩,h4⟩,h5⟩,h6⟩:=hB
   refine .inr ⟨λt ht=>?_,rfl⟩
   have:t=b.Towns[k]:=by simpa [h] using ht.symm
   rw[this]
   have i1:=KQ h1
   exact⟨⟨i1.1,by omega⟩,MK h2,KQ h3,MK h5,KQ h6⟩
  ·exact .inl rfl) N 0 (by omega) (Nat.zero_le _) with h|⟨hp,h⟩
 ·exact⟨false,h,λh=>by cases h⟩
 ·obtain⟨v,hv⟩:=hj
  refine⟨v,h.trans hv,λ_ t ht=>?_⟩
  obtain⟨i,hi,rfl⟩:=List.mem_iff_getElem.1 ht
  exact hp i (Nat.zero_le _) hi _ (by simp [hi])
theorem VC {N:Nat}(hN:1000<N) (b:AX) (hb:qQ b):Df (GZ N b):=by
 have q6:=hb.ga
 unfold GZ
 rcases IP b.Gauges.length (DB N b (Eb N)) (Eb N) (λ_=>True) (λn k h=>by
  simp only[DB];rw[Eh h];rfl) (λn k h=>by
  simp only[DB]
  rw[Ee h,cond_true,BI h]
  simp only[Option.bind_some,NM,WN,Fc,Ku,BF (show k<4611686018427387904 by omega)]
  generalize hB:(_|| !WM (b.Gauges[k]).Drift 0 1440)=B
  cases B
  ·simp only[Bool.or_eq_false_iff,Bool.not_eq_false'] at hB
   have i1:=KQ hB.1.1
   obtain⟨z,hz⟩:=Df.ix (l:=[(b.Places.length:Int),b.Cells,(b.Links.length:Int)]) (i:=(b.Gauges[k]).Kind) i1.1 (by simp;omega)
   rw[hz]
   simp only[cond_false,Option.bind_some]
   cases WM (b.Gauges[k]).Target 0 (BD (z-1))
   ·exact .inl rfl
   ·exact .inr ⟨trivial,rfl⟩
  ·exact .inl rfl) N 0 (by omega) (Nat.zero_le _) with h|⟨_,h⟩
 ·exact⟨_,h⟩
 ·exact⟨true,h⟩
theorem Vz {N:Nat}(hN:1000<N) (b:AX) (hb:qQ b):Df (Gz N b):=by
 have q7:=hb.ro
 unfold Gz
 rcases IP b.Roads.length (DN N b (Es N)) (Es N) (λ_=>True) (λn k h=>by
  simp only[DN];rw[Eh h];rfl) (λn k h=>by
  simp only[DN]
  rw[Ee h,cond_true,BI h]
  simp only[Option.bind_some,NM,Lb,WN,Fc,Ku,OQ,BF (show k<4611686018427387904 by omega)]
  generalize (_|| !Q3 (b.Roads[k]).Limit)=B
  cases B
  ·simp only[cond_false]
   generalize ((decide ((b.Roads[k]).By= -1)&&decide ((b.Roads[k]).Limit≠0))||_)=B2
   cases B2
   ·exact .inr ⟨trivial,rfl⟩
   ·exact .inl rfl
  ·exact .inl rfl) N 0 (by omega) (Nat.zero_le _) with h|⟨_,h⟩
 ·exact⟨_,h⟩
 ·exact⟨true,h⟩
structure Ka (b:AX):Prop where
 head:qQ b
 places:∀p∈b.Places,Iv b p
 links:∀l∈b.Links,Jr b l
 towns:∀t∈b.Towns,Ru b t
theorem chainB {b:Bool}{x:Option Bool}{f:Bool→Option Bool}(Q:Prop) {G:Option Bool→Prop}(h:b=true→∃v,x=some v∧(v=true→Q)) (k:∀c,(c=true→b=true∧Q)→G (f c)):G (Option.bind (cond b (Option.bind x λy=>some y) (some false)) f):=by
 cases b
 ·exact k false λh=>by cases h
 ·obtain⟨v,hv,hq⟩:=h rfl
  rw[hv]
  exact k v λhc=>⟨rfl,hq hc⟩
theorem Df.q {x:Option Bool}(h:Df x):∃v,x=some v∧(v=true→True):=by obtain⟨v,hv⟩:=h;exact⟨v,hv,λ_=>trivial⟩
theorem V1 {N:Nat}(hN:18446744073709551616<N) (b:AX):∃v,IL N b=some v∧(v=true→Ka b):=by
 have hN2:1000<N:=by omega
 unfold IL
 obtain⟨v0,e0,p0⟩:=Xy hN2 b
 rw[e0]
 simp only[Option.bind_some]
 refine chainB True (G:=λx=>∃v,x=some v∧(v=true→Ka b)) (λh=>(V9 hN2 (p0 h)).q) λc1 h1=>?_
 refine chainB (∀p∈b.Places,Iv b p) (G:=λx=>∃v,x=some v∧(v=true→Ka b)) (λh=>U5 hN2 b (p0 (h1 h).1)) λc2 h2=>?_
 have d2:c2=true→qQ b∧∀p∈b.Places,Iv b p:=λh=>⟨p0 (h1 (h2 h).1).1,(h2 h).2⟩
 refine chainB (∀l∈b.Links,Jr b l) (G:=λx=>∃v,x=some v∧(v=true→Ka b)) (λh=>WC hN b (d2 h).1) λc3 h3=>?_
 have d3:c3=true→qQ b∧(∀p∈b.Places,Iv b p)∧∀l∈b.Links,Jr b l:=λh=>⟨(d2 (h3 h).1).1,(d2 (h3 h).1).2,(h3 h).2⟩
 refine chainB True (G:=λx=>∃v,x=some v∧(v=true→Ka b)) (λh=>(Ta hN2 b (d3 h).1 (d3 h).2.1 (d3 h).2.2).q) λc4 h4=>?_
 refine chainB True (G:=λx=>∃v,x=some v∧(v=true→Ka b)) (λh=>(Ux hN b (d3 (h4 h).1).1 (d3 (h4 h).1).2.1 (d3 (h4 h).1).2.2).q) λc5 h5=>?_
 refine chainB (∀t∈b.Towns,Ru b t) (G:=λx=>∃v,x=some v∧(v=true→Ka b)) (λh=>Vg hN2 b (d3 (h4 (h5 h).1).1).1) λc6 h6=>?_
 refine chainB True (G:=λx=>∃v,x=some v∧(v=true→Ka b)) (λh=>(VC hN2 b (d3 (h4 (h5 (h6 h).1).1).1).1).q) λc7 h7=>?_
 refine chainB True (G:=λx=>∃v,x=some v∧(v=true→Ka b)) (λh=>(Vz hN2 b (d3 (h4 (h5 (h6 (h7 h).1).1).1).1).1).q) λc8 h8=>?_
 refine⟨c8,rfl,λh=>?_⟩
 have d:=d3 (h4 (h5 (h6 (h7 (h8 h).1).1).1).1).1
 exact⟨d.1,d.2.1,d.2.2,(h6 (h7 (h8 h).1).1).2⟩
end Go.Proofs.YtblcgjadhemlbaaGreat
namespace Go.Proofs.YtblcgjadhemlbaaGreat
open Go.RowKit
set_option linter.unusedVariables false
set_option linter.unusedSimpArgs false
theorem DZ {σ β:Type}(L:Nat) (f:Nat→Int→σ→Option β) (kj:σ→Option β) (I:Nat→σ→Prop) (hstop:∀n (k:Nat) s,L≤k→f (n+1) (k:Int) s=kj s) (hstep:∀n (k:Nat) s,I k s→k<L→∃s',I (k+1) s'∧f (n+1) (k:Int) s=f n ((k+1:Nat):Int) s'):
  ∀n (k:Nat) s,I k s→L<n+k→k≤L→∃s',I L s'∧f n (k:Int) s=kj s'
 |0,k,s,_,h,hk=>by omega
 |n+1,k,s,hi,h,hk=>by
  rcases Nat.lt_or_ge k L with hl|hl
  ·obtain⟨s1,i1,h1⟩:=hstep n k s hi hl
   obtain⟨s2,i2,h2⟩:=DZ L f kj I hstop hstep n (k+1) s1 i1 (by omega) (by omega)
   exact⟨s2,i2,h1.trans h2⟩
  ·have:k=L:=by omega
   subst this
   exact⟨s,hi,hstop n k s hl⟩
theorem Lj {σ β:Type}(L:Nat) (f:Nat→Int→σ→Option β) (kj:σ→Option β) (x0:Option β) (I:Nat→σ→Prop) (hstop:∀n (k:Nat) s,L≤k→f (n+1) (k:Int) s=kj s) (hstep:∀n (k:Nat) s,I k s→k<L→f (n+1) (k:Int) s=x0∨∃s',I (k+1) s'∧f (n+1) (k:Int) s=f n ((k+1:Nat):Int) s'):
  ∀n (k:Nat) s,I k s→L<n+k→k≤L→f n (k:Int) s=x0∨∃s',I L s'∧f n (k:Int) s=kj s'
 |0,k,s,_,h,hk=>by omega
 |n+1,k,s,hi,h,hk=>by
  rcases Nat.lt_or_ge k L with hl|hl
  ·rcases hstep n k s hi hl with h0|⟨s1,i1,h1⟩
   ·exact .inl h0
   ·rcases Lj L f kj x0 I hstop hstep n (k+1) s1 i1 (by omega) (by omega) with h2|⟨s2,i2,h2⟩
    ·exact .inl (h1.trans h2)
    ·exact .inr ⟨s2,i2,h1.trans h2⟩
  ·have:k=L:=by omega
   subst this
   exact .inr ⟨s,hi,hstop n k s hl⟩
theorem I4 {l:List Int}{k:Nat}(h:k<l.length):(l.take (k+1)).sum=(l.take k).sum+l[k]:=by
 rw[List.take_succ_eq_append_getElem h,List.sum_append];simp
theorem JK:∀{l:List Int},(∀x∈l,0≤x)→0≤l.sum
 |[],_=>by simp
 |a::l,h=>by
  have h1:=h a (List.mem_cons_self ..)
  have h2:=JK (l:=l) λx hx=>h x (List.mem_cons_of_mem _ hx)
  simp only[List.sum_cons];omega
theorem HJ {l:List Int}(h:∀x∈l,0≤x) (k:Nat):0≤(l.take k).sum∧(l.take k).sum≤l.sum:=by
 have h1:=JK (l:=l.take k) λx hx=>h x (List.mem_of_mem_take hx)
 have h2:=JK (l:=l.drop k) λx hx=>h x (List.mem_of_mem_drop hx)
 have h3:(l.take k).sum+(l.drop k).sum=l.sum:=by rw[←List.sum_append,List.take_append_drop]
 omega
theorem XE (N:Nat) {a b:Int}(h1: -4611686018427387903≤a) (h2:a≤4611686018427387903) (h3: -4611686018427387903≤b) (h4:b≤4611686018427387903):Fl N a b=some (a+b):=by
 unfold Fl
 have e3:BD (a+b)=a+b:=EF (by omega) (by omega)
 by_cases hb:0<b
 ·have e1:BD (9223372036854775807-b)=9223372036854775807-b:=EF (by omega) (by omega)
  rw[e1,e3]
  have c1:decide (9223372036854775807-b<a)=false:=by simp;omega
  have c2:decide (b<0)=false:=by simp;omega
  rw[c1,c2];simp
 ·have c1:decide (0<b)=false:=by simp;omega
  rw[c1]
  by_cases hb2:b<0
  ·have e2:BD (-9223372036854775808-b)= -9223372036854775808-b:=EF (by omega) (by omega)
   have c2:decide (a< -9223372036854775808-b)=false:=by simp;omega
   rw[e2,e3,c2];simp
  ·have c2:decide (b<0)=false:=by simp;omega
   rw[c2,e3];simp
theorem Jw {α}{l:List α}{k:Nat}(h:k<l.length) {P:α→Prop}(h1:∀x∈l.take k,P x) (h2:P l[k]):∀x∈l.take (k+1),P x:=by
 intro x hx
 rw[List.take_succ_eq_append_getElem h,List.mem_append] at hx
 rcases hx with hx|hx
 ·exact h1 x hx
 ·simp only[List.mem_singleton] at hx;subst hx;exact h2
theorem OM {α}{f:α→Int}{l:List α}{k:Nat}(h:k<l.length):((l.take (k+1)).map f).sum=((l.take k).map f).sum+f l[k]:=by
 rw[List.take_succ_eq_append_getElem h,List.map_append,List.sum_append];simp
theorem RP {α}{f:α→Int}{l:List α}(h:∀x∈l,0≤f x):0≤(l.map f).sum:=JK λy hy=>by
 obtain⟨x,hx,rfl⟩:=List.mem_map.1 hy;exact h x hx
theorem Ia {n by_:Nat}(h:n*by_≤140737488355328) {α}(x:Option α):chk (Jk n by_) x=x:=by
 unfold chk Jk;rw[decide_eq_true h];rfl
theorem PE {β:Type}(L:Nat) (f:Nat→Int→Option β) (kj:Option β) (hstop:∀n (k:Nat),L≤k→f (n+1) (k:Int)=kj) (hstep:∀n (k:Nat),k<L→f (n+1) (k:Int)=f n ((k+1:Nat):Int)):
  ∀n (k:Nat),L<n+k→k≤L→f n (k:Int)=kj
 |0,k,h,hk=>by omega
 |n+1,k,h,hk=>by
  rcases Nat.lt_or_ge k L with hl|hl
  ·rw[hstep n k hl];exact PE L f kj hstop hstep n (k+1) (by omega) (by omega)
  ·exact hstop n k hl
end Go.Proofs.YtblcgjadhemlbaaGreat
namespace Go.Proofs.YtblcgjadhemlbaaGreat
open Go.RowKit
set_option linter.unusedVariables false
set_option linter.unusedSimpArgs false
theorem X3 {t t' n d:Int}(hd:0≤d) (hn:0≤n) (ht:t≤t'):t*n/d≤t'*n/d:=by
 rcases Int.lt_or_eq_of_le hd with h|h
 ·exact Int.ediv_le_ediv h (Int.mul_le_mul_of_nonneg_right ht hn)
 ·rw[←h];simp
theorem Sm {t n d:Int}(hd:0≤d) (hn:0≤n) (ht:0≤t):0≤t*n/d:=Int.ediv_nonneg (Int.mul_nonneg ht hn) hd
theorem WS {t n d:Int}(hd:0≤d) (h:n≤d) (ht:0≤t):t*n/d≤t:=by
 rcases Int.lt_or_eq_of_le hd with h0|h0
 ·refine Int.ediv_le_of_le_mul h0 (Int.mul_le_mul_of_nonneg_left h ht)
 ·rw[←h0];simp [ht]
def gQ (e:List BS):Prop:=∀k l r,e[k]? =some l→e[k+1]? =some r→l.X<r.X∧l.Y≤r.Y
theorem Yj {c:List BS}(h:H7 c) {k:Nat}{p q:BS}(hp:c[k]? =some p) (hq:c[k+1]? =some q):p.X<q.X∧p.Y≤q.Y:=(h.2.2 (k+1) q hq).2.2 p (by omega) hp
theorem gQ.mono {e:List BS}(h:gQ e) {i:Nat}:∀{j:Nat}{a b:BS},i≤j→e[i]? =some a→e[j]? =some b→a.X≤b.X∧a.Y≤b.Y∧(i<j→a.X<b.X)
 |j,a,b,hij,ha,hb=>by
  rcases Nat.lt_or_ge i j with hlt|hge
  ·obtain⟨j,rfl⟩:∃m,j=m+1:=⟨j-1,by omega⟩
   have hj:=(List.getElem?_eq_some_iff.1 hb).1
   obtain⟨c,hc⟩:∃c,e[j]? =some c:=⟨e[j],by simp [show j<e.length by omega]⟩
   have h1:=gQ.mono h (j:=j) (by omega) ha hc
   have h2:=h j c b hc hb
   exact⟨by omega,by omega,λ_=>by omega⟩
  ·have:i=j:=by omega
   subst this
   rw[ha] at hb
   cases hb
   exact⟨Int.le_refl _,Int.le_refl _,λh=>by omega⟩
structure gH (e:List BS) (x:Int) (k:Nat) (l r:BS):Prop where
 l_:e[k]? =some l
 r_:e[k+1]? =some r
 lo:l.X≤x
 hi:x<r.X
def On (l r:BS) (x:Int):Int:=l.Y+(x-l.X)*(r.Y-l.Y)/(r.X-l.X)
def Uu (l r:BS) (x:Int):Int:=(x-l.X)*(r.Y-l.Y)%(r.X-l.X)
theorem gH.bounds {e:List BS}(h:gQ e) {x:Int}{k:Nat}{l r:BS}(a:gH e x k l r):l.Y≤On l r x∧On l r x≤r.Y:=by
 have h1:=h k l r a.l_ a.r_
 have h2:=a.lo
 have h3:=a.hi
 have h4:=Sm (t:=x-l.X) (n:=r.Y-l.Y) (d:=r.X-l.X) (by omega) (by omega) (by omega)
 have h5:(x-l.X)*(r.Y-l.Y)/(r.X-l.X)≤r.Y-l.Y:=by
  refine Int.ediv_le_of_le_mul (by omega) ?_
  rw[Int.mul_comm]
  exact Int.mul_le_mul_of_nonneg_left (by omega) (by omega)
 unfold On
 omega
theorem gH.mono {e:List BS}(h:gQ e) {x x':Int}{k k':Nat}{l r l' r':BS}(a:gH e x k l r) (b:gH e x' k' l' r') (hx:x≤x'):On l r x≤On l' r' x':=by
 rcases Nat.lt_trichotomy k k' with hlt|heq|hgt
 ·have h1:=h.mono (show k+1≤k' by omega) a.r_ b.l_
  have h2:=(a.bounds h).2
  have h3:=(b.bounds h).1
  omega
 ·subst heq
  have e1:=a.l_.symm.trans b.l_
  have e2:=a.r_.symm.trans b.r_
  cases e1;cases e2
  have h1:=h k l r a.l_ a.r_
  have:=X3 (t:=x-l.X) (t':=x'-l.X) (n:=r.Y-l.Y) (d:=r.X-l.X) (by omega) (by omega) (by omega)
  unfold On
  omega
 ·have h1:=h.mono (show k'+1≤k by omega) b.r_ a.l_
  have h2:=a.lo
  have h3:=b.hi
  omega
def jE (e:List BS) (s:Int):Prop:=∀k l r,e[k]? =some l→e[k+1]? =some r→(r.Y-l.Y)*1099511627776≤s*(r.X-l.X)
theorem jE.mono {e:List BS}{s:Int}(h:jE e s) {i:Nat}:∀{j:Nat}{a b:BS},i≤j→e[i]? =some a→e[j]? =some b→(b.Y-a.Y)*1099511627776≤s*(b.X-a.X)
 |j,a,b,hij,ha,hb=>by
  rcases Nat.lt_or_ge i j with hlt|hge
  ·obtain⟨j,rfl⟩:∃m,j=m+1:=⟨j-1,by omega⟩
   have hj:=(List.getElem?_eq_some_iff.1 hb).1
   obtain⟨c,hc⟩:∃c,e[j]? =some c:=⟨e[j],by simp [show j<e.length by omega]⟩
   have h1:=jE.mono h (j:=j) (by omega) ha hc
   have h2:=h j c b hc hb
   grind
  ·have:i=j:=by omega
   subst this
   rw[ha] at hb
   cases hb
   grind
theorem Zg {a n d:Int}(h1:0≤a∧a≤1125899906842624) (h2:0≤n∧n≤1125899906842624) (h3:1≤d∧d≤1125899906842624) (h4:a*n/d≤1125899906842624):hJ a n d=(a*n/d,a*n%d,true):=by
 unfold hJ
 rw[if_pos ⟨h1,h2,h3,h4⟩]
def Sg (l r:BS) (x:Int):Int:=l.Y*(r.X-l.X)+(x-l.X)*(r.Y-l.Y)
theorem QZ {l r:BS}(h:l.X<r.X) (x:Int):On l r x*(r.X-l.X)+Uu l r x=Sg l r x:=by
 have:=Int.ediv_mul_add_emod ((x-l.X)*(r.Y-l.Y)) (r.X-l.X)
 unfold On Uu Sg
 grind
theorem Tw {l r:BS}(h:l.X<r.X) (x:Int):0≤Uu l r x∧Uu l r x<r.X-l.X:=⟨Int.emod_nonneg _ (by omega),Int.emod_lt_of_pos _ (by omega)⟩
def ZM (l r l' r':BS) (x:Int):Prop:=Sg l r x*(r'.X-l'.X)≤Sg l' r' x*(r.X-l.X)
theorem ZM.mid {l r l' r':BS}{x u v:Int}(h1:ZM l r l' r' u) (h2:ZM l r l' r' v) (hu:u≤x) (hv:x≤v) (huv:u<v):ZM l r l' r' x:=by
 unfold ZM Sg at*
 have a1:=Int.mul_le_mul_of_nonneg_right h1 (show 0≤v-x by omega)
 have a2:=Int.mul_le_mul_of_nonneg_right h2 (show 0≤x-u by omega)
 refine Int.le_of_mul_le_mul_right (a:=v-u) ?_ (by omega)
 grind
theorem ZM.val {l r l' r':BS}{x:Int}(h:ZM l r l' r' x) (hl:l.X<r.X) (hl':l'.X<r'.X):On l r x≤On l' r' x:=by
 have e1:=QZ hl x
 have e2:=QZ hl' x
 have m1:=Tw hl x
 have m2:=Tw hl' x
 unfold ZM at h
 rw[←e1,←e2] at h
 refine Int.not_lt.1 λhc=>?_
 generalize On l r x=a at*
 generalize On l' r' x=b at*
 generalize Uu l r x=m at*
 generalize Uu l' r' x=m' at*
 have d1:0<r.X-l.X:=by omega
 have d2:0<r'.X-l'.X:=by omega
 generalize r.X-l.X=d at*
 generalize r'.X-l'.X=d' at*
 have q1:(b+1)*(d*d')≤a*(d*d'):=Int.mul_le_mul_of_nonneg_right (by omega) (Int.mul_nonneg (by omega) (by omega))
 have q2:0≤m*d':=Int.mul_nonneg m1.1 (by omega)
 have q3:m'*d<d'*d:=Int.mul_lt_mul_of_pos_right m2.2 d1
 grind
end Go.Proofs.YtblcgjadhemlbaaGreat
namespace Go.Proofs.YtblcgjadhemlbaaGreat
open Go.RowKit
set_option linter.unusedVariables false
set_option linter.unusedSimpArgs false
theorem Tj (N:Nat) (a b:Int):Df (Fl N a b):=by
 unfold Fl;exact Df.cond (λ_=>Df.mk _) λ_=>Df.cond (λ_=>Df.mk _) λ_=>Df.mk _
theorem PV (N:Nat) (a b:Int):Df (Gi N a b):=by
 unfold Gi;exact Df.cond (λ_=>Df.mk _) λ_=>Df.cond (λ_=>Df.mk _) λ_=>Df.mk _
theorem Jo {k:Nat}(h:k≤1000) (c:Nat) (hc:c≤1000) {α}(x:Option α):chk (JQ (k:Int) (k:Int) c) x=x:=by
 have:JQ (k:Int) (k:Int) c=true:=by
  simp only[JQ,Bool.and_eq_true,decide_eq_true_eq]
  refine⟨⟨by omega,by omega⟩,?_⟩
  have:(c:Int)*(k:Int)≤1000*1000:=Int.mul_le_mul (by omega) (by omega) (by omega) (by omega)
  omega
 rw[this];rfl
theorem jQ {α}{l:List α}{i:Nat}(h:i<l.length):∃x,ix l (i:Int)=some x∧x∈l:=⟨l[i],BI h,List.getElem_mem h⟩
theorem YE {α}(l xs:List α):(M3 l xs).length=l.length:=by unfold M3;simp;omega
theorem W3 {α}{l xs:List α}(h:l.length=xs.length):M3 l xs=xs:=by
 unfold M3;rw[h,List.take_length,List.drop_of_length_le (by omega),List.append_nil]
theorem Lh (k:Nat) (z:Int):(List.replicate ((k:Int)).toNat z).length=k:=by simp
theorem Nn {α}(k:Nat) (z:α):(List.replicate ((k:Int)).toNat z).length=k:=by simp
theorem Uc (p:List Int):M3 (List.replicate ((p.length:Int)).toNat (0:Int)) p=p:=W3 (by simp)
theorem L7 {α}(l:List α) (i:Int) (x:α):(upd l i x).length=l.length:=by simp [upd]
theorem Ke (N:Nat) {p:List Int}(h:p.length≤1000000):CG N p=some p:=by
 unfold CG
 rw[Ia (by simp;omega)];rfl
theorem Tf (N:Nat) {p:List Ax}(h:p.length≤1000000):B6 N p=some p:=by
 unfold B6
 rw[Ia (by simp;omega)];rfl
theorem Pk {N:Nat}(hN:1000000<N) {p q:List Int}(hp:p.length≤1000) (hq:q.length≤1000):∃r,DD N p q=some r∧r.length=max p.length q.length:=by
 unfold DD
 have hm:max (p.length:Int) (q.length:Int)=((max p.length q.length:Nat):Int):=by omega
 rw[hm,Jo (by omega) _ (by decide)]
 obtain⟨s,i1,e⟩:=DZ q.length (λn i s=>Ey N q (Gg N) n i s) (Gg N) (λ_ s=>s.length=max p.length q.length) (λn k s hk=>by
  simp only[Ey];rw[Eh hk];rfl) (λn k s hi hk=>by
  simp only[Ey]
  have hks:k<s.length:=by omega
  obtain⟨v,hv⟩:=Tj N s[k] q[k]
  rw[Ee hk,cond_true,BI hk]
  simp only[BI hks,Option.bind_some]
  rw[hv,Option.bind_some,BF (by omega)]
  exact⟨_,by rw[L7];exact hi,rfl⟩) N 0 (M3 (List.replicate (((max p.length q.length:Nat):Int)).toNat (0:Int)) p) (by rw[YE,Lh]) (by omega) (Nat.zero_le _)
 exact⟨s,e,i1⟩
theorem U4 {N:Nat}(hN:1000000<N) {p:List Int}(hp:p.length≤1000):∃v,HT N p=some v∧(v=true→(∀x∈p,0≤x)∧p.sum≤1125899906842624):=by
 unfold HT
 rcases Lj p.length (λn i s=>Dy N p (Fi N) n s i) (λ_=>Fi N) (some false) (λk s=>(∀x∈p.take k,0≤x)∧s=(p.take k).sum∧s≤1125899906842624∧0≤s) (λn k s hk=>by
  simp only[Dy];rw[Eh hk];rfl) (λn k s hi hk=>by
  obtain⟨i1,i2,i3,i4⟩:=hi
  simp only[Dy]
  rw[Ee hk,cond_true,BI hk,Option.bind_some,EF (n:=1125899906842624-s) (by omega) (by omega)]
  cases hb:(decide (p[k]<0)||decide (1125899906842624-s<p[k]))
  ·simp only[Bool.or_eq_false_iff,decide_eq_false_iff_not] at hb
   rw[cond_false,BF (by omega),EF (n:=s+p[k]) (by omega) (by omega)]
   exact .inr ⟨_,⟨Jw hk i1 (by omega),by rw[I4 hk,i2],by omega,by omega⟩,rfl⟩
  ·exact .inl rfl) N 0 0 ⟨by simp,rfl,by decide,by decide⟩ (by omega) (Nat.zero_le _) with e|⟨s,⟨i1,i2,i3,_⟩,e⟩
 ·exact⟨false,e,λh=>by cases h⟩
 ·rw[List.take_length] at i1 i2
  exact⟨true,e,λ_=>⟨i1,by omega⟩⟩
end Go.Proofs.YtblcgjadhemlbaaGreat
namespace Go.Proofs.YtblcgjadhemlbaaGreat
open Go.RowKit
set_option linter.unusedVariables false
set_option linter.unusedSimpArgs false
theorem Fo {α}{l:List α}{k:Nat}(h:k<l.length) (x:α):(upd l (k:Int) x)[k]? =some x:=by
 simp [upd,h]
theorem Hx {α}{l:List α}{k j:Nat}(h:k≠j) (x:α):(upd l (k:Int) x)[j]? =l[j]? :=by
 simp [upd,List.getElem?_set_ne h]
end Go.Proofs.YtblcgjadhemlbaaGreat
namespace Go.Proofs.YtblcgjadhemlbaaGreat
open Go.RowKit
set_option linter.unusedVariables false
set_option linter.unusedSimpArgs false
theorem N1 (N:Nat) (n lo hi:Int):Gj N n lo hi=some (if n<lo then lo else if hi<n then hi else n):=by
 unfold Gj
 by_cases h1:n<lo
 ·rw[decide_eq_true h1,if_pos h1];rfl
 ·rw[decide_eq_false h1,if_neg h1]
  by_cases h2:hi<n
  ·rw[decide_eq_true h2,if_pos h2];rfl
  ·rw[decide_eq_false h2,if_neg h2];rfl
theorem Ms (N:Nat) (i n:Int):FW N i n=some (decide (0≤i)&&decide (i<n)):=rfl
theorem WT (N:Nat) (l:A7) (g:Ax) (k:Int):∃g',H3 N l g k=some g'∧g'.Pos=g.Pos∧g'.Target=g.Target:=by
 have j1:∀c:Bool,∃g',HC N l g k (Fk N g) c=some g'∧g'.Pos=g.Pos∧g'.Target=g.Target:=λc=>by
  unfold HC
  cases c
  ·exact⟨_,rfl,rfl,rfl⟩
  ·cases decide (l.Kind=5)<;>exact⟨_,rfl,rfl,rfl⟩
 unfold H3
 cases decide (k=0)
 ·cases decide (k=1)
  ·cases decide (k=2)
   ·exact j1 (decide (k=3))
   ·exact j1 true
  ·exact⟨_,rfl,rfl,rfl⟩
 ·exact⟨_,rfl,rfl,rfl⟩
theorem aL (N:Nat) (l:A7) (g:Ax) (t:Int):∃g',JM N l g t=some g'∧g'.Pos=g.Pos∧g'.Stuck=g.Stuck∧(0≤l.Positions→0≤g.Target→g.Target≤l.Positions→0≤g'.Target∧g'.Target≤l.Positions):=by
 unfold JM
 cases decide (l.Positions≠0)
 ·exact⟨_,rfl,rfl,rfl,λ_ h1 h2=>⟨h1,h2⟩⟩
 ·rw[cond_true,N1,Option.bind_some]
  refine⟨_,rfl,rfl,rfl,λh0 h1 h2=>?_⟩
  show 0≤(if t<0 then 0 else if l.Positions<t then l.Positions else t)∧_≤l.Positions
  split
  ·exact⟨Int.le_refl _,h0⟩
  ·split
   ·exact⟨h0,Int.le_refl _⟩
   ·exact⟨by omega,show t≤_ by omega⟩
theorem Xv (N:Nat) (l:A7) (g:Ax):Df (Ig N l g):=by
 unfold Ig
 cases g.Stuck
 ·obtain⟨a,ha⟩:=PV N g.Target g.Pos
  obtain⟨b,hb⟩:=PV N 0 l.Speed
  rw[cond_false,ha,Option.bind_some,hb,Option.bind_some,N1,Option.bind_some]
  obtain⟨c,hc⟩:=Tj N g.Pos (if a<b then b else if l.Speed<a then l.Speed else a)
  rw[hc]
  exact⟨_,rfl⟩
 ·exact⟨_,rfl⟩
theorem Uy (N:Nat) (l:A7) (g:Ax) (v:Int):∃g',HX N l g v=some g'∧g'.Pos=g.Pos∧(l.Kind≠3→g'=g):=by
 unfold HX
 by_cases h3:l.Kind=3
 ·rw[show decide (l.Kind≠3)=false by simp [h3],cond_false]
  cases decide (l.Prime≤v)
  ·cases decide (v≤l.Break)<;>exact⟨_,rfl,rfl,λh=>absurd h3 h⟩
  ·exact⟨_,rfl,rfl,λh=>absurd h3 h⟩
 ·rw[show decide (l.Kind≠3)=true by simp [h3],cond_true]
  exact⟨g,rfl,rfl,λ_=>rfl⟩
def gF (N:Nat) (l:A7) (g:Ax) (k:Int):Ax:=(H3 N l g k).getD g
def gA (N:Nat) (l:A7) (g:Ax) (k:Int):Ax:=(JM N l g k).getD g
def gM (N:Nat) (l:A7) (g:Ax):Ax:=(Ig N l g).getD g
def gS (N:Nat) (l:A7) (g:Ax) (v:Int):Ax:=(HX N l g v).getD g
theorem dS (N:Nat) (l:A7) (g:Ax) (k:Int):H3 N l g k=some (gF N l g k)∧(gF N l g k).Pos=g.Pos∧(gF N l g k).Target=g.Target:=by
 obtain⟨g',e,h⟩:=WT N l g k
 unfold gF;rw[e];exact⟨rfl,h⟩
theorem dT (N:Nat) (l:A7) (g:Ax) (k:Int):JM N l g k=some (gA N l g k)∧(gA N l g k).Pos=g.Pos∧(gA N l g k).Stuck=g.Stuck∧(0≤l.Positions→0≤g.Target→g.Target≤l.Positions→0≤(gA N l g k).Target∧(gA N l g k).Target≤l.Positions):=by
 obtain⟨g',e,h⟩:=aL N l g k
 unfold gA;rw[e];exact⟨rfl,h⟩
theorem dR (N:Nat) (l:A7) (g:Ax):Ig N l g=some (gM N l g):=by
 obtain⟨g',e⟩:=Xv N l g
 unfold gM;rw[e];rfl
theorem dQ (N:Nat) (l:A7) (g:Ax) (v:Int):HX N l g v=some (gS N l g v)∧(gS N l g v).Pos=g.Pos∧(l.Kind≠3→gS N l g v=g):=by
 obtain⟨g',e,h⟩:=Uy N l g v
 unfold gS;rw[e];exact⟨rfl,h⟩
def Xh (N:Nat) (l:A7) (k:Nat) (fs:List Ju) (g:Ax):Ax:=fs.foldl (λg f=>if f.Link=(k:Int) then gF N l g f.Kind else g) g
def stA (N:Nat) (l:A7) (k:Nat) (cs:List O9) (g:Ax):Ax:=cs.foldl (λg c=>if c.Link=(k:Int) then gA N l g c.Target else g) g
theorem PZ {N:Nat}{l:A7}{k:Nat}{fs:List Ju}{g:Ax}{i:Nat}(h:i<fs.length):Xh N l k (fs.take (i+1)) g=if fs[i].Link=(k:Int) then gF N l (Xh N l k (fs.take i) g) fs[i].Kind else Xh N l k (fs.take i) g:=by
 unfold Xh;rw[List.take_succ_eq_append_getElem h,List.foldl_append];rfl
theorem Pa {N:Nat}{l:A7}{k:Nat}{cs:List O9}{g:Ax}{i:Nat}(h:i<cs.length):stA N l k (cs.take (i+1)) g=if cs[i].Link=(k:Int) then gA N l (stA N l k (cs.take i) g) cs[i].Target else stA N l k (cs.take i) g:=by
 unfold stA;rw[List.take_succ_eq_append_getElem h,List.foldl_append];rfl
def Uq (L:Nat) (gs:List Ax) (g:Nat→Ax):Prop:=gs.length=L∧∀k,k<L→gs[k]? =some (g k)
theorem Uq.ix {L:Nat}{gs:List Ax}{g:Nat→Ax}(h:Uq L gs g) {k:Nat}(hk:k<L):ix gs (k:Int)=some (g k):=by
 have:=h.2 k hk
 simp [Go.Proofs.YtblcgjadhemlbaaGreat.ix,this]
theorem Uq.upd {L:Nat}{gs:List Ax}{g g':Nat→Ax}(h:Uq L gs g) {j:Nat}(hj:j<L) (x:Ax) (h1:g' j=x) (h2:∀k,k<L→k≠j→g' k=g k):Uq L (upd gs (j:Int) x) g':=
 ⟨by rw[L7];exact h.1,λk hk=>by
  by_cases e:j=k
  ·subst e;rw[Fo (by rw[h.1];exact hj),h1]
  ·rw[Hx e,h.2 k hk,h2 k hk λh=>e h.symm]⟩
theorem Uq.congr {L:Nat}{gs:List Ax}{g g':Nat→Ax}(h:Uq L gs g) (e:∀k,k<L→g' k=g k):Uq L gs g':=⟨h.1,λk hk=>by rw[h.2 k hk,e k hk]⟩
def UJ (b:AX) (k:Nat):A7:=b.Links.getD k default
theorem Pq {b:AX}{k:Nat}(h:k<b.Links.length):UJ b k=b.Links[k]:=by unfold UJ;simp [List.getD_eq_getElem?_getD,h]
theorem bK {α}{l:List α}{i:Int}(h0:0≤i) (h1:i<l.length):∃n:Nat,i=(n:Int)∧n<l.length:=⟨i.toNat,by omega,by omega⟩
theorem Nt {i:Int}{n:Nat}:(decide (0≤i)&&decide (i<(n:Int)))=true↔0≤i∧i<n:=by simp
theorem WB {N:Nat}(hN:1000000<N) {w:Aq}{b:AX}(hwb:w.b=b) (hL:b.Links.length≤1000) (hf:w.in_.Faults.length≤1000) (hc:w.in_.Cmds.length≤1000) {g0:Nat→Ax}(h0:Uq b.Links.length w.s.Gates g0):
  ∃gs,HO N w=some gs∧Uq b.Links.length gs (λk=>gM N (UJ b k) (stA N (UJ b k) k w.in_.Cmds (Xh N (UJ b k) k w.in_.Faults (g0 k)))):=by
 subst hwb
 unfold HO
 obtain⟨s1,i1,e1⟩:=DZ w.in_.Faults.length (λn i s=>CT N w (Ch N w) n i s) (Ch N w) (λi s=>Uq w.b.Links.length s (λk=>Xh N (UJ w.b k) k (w.in_.Faults.take i) (g0 k))) (λn k s hk=>by
  simp only[CT];rw[Eh hk];rfl) (λn i s hi hk=>by
  simp only[CT,GC]
  rw[Ee hk,cond_true,BI hk,Option.bind_some,Ms,Option.bind_some,BF (by omega)]
  cases hr:(decide (0≤w.in_.Faults[i].Link)&&decide (w.in_.Faults[i].Link<(w.b.Links.length:Int)))
  ·refine⟨s,hi.congr λk hkl=>?_,rfl⟩
   rw[PZ hk,if_neg]
   intro e
   rw[e] at hr
   simp [hkl] at hr
  ·obtain⟨r1,r2⟩:=Nt.1 hr
   obtain⟨j,hj,hjl⟩:=bK r1 r2
   rw[cond_true,hj,BI hjl]
   simp only[hi.ix hjl,Option.bind_some]
   rw[(dS N _ _ _).1,Option.bind_some]
   refine⟨_,hi.upd hjl _ ?_ λk hkl hne=>?_,rfl⟩
   ·rw[PZ hk,if_pos hj,Pq hjl]
   ·rw[PZ hk,if_neg (by rw[hj];omega)]) N 0 w.s.Gates h0 (by omega) (Nat.zero_le _)
 rw[show CT N w (Ch N w) N 0 w.s.Gates=Ch N w s1 from e1]
 rw[List.take_length] at i1
 unfold Ch
 obtain⟨s2,i2,e2⟩:=DZ w.in_.Cmds.length (λn i s=>CS N w (Cg N w) n i s) (Cg N w) (λi s=>Uq w.b.Links.length s (λk=>stA N (UJ w.b k) k (w.in_.Cmds.take i) (Xh N (UJ w.b k) k w.in_.Faults (g0 k)))) (λn k s hk=>by
  simp only[CS];rw[Eh hk];rfl) (λn i s hi hk=>by
  simp only[CS,GB]
  rw[Ee hk,cond_true,BI hk,Option.bind_some,Ms,Option.bind_some,BF (by omega)]
  cases hr:(decide (0≤w.in_.Cmds[i].Link)&&decide (w.in_.Cmds[i].Link<(w.b.Links.length:Int)))
  ·refine⟨s,hi.congr λk hkl=>?_,rfl⟩
   rw[Pa hk,if_neg]
   intro e
   rw[e] at hr
   simp [hkl] at hr
  ·obtain⟨r1,r2⟩:=Nt.1 hr
   obtain⟨j,hj,hjl⟩:=bK r1 r2
   rw[cond_true,hj,BI hjl]
   simp only[hi.ix hjl,Option.bind_some]
   rw[(dT N _ _ _).1,Option.bind_some]
   refine⟨_,hi.upd hjl _ ?_ λk hkl hne=>?_,rfl⟩
   ·rw[Pa hk,if_pos hj,Pq hjl]
   ·rw[Pa hk,if_neg (by rw[hj];omega)]) N 0 s1 i1 (by omega) (Nat.zero_le _)
 rw[show CS N w (Cg N w) N 0 s1=Cg N w s2 from e2]
 rw[List.take_length] at i2
 unfold Cg
 obtain⟨s3,i3,e3⟩:=DZ w.b.Links.length (λn i s=>Dd N w n i s) (λs=>some s) (λi s=>Uq w.b.Links.length s (λk=>if k<i then gM N (UJ w.b k) (stA N (UJ w.b k) k w.in_.Cmds (Xh N (UJ w.b k) k w.in_.Faults (g0 k))) else stA N (UJ w.b k) k w.in_.Cmds (Xh N (UJ w.b k) k w.in_.Faults (g0 k)))) (λn k s hk=>by
  simp only[Dd];rw[Eh hk];rfl) (λn i s hi hk=>by
  simp only[Dd]
  rw[Ee hk,cond_true,BI hk]
  simp only[hi.ix hk,Option.bind_some]
  rw[dR,Option.bind_some,BF (by omega),if_neg (Nat.lt_irrefl i)]
  refine⟨_,hi.upd hk _ ?_ λk hkl hne=>?_,rfl⟩
  ·rw[if_pos (Nat.lt_succ_self i),Pq hk]
  ·by_cases h:k<i
   ·rw[if_pos h,if_pos (by omega)]
   ·rw[if_neg h,if_neg (by omega)]) N 0 s2 (i2.congr λk _=>by rw[if_neg (Nat.not_lt_zero k)]) (by omega) (Nat.zero_le _)
 exact⟨s3,e3,i3.congr λk hk=>by rw[if_pos hk]⟩
end Go.Proofs.YtblcgjadhemlbaaGreat
