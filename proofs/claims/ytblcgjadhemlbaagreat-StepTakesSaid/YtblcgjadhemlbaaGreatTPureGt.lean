import Derived.Test.YtblcgjadhemlbaaGreatTPureRight2
import Derived.Test.YtblcgjadhemlbaaGreatTPureRight
namespace Go.Proofs.YtblcgjadhemlbaaGreat
open Go.RowKit
set_option linter.unusedVariables false
set_option linter.unusedSimpArgs false
theorem Wh (N:Nat) (n z:Int):EE N n z=some (Wg n 0 (BM (z-1))):=rfl
structure R4 (b:AW) (t:Lz):Prop where
 place:0≤t.Place∧t.Place<b.Places.length
 flood:Io t.Flood
 lead:0≤t.Lead∧t.Lead≤24
 watch:Io t.Watch
 quorum:0≤t.Quorum∧t.Quorum≤128
theorem Vz {N:Nat}(hN:1000<N) (b:AW) (hb:Ho b):∃v,Gt N b=some v∧(v=true→∀t∈b.Towns,R4 b t):=by
 have q3:=hb.pl
 have q5:=hb.to
 have q8:=hb.sh
 have hj:Df (DL N b):=by
  unfold DL
  rcases IJ b.Shelters.length (DJ N b (Eg N)) (Eg N) (λ_=>True) (λn k h=>by
   simp only[DJ];rw[E0 h];rfl) (λn k h=>by
   simp only[DJ]
   rw[Eu h,cond_true,BH h]
   simp only[Option.bind_some,NF,BL (show k<4611686018427387904 by omega)]
   cases Wg (b.Shelters[k]).Room 0 1073741824
   ·exact .inl rfl
   ·exact .inr ⟨trivial,rfl⟩) N 0 (by omega) (Nat.zero_le _) with h|⟨_,h⟩
  ·exact⟨_,h⟩
  ·exact⟨true,h⟩
 unfold Gt
 rcases IJ b.Towns.length (DK N b (DL N b)) (DL N b) (λi=>∀t,b.Towns[i]? =some t→R4 b t) (λn k h=>by
  simp only[DK];rw[E0 h];rfl) (λn k h=>by
  simp only[DK]
  rw[Eu h,cond_true,BH h]
  simp only[Option.bind_some,NF,LZ,Pu N _ (show b.Places.length<4611686018427387904 by omega),FX,Kp,BL (show k<4611686018427387904 by omega)]
  generalize hB:(_|| !Wg (b.Towns[k]).Quorum 0 128)=B
  cases B
  ·simp only[Bool.or_eq_false_iff,Bool.not_eq_false'] at hB
   obtain⟨⟨⟨⟨⟨h1,h2⟩,h3⟩,h4⟩,h5⟩,h6⟩:=hB
   refine .inr ⟨λt ht=>?_,rfl⟩
   have:t=b.Towns[k]:=by simpa [h] using ht.symm
   rw[this]
   have i1:=KM h1
   exact⟨⟨i1.1,by omega⟩,ME h2,KM h3,ME h5,KM h6⟩
  ·exact .inl rfl) N 0 (by omega) (Nat.zero_le _) with h|⟨hp,h⟩
 ·exact⟨false,h,λh=>by cases h⟩
 ·obtain⟨v,hv⟩:=hj
  refine⟨v,h.trans hv,λ_ t ht=>?_⟩
  obtain⟨i,hi,rfl⟩:=List.mem_iff_getElem.1 ht
  exact hp i (Nat.zero_le _) hi _ (by simp [hi])
theorem VS {N:Nat}(hN:1000<N) (b:AW) (hb:Ho b):Df (GW N b):=by
 have q6:=hb.ga
 unfold GW
 rcases IJ b.Gauges.length (DD N b (ET N)) (ET N) (λ_=>True) (λn k h=>by
  simp only[DD];rw[E0 h];rfl) (λn k h=>by
  simp only[DD]
  rw[Eu h,cond_true,BH h]
  simp only[Option.bind_some,NF,Wh,FX,Kp,BL (show k<4611686018427387904 by omega)]
  generalize hB:(_|| !Wg (b.Gauges[k]).Drift 0 1440)=B
  cases B
  ·simp only[Bool.or_eq_false_iff,Bool.not_eq_false'] at hB
   have i1:=KM hB.1.1
   obtain⟨z,hz⟩:=Df.ix (l:=[(b.Places.length:Int),b.Cells,(b.Links.length:Int)]) (i:=(b.Gauges[k]).Kind) i1.1 (by simp;omega)
   rw[hz]
   simp only[cond_false,Option.bind_some]
   cases Wg (b.Gauges[k]).Target 0 (BM (z-1))
   ·exact .inl rfl
   ·exact .inr ⟨trivial,rfl⟩
  ·exact .inl rfl) N 0 (by omega) (Nat.zero_le _) with h|⟨_,h⟩
 ·exact⟨_,h⟩
 ·exact⟨true,h⟩
theorem WI {N:Nat}(hN:1000<N) (b:AW) (hb:Ho b):Df (Gu N b):=by
 have q7:=hb.ro
 unfold Gu
 rcases IJ b.Roads.length (DM N b (Eh N)) (Eh N) (λ_=>True) (λn k h=>by
  simp only[DM];rw[E0 h];rfl) (λn k h=>by
  simp only[DM]
  rw[Eu h,cond_true,BH h]
  simp only[Option.bind_some,NF,LZ,Wh,FX,Kp,Ry,BL (show k<4611686018427387904 by omega)]
  generalize (_|| !Q0 (b.Roads[k]).Limit)=B
  cases B
  ·simp only[cond_false]
   generalize ((decide ((b.Roads[k]).By= -1)&&decide ((b.Roads[k]).Limit≠0))||_)=B2
   cases B2
   ·exact .inr ⟨trivial,rfl⟩
   ·exact .inl rfl
  ·exact .inl rfl) N 0 (by omega) (Nat.zero_le _) with h|⟨_,h⟩
 ·exact⟨_,h⟩
 ·exact⟨true,h⟩
structure KY (b:AW):Prop where
 head:Ho b
 places:∀p∈b.Places,Ij b p
 links:∀l∈b.Links,Jf b l
 towns:∀t∈b.Towns,R4 b t
theorem chainB {b:Bool}{x:Option Bool}{f:Bool→Option Bool}(Q:Prop) {G:Option Bool→Prop}(h:b=true→∃v,x=some v∧(v=true→Q)) (k:∀c,(c=true→b=true∧Q)→G (f c)):G (Option.bind (cond b (Option.bind x λy=>some y) (some false)) f):=by
 cases b
 ·exact k false λh=>by cases h
 ·obtain⟨v,hv,hq⟩:=h rfl
  rw[hv]
  exact k v λhc=>⟨rfl,hq hc⟩
theorem Df.q {x:Option Bool}(h:Df x):∃v,x=some v∧(v=true→True):=by obtain⟨v,hv⟩:=h;exact⟨v,hv,λ_=>trivial⟩
theorem WL {N:Nat}(hN:18446744073709551616<N) (b:AW):∃v,IG N b=some v∧(v=true→KY b):=by
 have hN2:1000<N:=by omega
 unfold IG
 obtain⟨v0,e0,p0⟩:=YJ hN2 b
 rw[e0]
 simp only[Option.bind_some]
 refine chainB True (G:=λx=>∃v,x=some v∧(v=true→KY b)) (λh=>(WU hN2 (p0 h)).q) λc1 h1=>?_
 refine chainB (∀p∈b.Places,Ij b p) (G:=λx=>∃v,x=some v∧(v=true→KY b)) (λh=>VL hN2 b (p0 (h1 h).1)) λc2 h2=>?_
 have d2:c2=true→Ho b∧∀p∈b.Places,Ij b p:=λh=>⟨p0 (h1 (h2 h).1).1,(h2 h).2⟩
 refine chainB (∀l∈b.Links,Jf b l) (G:=λx=>∃v,x=some v∧(v=true→KY b)) (λh=>WW hN b (d2 h).1) λc3 h3=>?_
 have d3:c3=true→Ho b∧(∀p∈b.Places,Ij b p)∧∀l∈b.Links,Jf b l:=λh=>⟨(d2 (h3 h).1).1,(d2 (h3 h).1).2,(h3 h).2⟩
 refine chainB True (G:=λx=>∃v,x=some v∧(v=true→KY b)) (λh=>(Tn hN2 b (d3 h).1 (d3 h).2.1 (d3 h).2.2).q) λc4 h4=>?_
 refine chainB True (G:=λx=>∃v,x=some v∧(v=true→KY b)) (λh=>(VD hN b (d3 (h4 h).1).1 (d3 (h4 h).1).2.1 (d3 (h4 h).1).2.2).q) λc5 h5=>?_
 refine chainB (∀t∈b.Towns,R4 b t) (G:=λx=>∃v,x=some v∧(v=true→KY b)) (λh=>Vz hN2 b (d3 (h4 (h5 h).1).1).1) λc6 h6=>?_
 refine chainB True (G:=λx=>∃v,x=some v∧(v=true→KY b)) (λh=>(VS hN2 b (d3 (h4 (h5 (h6 h).1).1).1).1).q) λc7 h7=>?_
 refine chainB True (G:=λx=>∃v,x=some v∧(v=true→KY b)) (λh=>(WI hN2 b (d3 (h4 (h5 (h6 (h7 h).1).1).1).1).1).q) λc8 h8=>?_
 refine⟨c8,rfl,λh=>?_⟩
 have d:=d3 (h4 (h5 (h6 (h7 (h8 h).1).1).1).1).1
 exact⟨d.1,d.2.1,d.2.2,(h6 (h7 (h8 h).1).1).2⟩
end Go.Proofs.YtblcgjadhemlbaaGreat
namespace Go.Proofs.YtblcgjadhemlbaaGreat
open Go.RowKit
set_option linter.unusedVariables false
set_option linter.unusedSimpArgs false
theorem D8 {σ β:Type}(L:Nat) (f:Nat→Int→σ→Option β) (kj:σ→Option β) (I:Nat→σ→Prop) (hstop:∀n (k:Nat) s,L≤k→f (n+1) (k:Int) s=kj s) (hstep:∀n (k:Nat) s,I k s→k<L→∃s',I (k+1) s'∧f (n+1) (k:Int) s=f n ((k+1:Nat):Int) s'):
  ∀n (k:Nat) s,I k s→L<n+k→k≤L→∃s',I L s'∧f n (k:Int) s=kj s'
 |0,k,s,_,h,hk=>by omega
 |n+1,k,s,hi,h,hk=>by
  rcases Nat.lt_or_ge k L with hl|hl
  ·obtain⟨s1,i1,h1⟩:=hstep n k s hi hl
   obtain⟨s2,i2,h2⟩:=D8 L f kj I hstop hstep n (k+1) s1 i1 (by omega) (by omega)
   exact⟨s2,i2,h1.trans h2⟩
  ·have:k=L:=by omega
   subst this
   exact⟨s,hi,hstop n k s hl⟩
theorem Lh {σ β:Type}(L:Nat) (f:Nat→Int→σ→Option β) (kj:σ→Option β) (x0:Option β) (I:Nat→σ→Prop) (hstop:∀n (k:Nat) s,L≤k→f (n+1) (k:Int) s=kj s) (hstep:∀n (k:Nat) s,I k s→k<L→f (n+1) (k:Int) s=x0∨∃s',I (k+1) s'∧f (n+1) (k:Int) s=f n ((k+1:Nat):Int) s'):
  ∀n (k:Nat) s,I k s→L<n+k→k≤L→f n (k:Int) s=x0∨∃s',I L s'∧f n (k:Int) s=kj s'
 |0,k,s,_,h,hk=>by omega
 |n+1,k,s,hi,h,hk=>by
  rcases Nat.lt_or_ge k L with hl|hl
  ·rcases hstep n k s hi hl with h0|⟨s1,i1,h1⟩
   ·exact .inl h0
   ·rcases Lh L f kj x0 I hstop hstep n (k+1) s1 i1 (by omega) (by omega) with h2|⟨s2,i2,h2⟩
    ·exact .inl (h1.trans h2)
    ·exact .inr ⟨s2,i2,h1.trans h2⟩
  ·have:k=L:=by omega
   subst this
   exact .inr ⟨s,hi,hstop n k s hl⟩
theorem Jw {l:List Int}{k:Nat}(h:k<l.length):(l.take (k+1)).sum=(l.take k).sum+l[k]:=by
 rw[List.take_succ_eq_append_getElem h,List.sum_append];simp
theorem Ip:∀{l:List Int},(∀x∈l,0≤x)→0≤l.sum
 |[],_=>by simp
 |a::l,h=>by
  have h1:=h a (List.mem_cons_self ..)
  have h2:=Ip (l:=l) λx hx=>h x (List.mem_cons_of_mem _ hx)
  simp only[List.sum_cons];omega
theorem Hp {l:List Int}(h:∀x∈l,0≤x) (k:Nat):0≤(l.take k).sum∧(l.take k).sum≤l.sum:=by
 have h1:=Ip (l:=l.take k) λx hx=>h x (List.mem_of_mem_take hx)
 have h2:=Ip (l:=l.drop k) λx hx=>h x (List.mem_of_mem_drop hx)
 have h3:(l.take k).sum+(l.drop k).sum=l.sum:=by rw[←List.sum_append,List.take_append_drop]
 omega
theorem Xa (N:Nat) {a b:Int}(h1: -4611686018427387903≤a) (h2:a≤4611686018427387903) (h3: -4611686018427387903≤b) (h4:b≤4611686018427387903):Ff N a b=some (a+b):=by
 unfold Ff
 have e3:BM (a+b)=a+b:=Dm (by omega) (by omega)
 by_cases hb:0<b
 ·have e1:BM (9223372036854775807-b)=9223372036854775807-b:=Dm (by omega) (by omega)
  rw[e1,e3]
  have c1:decide (9223372036854775807-b<a)=false:=by simp;omega
  have c2:decide (b<0)=false:=by simp;omega
  rw[c1,c2];simp
 ·have c1:decide (0<b)=false:=by simp;omega
  rw[c1]
  by_cases hb2:b<0
  ·have e2:BM (-9223372036854775808-b)= -9223372036854775808-b:=Dm (by omega) (by omega)
   have c2:decide (a< -9223372036854775808-b)=false:=by simp;omega
   rw[e2,e3,c2];simp
  ·have c2:decide (b<0)=false:=by simp;omega
   rw[c2,e3];simp
theorem Jk {α}{l:List α}{k:Nat}(h:k<l.length) {P:α→Prop}(h1:∀x∈l.take k,P x) (h2:P l[k]):∀x∈l.take (k+1),P x:=by
 intro x hx
 rw[List.take_succ_eq_append_getElem h,List.mem_append] at hx
 rcases hx with hx|hx
 ·exact h1 x hx
 ·simp only[List.mem_singleton] at hx;subst hx;exact h2
theorem OI {α}{f:α→Int}{l:List α}{k:Nat}(h:k<l.length):((l.take (k+1)).map f).sum=((l.take k).map f).sum+f l[k]:=by
 rw[List.take_succ_eq_append_getElem h,List.map_append,List.sum_append];simp
theorem RS {α}{f:α→Int}{l:List α}(h:∀x∈l,0≤f x):0≤(l.map f).sum:=Ip λy hy=>by
 obtain⟨x,hx,rfl⟩:=List.mem_map.1 hy;exact h x hx
theorem Jb {n by_:Nat}(h:n*by_≤140737488355328) {α}(x:Option α):chk (KR n by_) x=x:=by
 unfold chk KR;rw[decide_eq_true h];rfl
theorem PD {β:Type}(L:Nat) (f:Nat→Int→Option β) (kj:Option β) (hstop:∀n (k:Nat),L≤k→f (n+1) (k:Int)=kj) (hstep:∀n (k:Nat),k<L→f (n+1) (k:Int)=f n ((k+1:Nat):Int)):
  ∀n (k:Nat),L<n+k→k≤L→f n (k:Int)=kj
 |0,k,h,hk=>by omega
 |n+1,k,h,hk=>by
  rcases Nat.lt_or_ge k L with hl|hl
  ·rw[hstep n k hl];exact PD L f kj hstop hstep n (k+1) (by omega) (by omega)
  ·exact hstop n k hl
end Go.Proofs.YtblcgjadhemlbaaGreat
namespace Go.Proofs.YtblcgjadhemlbaaGreat
open Go.RowKit
set_option linter.unusedVariables false
set_option linter.unusedSimpArgs false
theorem YO {t t' n d:Int}(hd:0≤d) (hn:0≤n) (ht:t≤t'):t*n/d≤t'*n/d:=by
 rcases Int.lt_or_eq_of_le hd with h|h
 ·exact Int.ediv_le_ediv h (Int.mul_le_mul_of_nonneg_right ht hn)
 ·rw[←h];simp
theorem Sy {t n d:Int}(hd:0≤d) (hn:0≤n) (ht:0≤t):0≤t*n/d:=Int.ediv_nonneg (Int.mul_nonneg ht hn) hd
theorem Wm {t n d:Int}(hd:0≤d) (h:n≤d) (ht:0≤t):t*n/d≤t:=by
 rcases Int.lt_or_eq_of_le hd with h0|h0
 ·refine Int.ediv_le_of_le_mul h0 (Int.mul_le_mul_of_nonneg_left h ht)
 ·rw[←h0];simp [ht]
def iE (e:List BT):Prop:=∀k l r,e[k]? =some l→e[k+1]? =some r→l.X<r.X∧l.Y≤r.Y
theorem Y2 {c:List BT}(h:H3 c) {k:Nat}{p q:BT}(hp:c[k]? =some p) (hq:c[k+1]? =some q):p.X<q.X∧p.Y≤q.Y:=(h.2.2 (k+1) q hq).2.2 p (by omega) hp
theorem iE.mono {e:List BT}(h:iE e) {i:Nat}:∀{j:Nat}{a b:BT},i≤j→e[i]? =some a→e[j]? =some b→a.X≤b.X∧a.Y≤b.Y∧(i<j→a.X<b.X)
 |j,a,b,hij,ha,hb=>by
  rcases Nat.lt_or_ge i j with hlt|hge
  ·obtain⟨j,rfl⟩:∃m,j=m+1:=⟨j-1,by omega⟩
   have hj:=(List.getElem?_eq_some_iff.1 hb).1
   obtain⟨c,hc⟩:∃c,e[j]? =some c:=⟨e[j],by simp [show j<e.length by omega]⟩
   have h1:=iE.mono h (j:=j) (by omega) ha hc
   have h2:=h j c b hc hb
   exact⟨by omega,by omega,λ_=>by omega⟩
  ·have:i=j:=by omega
   subst this
   rw[ha] at hb
   cases hb
   exact⟨Int.le_refl _,Int.le_refl _,λh=>by omega⟩
structure gZ (e:List BT) (x:Int) (k:Nat) (l r:BT):Prop where
 l_:e[k]? =some l
 r_:e[k+1]? =some r
 lo:l.X≤x
 hi:x<r.X
def Ok (l r:BT) (x:Int):Int:=l.Y+(x-l.X)*(r.Y-l.Y)/(r.X-l.X)
def VA (l r:BT) (x:Int):Int:=(x-l.X)*(r.Y-l.Y)%(r.X-l.X)
theorem gZ.bounds {e:List BT}(h:iE e) {x:Int}{k:Nat}{l r:BT}(a:gZ e x k l r):l.Y≤Ok l r x∧Ok l r x≤r.Y:=by
 have h1:=h k l r a.l_ a.r_
 have h2:=a.lo
 have h3:=a.hi
 have h4:=Sy (t:=x-l.X) (n:=r.Y-l.Y) (d:=r.X-l.X) (by omega) (by omega) (by omega)
 have h5:(x-l.X)*(r.Y-l.Y)/(r.X-l.X)≤r.Y-l.Y:=by
  refine Int.ediv_le_of_le_mul (by omega) ?_
  rw[Int.mul_comm]
  exact Int.mul_le_mul_of_nonneg_left (by omega) (by omega)
 unfold Ok
 omega
theorem gZ.mono {e:List BT}(h:iE e) {x x':Int}{k k':Nat}{l r l' r':BT}(a:gZ e x k l r) (b:gZ e x' k' l' r') (hx:x≤x'):Ok l r x≤Ok l' r' x':=by
 rcases Nat.lt_trichotomy k k' with hlt|heq|hgt
 ·have h1:=h.mono (show k+1≤k' by omega) a.r_ b.l_
  have h2:=(a.bounds h).2
  have h3:=(b.bounds h).1
  omega
 ·subst heq
  have e1:=a.l_.symm.trans b.l_
  have e2:=a.r_.symm.trans b.r_
  cases e1;cases e2
  have h1:=h k l r a.l_ a.r_
  have:=YO (t:=x-l.X) (t':=x'-l.X) (n:=r.Y-l.Y) (d:=r.X-l.X) (by omega) (by omega) (by omega)
  unfold Ok
  omega
 ·have h1:=h.mono (show k'+1≤k by omega) b.r_ a.l_
  have h2:=a.lo
  have h3:=b.hi
  omega
def jT (e:List BT) (s:Int):Prop:=∀k l r,e[k]? =some l→e[k+1]? =some r→(r.Y-l.Y)*1099511627776≤s*(r.X-l.X)
theorem jT.mono {e:List BT}{s:Int}(h:jT e s) {i:Nat}:∀{j:Nat}{a b:BT},i≤j→e[i]? =some a→e[j]? =some b→(b.Y-a.Y)*1099511627776≤s*(b.X-a.X)
 |j,a,b,hij,ha,hb=>by
  rcases Nat.lt_or_ge i j with hlt|hge
  ·obtain⟨j,rfl⟩:∃m,j=m+1:=⟨j-1,by omega⟩
   have hj:=(List.getElem?_eq_some_iff.1 hb).1
   obtain⟨c,hc⟩:∃c,e[j]? =some c:=⟨e[j],by simp [show j<e.length by omega]⟩
   have h1:=jT.mono h (j:=j) (by omega) ha hc
   have h2:=h j c b hc hb
   grind
  ·have:i=j:=by omega
   subst this
   rw[ha] at hb
   cases hb
   grind
theorem Zx {a n d:Int}(h1:0≤a∧a≤1125899906842624) (h2:0≤n∧n≤1125899906842624) (h3:1≤d∧d≤1125899906842624) (h4:a*n/d≤1125899906842624):iM a n d=(a*n/d,a*n%d,true):=by
 unfold iM
 rw[if_pos ⟨h1,h2,h3,h4⟩]
def Sr (l r:BT) (x:Int):Int:=l.Y*(r.X-l.X)+(x-l.X)*(r.Y-l.Y)
theorem QZ {l r:BT}(h:l.X<r.X) (x:Int):Ok l r x*(r.X-l.X)+VA l r x=Sr l r x:=by
 have:=Int.ediv_mul_add_emod ((x-l.X)*(r.Y-l.Y)) (r.X-l.X)
 unfold Ok VA Sr
 grind
theorem T9 {l r:BT}(h:l.X<r.X) (x:Int):0≤VA l r x∧VA l r x<r.X-l.X:=⟨Int.emod_nonneg _ (by omega),Int.emod_lt_of_pos _ (by omega)⟩
def Ze (l r l' r':BT) (x:Int):Prop:=Sr l r x*(r'.X-l'.X)≤Sr l' r' x*(r.X-l.X)
theorem Ze.mid {l r l' r':BT}{x u v:Int}(h1:Ze l r l' r' u) (h2:Ze l r l' r' v) (hu:u≤x) (hv:x≤v) (huv:u<v):Ze l r l' r' x:=by
 unfold Ze Sr at*
 have a1:=Int.mul_le_mul_of_nonneg_right h1 (show 0≤v-x by omega)
 have a2:=Int.mul_le_mul_of_nonneg_right h2 (show 0≤x-u by omega)
 refine Int.le_of_mul_le_mul_right (a:=v-u) ?_ (by omega)
 grind
theorem Ze.val {l r l' r':BT}{x:Int}(h:Ze l r l' r' x) (hl:l.X<r.X) (hl':l'.X<r'.X):Ok l r x≤Ok l' r' x:=by
 have e1:=QZ hl x
 have e2:=QZ hl' x
 have m1:=T9 hl x
 have m2:=T9 hl' x
 unfold Ze at h
 rw[←e1,←e2] at h
 refine Int.not_lt.1 λhc=>?_
 generalize Ok l r x=a at*
 generalize Ok l' r' x=b at*
 generalize VA l r x=m at*
 generalize VA l' r' x=m' at*
 have d1:0<r.X-l.X:=by omega
 have d2:0<r'.X-l'.X:=by omega
 generalize r.X-l.X=d at*
 generalize r'.X-l'.X=d' at*
 have q1:(b+1)*(d*d')≤a*(d*d'):=Int.mul_le_mul_of_nonneg_right (by omega) (Int.mul_nonneg (by omega) (by omega))
 have q2:0≤m*d':=Int.mul_nonneg m1.1 (by omega)
 have q3:m'*d<d'*d:=Int.mul_lt_mul_of_pos_right m2.2 d1
 grind
end Go.Proofs.YtblcgjadhemlbaaGreat
namespace Go.Proofs.YtblcgjadhemlbaaGreat
open Go.RowKit
set_option linter.unusedVariables false
set_option linter.unusedSimpArgs false
theorem Tw (N:Nat) (a b:Int):Df (Ff N a b):=by
 unfold Ff;exact Df.cond (λ_=>Df.mk _) λ_=>Df.cond (λ_=>Df.mk _) λ_=>Df.mk _
theorem PZ (N:Nat) (a b:Int):Df (Ge N a b):=by
 unfold Ge;exact Df.cond (λ_=>Df.mk _) λ_=>Df.cond (λ_=>Df.mk _) λ_=>Df.mk _
theorem Jd {k:Nat}(h:k≤1000) (c:Nat) (hc:c≤1000) {α}(x:Option α):chk (JF (k:Int) (k:Int) c) x=x:=by
 have:JF (k:Int) (k:Int) c=true:=by
  simp only[JF,Bool.and_eq_true,decide_eq_true_eq]
  refine⟨⟨by omega,by omega⟩,?_⟩
  have:(c:Int)*(k:Int)≤1000*1000:=Int.mul_le_mul (by omega) (by omega) (by omega) (by omega)
  omega
 rw[this];rfl
theorem kG {α}{l:List α}{i:Nat}(h:i<l.length):∃x,ix l (i:Int)=some x∧x∈l:=⟨l[i],BH h,List.getElem_mem h⟩
theorem YY {α}(l xs:List α):(Mw l xs).length=l.length:=by unfold Mw;simp;omega
theorem XM {α}{l xs:List α}(h:l.length=xs.length):Mw l xs=xs:=by
 unfold Mw;rw[h,List.take_length,List.drop_of_length_le (by omega),List.append_nil]
theorem Le (k:Nat) (z:Int):(List.replicate ((k:Int)).toNat z).length=k:=by simp
theorem Ni {α}(k:Nat) (z:α):(List.replicate ((k:Int)).toNat z).length=k:=by simp
theorem Uq (p:List Int):Mw (List.replicate ((p.length:Int)).toNat (0:Int)) p=p:=XM (by simp)
theorem L3 {α}(l:List α) (i:Int) (x:α):(upd l i x).length=l.length:=by simp [upd]
theorem Kc (N:Nat) {p:List Int}(h:p.length≤1000000):CE N p=some p:=by
 unfold CE
 rw[Jb (by simp;omega)];rfl
theorem Ts (N:Nat) {p:List Ax}(h:p.length≤1000000):B4 N p=some p:=by
 unfold B4
 rw[Jb (by simp;omega)];rfl
theorem WT {N:Nat}(hN:1000000<N) {p q:List Int}(hp:p.length≤1000) (hq:q.length≤1000):∃r,GN N p q=some r∧r.length=max p.length q.length:=by
 unfold GN
 have hm:max (p.length:Int) (q.length:Int)=((max p.length q.length:Nat):Int):=by omega
 rw[hm,Jd (by omega) _ (by decide)]
 obtain⟨s,i1,e⟩:=D8 q.length (λn i s=>Em N q (Gc N) n i s) (Gc N) (λ_ s=>s.length=max p.length q.length) (λn k s hk=>by
  simp only[Em];rw[E0 hk];rfl) (λn k s hi hk=>by
  simp only[Em]
  have hks:k<s.length:=by omega
  obtain⟨v,hv⟩:=Tw N s[k] q[k]
  rw[Eu hk,cond_true,BH hk]
  simp only[BH hks,Option.bind_some]
  rw[hv,Option.bind_some,BL (by omega)]
  exact⟨_,by rw[L3];exact hi,rfl⟩) N 0 (Mw (List.replicate (((max p.length q.length:Nat):Int)).toNat (0:Int)) p) (by rw[YY,Le]) (by omega) (Nat.zero_le _)
 exact⟨s,e,i1⟩
theorem VK {N:Nat}(hN:1000000<N) {p:List Int}(hp:p.length≤1000):∃v,HI N p=some v∧(v=true→(∀x∈p,0≤x)∧p.sum≤1125899906842624):=by
 unfold HI
 rcases Lh p.length (λn i s=>Do N p (Fc N) n s i) (λ_=>Fc N) (some false) (λk s=>(∀x∈p.take k,0≤x)∧s=(p.take k).sum∧s≤1125899906842624∧0≤s) (λn k s hk=>by
  simp only[Do];rw[E0 hk];rfl) (λn k s hi hk=>by
  obtain⟨i1,i2,i3,i4⟩:=hi
  simp only[Do]
  rw[Eu hk,cond_true,BH hk,Option.bind_some,Dm (n:=1125899906842624-s) (by omega) (by omega)]
  cases hb:(decide (p[k]<0)||decide (1125899906842624-s<p[k]))
  ·simp only[Bool.or_eq_false_iff,decide_eq_false_iff_not] at hb
   rw[cond_false,BL (by omega),Dm (n:=s+p[k]) (by omega) (by omega)]
   exact .inr ⟨_,⟨Jk hk i1 (by omega),by rw[Jw hk,i2],by omega,by omega⟩,rfl⟩
  ·exact .inl rfl) N 0 0 ⟨by simp,rfl,by decide,by decide⟩ (by omega) (Nat.zero_le _) with e|⟨s,⟨i1,i2,i3,_⟩,e⟩
 ·exact⟨false,e,λh=>by cases h⟩
 ·rw[List.take_length] at i1 i2
  exact⟨true,e,λ_=>⟨i1,by omega⟩⟩
end Go.Proofs.YtblcgjadhemlbaaGreat
namespace Go.Proofs.YtblcgjadhemlbaaGreat
open Go.RowKit
set_option linter.unusedVariables false
set_option linter.unusedSimpArgs false
theorem Fi {α}{l:List α}{k:Nat}(h:k<l.length) (x:α):(upd l (k:Int) x)[k]? =some x:=by
 simp [upd,h]
theorem Hr {α}{l:List α}{k j:Nat}(h:k≠j) (x:α):(upd l (k:Int) x)[j]? =l[j]? :=by
 simp [upd,List.getElem?_set_ne h]
end Go.Proofs.YtblcgjadhemlbaaGreat
namespace Go.Proofs.YtblcgjadhemlbaaGreat
open Go.RowKit
set_option linter.unusedVariables false
set_option linter.unusedSimpArgs false
theorem Nx (N:Nat) (n lo hi:Int):Gf N n lo hi=some (if n<lo then lo else if hi<n then hi else n):=by
 unfold Gf
 by_cases h1:n<lo
 ·rw[decide_eq_true h1,if_pos h1];rfl
 ·rw[decide_eq_false h1,if_neg h1]
  by_cases h2:hi<n
  ·rw[decide_eq_true h2,if_pos h2];rfl
  ·rw[decide_eq_false h2,if_neg h2];rfl
theorem Mk (N:Nat) (i n:Int):qZ N i n=some (decide (0≤i)&&decide (i<n)):=rfl
theorem Wn (N:Nat) (l:A4) (g:Ax) (k:Int):∃g',Hy N l g k=some g'∧g'.Pos=g.Pos∧g'.Target=g.Target:=by
 have j1:∀c:Bool,∃g',G4 N l g k (Fe N g) c=some g'∧g'.Pos=g.Pos∧g'.Target=g.Target:=λc=>by
  unfold G4
  cases c
  ·exact⟨_,rfl,rfl,rfl⟩
  ·cases decide (l.Kind=5)<;>exact⟨_,rfl,rfl,rfl⟩
 unfold Hy
 cases decide (k=0)
 ·cases decide (k=1)
  ·cases decide (k=2)
   ·exact j1 (decide (k=3))
   ·exact j1 true
  ·exact⟨_,rfl,rfl,rfl⟩
 ·exact⟨_,rfl,rfl,rfl⟩
theorem bD (N:Nat) (l:A4) (g:Ax) (t:Int):∃g',JB N l g t=some g'∧g'.Pos=g.Pos∧g'.Stuck=g.Stuck∧(0≤l.Positions→0≤g.Target→g.Target≤l.Positions→0≤g'.Target∧g'.Target≤l.Positions):=by
 unfold JB
 cases decide (l.Positions≠0)
 ·exact⟨_,rfl,rfl,rfl,λ_ h1 h2=>⟨h1,h2⟩⟩
 ·rw[cond_true,Nx,Option.bind_some]
  refine⟨_,rfl,rfl,rfl,λh0 h1 h2=>?_⟩
  show 0≤(if t<0 then 0 else if l.Positions<t then l.Positions else t)∧_≤l.Positions
  split
  ·exact⟨Int.le_refl _,h0⟩
  ·split
   ·exact⟨h0,Int.le_refl _⟩
   ·exact⟨by omega,show t≤_ by omega⟩
theorem YG (N:Nat) (l:A4) (g:Ax):Df (IY N l g):=by
 unfold IY
 cases g.Stuck
 ·obtain⟨a,ha⟩:=PZ N g.Target g.Pos
  obtain⟨b,hb⟩:=PZ N 0 l.Speed
  rw[cond_false,ha,Option.bind_some,hb,Option.bind_some,Nx,Option.bind_some]
  obtain⟨c,hc⟩:=Tw N g.Pos (if a<b then b else if l.Speed<a then l.Speed else a)
  rw[hc]
  exact⟨_,rfl⟩
 ·exact⟨_,rfl⟩
theorem VE (N:Nat) (l:A4) (g:Ax) (v:Int):∃g',HO N l g v=some g'∧g'.Pos=g.Pos∧(l.Kind≠3→g'=g):=by
 unfold HO
 by_cases h3:l.Kind=3
 ·rw[show decide (l.Kind≠3)=false by simp [h3],cond_false]
  cases decide (l.Prime≤v)
  ·cases decide (v≤l.Break)<;>exact⟨_,rfl,rfl,λh=>absurd h3 h⟩
  ·exact⟨_,rfl,rfl,λh=>absurd h3 h⟩
 ·rw[show decide (l.Kind≠3)=true by simp [h3],cond_true]
  exact⟨g,rfl,rfl,λ_=>rfl⟩
def gF (N:Nat) (l:A4) (g:Ax) (k:Int):Ax:=(Hy N l g k).getD g
def gA (N:Nat) (l:A4) (g:Ax) (k:Int):Ax:=(JB N l g k).getD g
def gM (N:Nat) (l:A4) (g:Ax):Ax:=(IY N l g).getD g
def gS (N:Nat) (l:A4) (g:Ax) (v:Int):Ax:=(HO N l g v).getD g
theorem eI (N:Nat) (l:A4) (g:Ax) (k:Int):Hy N l g k=some (gF N l g k)∧(gF N l g k).Pos=g.Pos∧(gF N l g k).Target=g.Target:=by
 obtain⟨g',e,h⟩:=Wn N l g k
 unfold gF;rw[e];exact⟨rfl,h⟩
theorem eJ (N:Nat) (l:A4) (g:Ax) (k:Int):JB N l g k=some (gA N l g k)∧(gA N l g k).Pos=g.Pos∧(gA N l g k).Stuck=g.Stuck∧(0≤l.Positions→0≤g.Target→g.Target≤l.Positions→0≤(gA N l g k).Target∧(gA N l g k).Target≤l.Positions):=by
 obtain⟨g',e,h⟩:=bD N l g k
 unfold gA;rw[e];exact⟨rfl,h⟩
theorem eH (N:Nat) (l:A4) (g:Ax):IY N l g=some (gM N l g):=by
 obtain⟨g',e⟩:=YG N l g
 unfold gM;rw[e];rfl
theorem eG (N:Nat) (l:A4) (g:Ax) (v:Int):HO N l g v=some (gS N l g v)∧(gS N l g v).Pos=g.Pos∧(l.Kind≠3→gS N l g v=g):=by
 obtain⟨g',e,h⟩:=VE N l g v
 unfold gS;rw[e];exact⟨rfl,h⟩
def X1 (N:Nat) (l:A4) (k:Nat) (fs:List Ji) (g:Ax):Ax:=fs.foldl (λg f=>if f.Link=(k:Int) then gF N l g f.Kind else g) g
def stA (N:Nat) (l:A4) (k:Nat) (cs:List O6) (g:Ax):Ax:=cs.foldl (λg c=>if c.Link=(k:Int) then gA N l g c.Target else g) g
theorem Pc {N:Nat}{l:A4}{k:Nat}{fs:List Ji}{g:Ax}{i:Nat}(h:i<fs.length):X1 N l k (fs.take (i+1)) g=if fs[i].Link=(k:Int) then gF N l (X1 N l k (fs.take i) g) fs[i].Kind else X1 N l k (fs.take i) g:=by
 unfold X1;rw[List.take_succ_eq_append_getElem h,List.foldl_append];rfl
theorem Pd {N:Nat}{l:A4}{k:Nat}{cs:List O6}{g:Ax}{i:Nat}(h:i<cs.length):stA N l k (cs.take (i+1)) g=if cs[i].Link=(k:Int) then gA N l (stA N l k (cs.take i) g) cs[i].Target else stA N l k (cs.take i) g:=by
 unfold stA;rw[List.take_succ_eq_append_getElem h,List.foldl_append];rfl
def U5 (L:Nat) (gs:List Ax) (g:Nat→Ax):Prop:=gs.length=L∧∀k,k<L→gs[k]? =some (g k)
theorem U5.ix {L:Nat}{gs:List Ax}{g:Nat→Ax}(h:U5 L gs g) {k:Nat}(hk:k<L):ix gs (k:Int)=some (g k):=by
 have:=h.2 k hk
 simp [Go.Proofs.YtblcgjadhemlbaaGreat.ix,this]
theorem U5.upd {L:Nat}{gs:List Ax}{g g':Nat→Ax}(h:U5 L gs g) {j:Nat}(hj:j<L) (x:Ax) (h1:g' j=x) (h2:∀k,k<L→k≠j→g' k=g k):U5 L (upd gs (j:Int) x) g':=
 ⟨by rw[L3];exact h.1,λk hk=>by
  by_cases e:j=k
  ·subst e;rw[Fi (by rw[h.1];exact hj),h1]
  ·rw[Hr e,h.2 k hk,h2 k hk λh=>e h.symm]⟩
theorem U5.congr {L:Nat}{gs:List Ax}{g g':Nat→Ax}(h:U5 L gs g) (e:∀k,k<L→g' k=g k):U5 L gs g':=⟨h.1,λk hk=>by rw[h.2 k hk,e k hk]⟩
def UW (b:AW) (k:Nat):A4:=b.Links.getD k default
theorem RW {b:AW}{k:Nat}(h:k<b.Links.length):UW b k=b.Links[k]:=by unfold UW;simp [List.getD_eq_getElem?_getD,h]
theorem cD {α}{l:List α}{i:Int}(h0:0≤i) (h1:i<l.length):∃n:Nat,i=(n:Int)∧n<l.length:=⟨i.toNat,by omega,by omega⟩
theorem No {i:Int}{n:Nat}:(decide (0≤i)&&decide (i<(n:Int)))=true↔0≤i∧i<n:=by simp
theorem WV {N:Nat}(hN:1000000<N) {w:An}{b:AW}(hwb:w.b=b) (hL:b.Links.length≤1000) (hf:w.in_.Faults.length≤1000) (hc:w.in_.Cmds.length≤1000) {g0:Nat→Ax}(h0:U5 b.Links.length w.s.Gates g0):
  ∃gs,HD N w=some gs∧U5 b.Links.length gs (λk=>gM N (UW b k) (stA N (UW b k) k w.in_.Cmds (X1 N (UW b k) k w.in_.Faults (g0 k)))):=by
 subst hwb
 unfold HD
 obtain⟨s1,i1,e1⟩:=D8 w.in_.Faults.length (λn i s=>CR N w (Cg N w) n i s) (Cg N w) (λi s=>U5 w.b.Links.length s (λk=>X1 N (UW w.b k) k (w.in_.Faults.take i) (g0 k))) (λn k s hk=>by
  simp only[CR];rw[E0 hk];rfl) (λn i s hi hk=>by
  simp only[CR,F7]
  rw[Eu hk,cond_true,BH hk,Option.bind_some,Mk,Option.bind_some,BL (by omega)]
  cases hr:(decide (0≤w.in_.Faults[i].Link)&&decide (w.in_.Faults[i].Link<(w.b.Links.length:Int)))
  ·refine⟨s,hi.congr λk hkl=>?_,rfl⟩
   rw[Pc hk,if_neg]
   intro e
   rw[e] at hr
   simp [hkl] at hr
  ·obtain⟨r1,r2⟩:=No.1 hr
   obtain⟨j,hj,hjl⟩:=cD r1 r2
   rw[cond_true,hj,BH hjl]
   simp only[hi.ix hjl,Option.bind_some]
   rw[(eI N _ _ _).1,Option.bind_some]
   refine⟨_,hi.upd hjl _ ?_ λk hkl hne=>?_,rfl⟩
   ·rw[Pc hk,if_pos hj,RW hjl]
   ·rw[Pc hk,if_neg (by rw[hj];omega)]) N 0 w.s.Gates h0 (by omega) (Nat.zero_le _)
 rw[show CR N w (Cg N w) N 0 w.s.Gates=Cg N w s1 from e1]
 rw[List.take_length] at i1
 unfold Cg
 obtain⟨s2,i2,e2⟩:=D8 w.in_.Cmds.length (λn i s=>CQ N w (Cf N w) n i s) (Cf N w) (λi s=>U5 w.b.Links.length s (λk=>stA N (UW w.b k) k (w.in_.Cmds.take i) (X1 N (UW w.b k) k w.in_.Faults (g0 k)))) (λn k s hk=>by
  simp only[CQ];rw[E0 hk];rfl) (λn i s hi hk=>by
  simp only[CQ,F6]
  rw[Eu hk,cond_true,BH hk,Option.bind_some,Mk,Option.bind_some,BL (by omega)]
  cases hr:(decide (0≤w.in_.Cmds[i].Link)&&decide (w.in_.Cmds[i].Link<(w.b.Links.length:Int)))
  ·refine⟨s,hi.congr λk hkl=>?_,rfl⟩
   rw[Pd hk,if_neg]
   intro e
   rw[e] at hr
   simp [hkl] at hr
  ·obtain⟨r1,r2⟩:=No.1 hr
   obtain⟨j,hj,hjl⟩:=cD r1 r2
   rw[cond_true,hj,BH hjl]
   simp only[hi.ix hjl,Option.bind_some]
   rw[(eJ N _ _ _).1,Option.bind_some]
   refine⟨_,hi.upd hjl _ ?_ λk hkl hne=>?_,rfl⟩
   ·rw[Pd hk,if_pos hj,RW hjl]
   ·rw[Pd hk,if_neg (by rw[hj];omega)]) N 0 s1 i1 (by omega) (Nat.zero_le _)
 rw[show CQ N w (Cf N w) N 0 s1=Cf N w s2 from e2]
 rw[List.take_length] at i2
 unfold Cf
 obtain⟨s3,i3,e3⟩:=D8 w.b.Links.length (λn i s=>DY N w n i s) (λs=>some s) (λi s=>U5 w.b.Links.length s (λk=>if k<i then gM N (UW w.b k) (stA N (UW w.b k) k w.in_.Cmds (X1 N (UW w.b k) k w.in_.Faults (g0 k))) else stA N (UW w.b k) k w.in_.Cmds (X1 N (UW w.b k) k w.in_.Faults (g0 k)))) (λn k s hk=>by
  simp only[DY];rw[E0 hk];rfl) (λn i s hi hk=>by
  simp only[DY]
  rw[Eu hk,cond_true,BH hk]
  simp only[hi.ix hk,Option.bind_some]
  rw[eH,Option.bind_some,BL (by omega),if_neg (Nat.lt_irrefl i)]
  refine⟨_,hi.upd hk _ ?_ λk hkl hne=>?_,rfl⟩
  ·rw[if_pos (Nat.lt_succ_self i),RW hk]
  ·by_cases h:k<i
   ·rw[if_pos h,if_pos (by omega)]
   ·rw[if_neg h,if_neg (by omega)]) N 0 s2 (i2.congr λk _=>by rw[if_neg (Nat.not_lt_zero k)]) (by omega) (Nat.zero_le _)
 exact⟨s3,e3,i3.congr λk hk=>by rw[if_pos hk]⟩
end Go.Proofs.YtblcgjadhemlbaaGreat
