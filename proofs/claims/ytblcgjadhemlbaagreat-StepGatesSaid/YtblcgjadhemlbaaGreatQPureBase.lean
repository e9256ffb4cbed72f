import Derived.Test.YtblcgjadhemlbaaGreatQPureRight2
namespace Go.Proofs.YtblcgjadhemlbaaGreat
open Go.RowKit
set_option linter.unusedVariables false
set_option linter.unusedSimpArgs false
theorem U1 (N:Nat) (n z:Int):EA N n z=some (U0 n 0 (BD (z-1))):=rfl
structure Qo (b:AZ) (t:LQ):Prop where
 place:0≤t.Place∧t.Place<b.Places.length
 flood:Hy t.Flood
 lead:0≤t.Lead∧t.Lead≤24
 watch:Hy t.Watch
 quorum:0≤t.Quorum∧t.Quorum≤128
theorem UQ {N:Nat}(hN:1000<N) (b:AZ) (hb:Hs b):∃v,GU N b=some v∧(v=true→∀t∈b.Towns,Qo b t):=by
 have q3:=hb.pl
 have q5:=hb.to
 have q8:=hb.sh
 have hj:Df (DI N b):=by
  unfold DI
  rcases HQ b.Shelters.length (DG N b (EX N)) (EX N) (λ_=>True) (λn k h=>by
   simp only[DG];rw[E7 h];rfl) (λn k h=>by
   simp only[DG]
   rw[E6 h,cond_true,BQ h]
   simp only[Option.bind_some,Kr,BH (show k<4611686018427387904 by omega)]
   cases U0 (b.Shelters[k]).Room 0 1073741824
   ·exact .inl rfl
   ·exact .inr ⟨trivial,rfl⟩) N 0 (by omega) (Nat.zero_le _) with h|⟨_,h⟩
  ·exact⟨_,h⟩
  ·exact⟨true,h⟩
 unfold GU
 rcases HQ b.Towns.length (DH N b (DI N b)) (DI N b) (λi=>∀t,b.Towns[i]? =some t→Qo b t) (λn k h=>by
  simp only[DH];rw[E7 h];rfl) (λn k h=>by
  simp only[DH]
  rw[E6 h,cond_true,BQ h]
  simp only[Option.bind_some,Kr,J5,NF N _ (show b.Places.length<4611686018427387904 by omega),Ee,KG,BH (show k<4611686018427387904 by omega)]
  generalize hB:(_|| !U0 (b.Towns[k]).Quorum 0 128)=B
  cases B
  ·simp only[Bool.or_eq_false_iff,Bool.not_eq_false'] at hB
   obtain⟨⟨⟨⟨⟨h1,h2⟩,h3⟩,h4⟩,h5⟩,h6⟩:=hB
   refine .inr ⟨λt ht=>?_,rfl⟩
   have:t=b.Towns[k]:=by simpa [h] using ht.symm
   rw[this]
   have i1:=Is h1
   exact⟨⟨i1.1,by omega⟩,JH h2,Is h3,JH h5,Is h6⟩
  ·exact .inl rfl) N 0 (by omega) (Nat.zero_le _) with h|⟨hp,h⟩
 ·exact⟨false,h,λh=>by cases h⟩
 ·obtain⟨v,hv⟩:=hj
  refine⟨v,h.trans hv,λ_ t ht=>?_⟩
  obtain⟨i,hi,rfl⟩:=List.mem_iff_getElem.1 ht
  exact hp i (Nat.zero_le _) hi _ (by simp [hi])
theorem Tx {N:Nat}(hN:1000<N) (b:AZ) (hb:Hs b):Df (GC N b):=by
 have q6:=hb.ga
 unfold GC
 rcases HQ b.Gauges.length (C9 N b (EL N)) (EL N) (λ_=>True) (λn k h=>by
  simp only[C9];rw[E7 h];rfl) (λn k h=>by
  simp only[C9]
  rw[E6 h,cond_true,BQ h]
  simp only[Option.bind_some,Kr,U1,Ee,KG,BH (show k<4611686018427387904 by omega)]
  generalize hB:(_|| !U0 (b.Gauges[k]).Drift 0 1440)=B
  cases B
  ·simp only[Bool.or_eq_false_iff,Bool.not_eq_false'] at hB
   have i1:=Is hB.1.1
   obtain⟨z,hz⟩:=Df.ix (l:=[(b.Places.length:Int),b.Cells,(b.Links.length:Int)]) (i:=(b.Gauges[k]).Kind) i1.1 (by simp;omega)
   rw[hz]
   simp only[cond_false,Option.bind_some]
   cases U0 (b.Gauges[k]).Target 0 (BD (z-1))
   ·exact .inl rfl
   ·exact .inr ⟨trivial,rfl⟩
  ·exact .inl rfl) N 0 (by omega) (Nat.zero_le _) with h|⟨_,h⟩
 ·exact⟨_,h⟩
 ·exact⟨true,h⟩
theorem Uj {N:Nat}(hN:1000<N) (b:AZ) (hb:Hs b):Df (GV N b):=by
 have q7:=hb.ro
 unfold GV
 rcases HQ b.Roads.length (DJ N b (EY N)) (EY N) (λ_=>True) (λn k h=>by
  simp only[DJ];rw[E7 h];rfl) (λn k h=>by
  simp only[DJ]
  rw[E6 h,cond_true,BQ h]
  simp only[Option.bind_some,Kr,J5,U1,Ee,KG,Mq,BH (show k<4611686018427387904 by omega)]
  generalize (_|| !P7 (b.Roads[k]).Limit)=B
  cases B
  ·simp only[cond_false]
   generalize ((decide ((b.Roads[k]).By= -1)&&decide ((b.Roads[k]).Limit≠0))||_)=B2
   cases B2
   ·exact .inr ⟨trivial,rfl⟩
   ·exact .inl rfl
  ·exact .inl rfl) N 0 (by omega) (Nat.zero_le _) with h|⟨_,h⟩
 ·exact⟨_,h⟩
 ·exact⟨true,h⟩
structure JV (b:AZ):Prop where
 head:Hs b
 places:∀p∈b.Places,J1 b p
 links:∀l∈b.Links,Ip b l
 towns:∀t∈b.Towns,Qo b t
theorem chainB {b:Bool}{x:Option Bool}{f:Bool→Option Bool}(Q:Prop) {G:Option Bool→Prop}(h:b=true→∃v,x=some v∧(v=true→Q)) (k:∀c,(c=true→b=true∧Q)→G (f c)):G (Option.bind (cond b (Option.bind x λy=>some y) (some false)) f):=by
 cases b
 ·exact k false λh=>by cases h
 ·obtain⟨v,hv,hq⟩:=h rfl
  rw[hv]
  exact k v λhc=>⟨rfl,hq hc⟩
theorem Df.q {x:Option Bool}(h:Df x):∃v,x=some v∧(v=true→True):=by obtain⟨v,hv⟩:=h;exact⟨v,hv,λ_=>trivial⟩
theorem RO {N:Nat}(hN:18446744073709551616<N) (b:AZ):∃v,GL N b=some v∧(v=true→JV b):=by
 have hN2:1000<N:=by omega
 unfold GL
 obtain⟨v0,e0,p0⟩:=WX hN2 b
 rw[e0]
 simp only[Option.bind_some]
 refine chainB True (G:=λx=>∃v,x=some v∧(v=true→JV b)) (λh=>(Uq hN2 (p0 h)).q) λc1 h1=>?_
 refine chainB (∀p∈b.Places,J1 b p) (G:=λx=>∃v,x=some v∧(v=true→JV b)) (λh=>Tp hN2 b (p0 (h1 h).1)) λc2 h2=>?_
 have d2:c2=true→Hs b∧∀p∈b.Places,J1 b p:=λh=>⟨p0 (h1 (h2 h).1).1,(h2 h).2⟩
 refine chainB (∀l∈b.Links,Ip b l) (G:=λx=>∃v,x=some v∧(v=true→JV b)) (λh=>Us hN b (d2 h).1) λc3 h3=>?_
 have d3:c3=true→Hs b∧(∀p∈b.Places,J1 b p)∧∀l∈b.Links,Ip b l:=λh=>⟨(d2 (h3 h).1).1,(d2 (h3 h).1).2,(h3 h).2⟩
 refine chainB True (G:=λx=>∃v,x=some v∧(v=true→JV b)) (λh=>(SG hN2 b (d3 h).1 (d3 h).2.1 (d3 h).2.2).q) λc4 h4=>?_
 refine chainB True (G:=λx=>∃v,x=some v∧(v=true→JV b)) (λh=>(Th hN b (d3 (h4 h).1).1 (d3 (h4 h).1).2.1 (d3 (h4 h).1).2.2).q) λc5 h5=>?_
 refine chainB (∀t∈b.Towns,Qo b t) (G:=λx=>∃v,x=some v∧(v=true→JV b)) (λh=>UQ hN2 b (d3 (h4 (h5 h).1).1).1) λc6 h6=>?_
 refine chainB True (G:=λx=>∃v,x=some v∧(v=true→JV b)) (λh=>(Tx hN2 b (d3 (h4 (h5 (h6 h).1).1).1).1).q) λc7 h7=>?_
 refine chainB True (G:=λx=>∃v,x=some v∧(v=true→JV b)) (λh=>(Uj hN2 b (d3 (h4 (h5 (h6 (h7 h).1).1).1).1).1).q) λc8 h8=>?_
 refine⟨c8,rfl,λh=>?_⟩
 have d:=d3 (h4 (h5 (h6 (h7 (h8 h).1).1).1).1).1
 exact⟨d.1,d.2.1,d.2.2,(h6 (h7 (h8 h).1).1).2⟩
end Go.Proofs.YtblcgjadhemlbaaGreat
namespace Go.Proofs.YtblcgjadhemlbaaGreat
open Go.RowKit
set_option linter.unusedVariables false
set_option linter.unusedSimpArgs false
theorem E5 {σ β:Type}(L:Nat) (f:Nat→Int→σ→Option β) (kj:σ→Option β) (I:Nat→σ→Prop) (hstop:∀n (k:Nat) s,L≤k→f (n+1) (k:Int) s=kj s) (hstep:∀n (k:Nat) s,I k s→k<L→∃s',I (k+1) s'∧f (n+1) (k:Int) s=f n ((k+1:Nat):Int) s'):
  ∀n (k:Nat) s,I k s→L<n+k→k≤L→∃s',I L s'∧f n (k:Int) s=kj s'
 |0,k,s,_,h,hk=>by omega
 |n+1,k,s,hi,h,hk=>by
  rcases Nat.lt_or_ge k L with hl|hl
  ·obtain⟨s1,i1,h1⟩:=hstep n k s hi hl
   obtain⟨s2,i2,h2⟩:=E5 L f kj I hstop hstep n (k+1) s1 i1 (by omega) (by omega)
   exact⟨s2,i2,h1.trans h2⟩
  ·have:k=L:=by omega
   subst this
   exact⟨s,hi,hstop n k s hl⟩
theorem KR {σ β:Type}(L:Nat) (f:Nat→Int→σ→Option β) (kj:σ→Option β) (x0:Option β) (I:Nat→σ→Prop) (hstop:∀n (k:Nat) s,L≤k→f (n+1) (k:Int) s=kj s) (hstep:∀n (k:Nat) s,I k s→k<L→f (n+1) (k:Int) s=x0∨∃s',I (k+1) s'∧f (n+1) (k:Int) s=f n ((k+1:Nat):Int) s'):
  ∀n (k:Nat) s,I k s→L<n+k→k≤L→f n (k:Int) s=x0∨∃s',I L s'∧f n (k:Int) s=kj s'
 |0,k,s,_,h,hk=>by omega
 |n+1,k,s,hi,h,hk=>by
  rcases Nat.lt_or_ge k L with hl|hl
  ·rcases hstep n k s hi hl with h0|⟨s1,i1,h1⟩
   ·exact .inl h0
   ·rcases KR L f kj x0 I hstop hstep n (k+1) s1 i1 (by omega) (by omega) with h2|⟨s2,i2,h2⟩
    ·exact .inl (h1.trans h2)
    ·exact .inr ⟨s2,i2,h1.trans h2⟩
  ·have:k=L:=by omega
   subst this
   exact .inr ⟨s,hi,hstop n k s hl⟩
theorem M4 {l:List Int}{k:Nat}(h:k<l.length):(l.take (k+1)).sum=(l.take k).sum+l[k]:=by
 rw[List.take_succ_eq_append_getElem h,List.sum_append];simp
theorem R3:∀{l:List Int},(∀x∈l,0≤x)→0≤l.sum
 |[],_=>by simp
 |a::l,h=>by
  have h1:=h a (List.mem_cons_self ..)
  have h2:=R3 (l:=l) λx hx=>h x (List.mem_cons_of_mem _ hx)
  simp only[List.sum_cons];omega
theorem Lf {l:List Int}(h:∀x∈l,0≤x) (k:Nat):0≤(l.take k).sum∧(l.take k).sum≤l.sum:=by
 have h1:=R3 (l:=l.take k) λx hx=>h x (List.mem_of_mem_take hx)
 have h2:=R3 (l:=l.drop k) λx hx=>h x (List.mem_of_mem_drop hx)
 have h3:(l.take k).sum+(l.drop k).sum=l.sum:=by rw[←List.sum_append,List.take_append_drop]
 omega
theorem Yx (N:Nat) {a b:Int}(h1: -4611686018427387903≤a) (h2:a≤4611686018427387903) (h3: -4611686018427387903≤b) (h4:b≤4611686018427387903):qZ N a b=some (a+b):=by
 unfold qZ
 have e3:BD (a+b)=a+b:=GF (by omega) (by omega)
 by_cases hb:0<b
 ·have e1:BD (9223372036854775807-b)=9223372036854775807-b:=GF (by omega) (by omega)
  rw[e1,e3]
  have c1:decide (9223372036854775807-b<a)=false:=by simp;omega
  have c2:decide (b<0)=false:=by simp;omega
  rw[c1,c2];simp
 ·have c1:decide (0<b)=false:=by simp;omega
  rw[c1]
  by_cases hb2:b<0
  ·have e2:BD (-9223372036854775808-b)= -9223372036854775808-b:=GF (by omega) (by omega)
   have c2:decide (a< -9223372036854775808-b)=false:=by simp;omega
   rw[e2,e3,c2];simp
  ·have c2:decide (b<0)=false:=by simp;omega
   rw[c2,e3];simp
theorem UV (N:Nat) {a b:Int}(h1: -4611686018427387903≤a) (h2:a≤4611686018427387903) (h3: -4611686018427387903≤b) (h4:b≤4611686018427387903):FQ N a b=some (a-b):=by
 unfold FQ
 have e3:BD (a-b)=a-b:=GF (by omega) (by omega)
 by_cases hb:b<0
 ·have e1:BD (9223372036854775807+b)=9223372036854775807+b:=GF (by omega) (by omega)
  have c1:decide (9223372036854775807+b<a)=false:=by simp;omega
  have c2:decide (0<b)=false:=by simp;omega
  rw[e1,e3,c1,c2];simp
 ·have c1:decide (b<0)=false:=by simp;omega
  rw[c1]
  by_cases hb2:0<b
  ·have e2:BD (-9223372036854775808+b)= -9223372036854775808+b:=GF (by omega) (by omega)
   have c2:decide (a< -9223372036854775808+b)=false:=by simp;omega
   rw[e2,e3,c2];simp
  ·have c2:decide (0<b)=false:=by simp;omega
   rw[c2,e3];simp
theorem JP {α}{l:List α}{k:Nat}(h:k<l.length) {P:α→Prop}(h1:∀x∈l.take k,P x) (h2:P l[k]):∀x∈l.take (k+1),P x:=by
 intro x hx
 rw[List.take_succ_eq_append_getElem h,List.mem_append] at hx
 rcases hx with hx|hx
 ·exact h1 x hx
 ·simp only[List.mem_singleton] at hx;subst hx;exact h2
theorem JI {n by_:Nat}(h:n*by_≤140737488355328) {α}(x:Option α):chk (J8 n by_) x=x:=by
 unfold chk J8;rw[decide_eq_true h];rfl
theorem QR {β:Type}(L:Nat) (f:Nat→Int→Option β) (kj:Option β) (hstop:∀n (k:Nat),L≤k→f (n+1) (k:Int)=kj) (hstep:∀n (k:Nat),k<L→f (n+1) (k:Int)=f n ((k+1:Nat):Int)):
  ∀n (k:Nat),L<n+k→k≤L→f n (k:Int)=kj
 |0,k,h,hk=>by omega
 |n+1,k,h,hk=>by
  rcases Nat.lt_or_ge k L with hl|hl
  ·rw[hstep n k hl];exact QR L f kj hstop hstep n (k+1) (by omega) (by omega)
  ·exact hstop n k hl
end Go.Proofs.YtblcgjadhemlbaaGreat
