import Derived.Test.YtabonambpbofgaaGreatKPureDiv
namespace Go.Proofs.YtabonambpbofgaaGreat
set_option linter.all false
open Go.RowKit
def TD {Y b d q r:Nat}(g:q*(Y/4294967296)+r=b):q*(Y%4294967296)≤4294967296*r+d↔q*Y≤b*4294967296+d:=by
 have e:q*Y=4294967296*(q*(Y/4294967296))+q*(Y%4294967296):=by
  conv=>lhs;rw[←Aex Y 4294967296,Nat.mul_add,Nat.mul_left_comm]
 rw[e,←g];generalize q*(Y/4294967296)=a
 generalize q*(Y%4294967296)=c
 omega
def dD {Y a b q:Nat}(d:a<Y) (g:b<4294967296) (c:4294967296≤q):a*4294967296+b<q*Y:=by
 have i:4294967296*Y≤q*Y:=Ac5 _ c;omega
def dE {Y a b q r:Nat}(c:q*(Y/4294967296)+r=a) (d:1≤q) (g:q≤4294967297) (i:4294967296≤r+Y/4294967296):(q-1)*Y≤a*4294967296+b:=by
 have e:(q-1)*(Y/4294967296)+(r+Y/4294967296)=a:=by
  obtain⟨p,rfl⟩:∃p,q=p+1:=⟨q-1,by omega⟩
  rw[Ac6] at c;simp only[Nat.add_sub_cancel];omega
 refine(TD e).1 ?_;have j:(q-1)*(Y%4294967296)≤4294967296*(Y%4294967296):=Ac5 _ (by omega);have k:Y%4294967296<4294967296:=Adn _ (by omega);omega
def jD {Y U q:Nat}(c:0<Y) (a:q*Y≤U) (b:U<(q+1)*Y):U/Y=q:=Nat.div_eq_of_lt_le a b
def WL {Y a:Nat}(g:9223372036854775808≤Y) (l:Y<18446744073709551616) (m:a<Y) (d:Nat) (n:d<4294967296):a/(Y/4294967296)≤4294967297∧a/(Y/4294967296)*(Y/4294967296)+a%(Y/4294967296)=a∧a*4294967296+d<(a/(Y/4294967296)+1)*Y∧a%(Y/4294967296)<4294967296:=by
 have i:2147483648≤Y/4294967296:=by omega
 have j:Y/4294967296<4294967296:=by omega
 have b:0<Y/4294967296:=by omega
 have o:a%(Y/4294967296)<Y/4294967296:=Adn _ b;have c:a/(Y/4294967296)*(Y/4294967296)+a%(Y/4294967296)=a:=by rw[Ad8];exact Aex _ _
 refine⟨?_,c,?_,by omega⟩
 ·refine Ad3 ((Ae9 b).2 ?_);omega
 ·have k:(a/(Y/4294967296)+1)*(4294967296*(Y/4294967296))≤(a/(Y/4294967296)+1)*Y:=Nat.mul_le_mul_left _ (by omega);rw[Nat.mul_left_comm,Ac6,Nat.one_mul] at k;omega
def UN (N:Nat) (p y:Int) (g i:Nat) (Y a b:Nat) (B:Eg .u64 y g=(Y:Int)) (C:Eg .u64 p i=(a:Int)) (s:9223372036854775808≤Y) (d:Y<18446744073709551616) (k:a<18446744073709551616) (D:b<Y) (kj:Int→Option (Int×Int)):
  ∀(n q r:Nat),q<n→q≤4294967297→r<4294967296→q*(Y/4294967296)+r=b→b*4294967296+a/4294967296<(q+1)*Y→
  EB N p y g i kj n (q:Int) (r:Int)=kj (((b*4294967296+a/4294967296)/Y:Nat):Int)
 |0,q,r,U,_,_,_,_=>by omega
 |n+1,q,r,K,F,M,t,G=>by
  have H:Y/4294967296<4294967296:=by omega
  have l:Y%4294967296<4294967296:=Adn _ (by omega);have u:a/4294967296<4294967296:=by omega
  simp only[EB];rw[B,C,Oo,Oo,TA Y d,Ql,show(4294967296:Int)=((4294967296:Nat):Int) from rfl,Ql,Fw _ (show 4294967296*r<18446744073709551616 by omega),UT,Fw _ (show 4294967296*r+a/4294967296<18446744073709551616 by omega),UT,Fw (r+Y/4294967296) (by omega)];cases o:(decide (((4294967296:Nat):Int)≤(q:Int))||decide (((4294967296*r+a/4294967296:Nat):Int)<IntKind.u64.wrap ((q*(Y%4294967296):Nat):Int)))
  ·simp only[Acd,Ab7] at o;obtain⟨Q,I⟩:=o;have c:q<4294967296:=by omega
   have v:q*(Y%4294967296)<18446744073709551616:=Aey (Aej (Ad3 c) (Ad3 l)) (by decide);rw[Fw _ v] at I;rw[Abk,jD (by omega) ((TD t).1 (by omega)) G]
  ·rw[Abj];have j:b*4294967296+a/4294967296<q*Y:=by
    rcases Ab4 q 4294967296 with c|c
    ·have v:q*(Y%4294967296)<18446744073709551616:=Aey (Aej (Ad3 c) (Ad3 l)) (by decide);rw[Fw _ v] at o;simp only[Aca,Ab6] at o;refine Nat.lt_of_not_le λw=>?_;have:=(TD t).2 w;omega
    ·exact dD D u c
   have x:1≤q:=by
    rcases Afa q with e|e
    ·rw[e,Nat.zero_mul] at j;omega
    ·exact e
   have z:IntKind.u64.wrap ((q:Int)-1)=((q-1:Nat):Int):=by rw[show (q:Int)-1=((q-1:Nat):Int) by omega];exact Fw _ (by omega)
   rw[z];have A:q-1+1=q:=by omega
   cases m:decide (((4294967296:Nat):Int)≤((r+Y/4294967296:Nat):Int))
   ·rw[Abk];have J:(q-1)*(Y/4294967296)+(r+Y/4294967296)=b:=by
     have:q*(Y/4294967296)=(q-1)*(Y/4294967296)+Y/4294967296:=by
      conv=>lhs;rw[←A,Ac6,Nat.one_mul]
     omega
    simp only[Ab7] at m;exact UN N p y g i Y a b B C s d k D kj n (q-1) (r+Y/4294967296) (by omega) (by omega) (by omega) J (by rw[A];exact j)
   ·rw[Abj];simp only[Ab6] at m;rw[jD (by omega) (dE t x F (by omega)) (by rw[A];exact j)]
def UM (N:Nat) (p y:Int) (i j:Nat) (Y a b:Nat) (B:Eg .u64 y i=(Y:Int)) (C:Eg .u64 p j=(a:Int)) (s:9223372036854775808≤Y) (d:Y<18446744073709551616) (g:a<18446744073709551616) (D:b<Y) (kj:Int→Option (Int×Int)):
  ∀(n q r:Nat),q<n→q≤4294967297→r<4294967296→q*(Y/4294967296)+r=b→b*4294967296+a%4294967296<(q+1)*Y→
  ET N p y i j kj n (r:Int) (q:Int)=kj (((b*4294967296+a%4294967296)/Y:Nat):Int)
 |0,q,r,U,_,_,_,_=>by omega
 |n+1,q,r,K,F,M,t,G=>by
  have H:Y/4294967296<4294967296:=by omega
  have l:Y%4294967296<4294967296:=Adn _ (by omega);have u:a%4294967296<4294967296:=Adn _ (by omega);simp only[ET];rw[B,C,Oo,TA a g,TA Y d,Ql,show(4294967296:Int)=((4294967296:Nat):Int) from rfl,Ql,Fw _ (show 4294967296*r<18446744073709551616 by omega),UT,Fw _ (show 4294967296*r+a%4294967296<18446744073709551616 by omega),UT,Fw (r+Y/4294967296) (by omega)];cases o:(decide (((4294967296:Nat):Int)≤(q:Int))||decide (((4294967296*r+a%4294967296:Nat):Int)<IntKind.u64.wrap ((q*(Y%4294967296):Nat):Int)))
  ·simp only[Acd,Ab7] at o;obtain⟨Q,I⟩:=o;have c:q<4294967296:=by omega
   have v:q*(Y%4294967296)<18446744073709551616:=Aey (Aej (Ad3 c) (Ad3 l)) (by decide);rw[Fw _ v] at I;rw[Abk,jD (by omega) ((TD t).1 (by omega)) G]
  ·rw[Abj];have k:b*4294967296+a%4294967296<q*Y:=by
    rcases Ab4 q 4294967296 with c|c
    ·have v:q*(Y%4294967296)<18446744073709551616:=Aey (Aej (Ad3 c) (Ad3 l)) (by decide);rw[Fw _ v] at o;simp only[Aca,Ab6] at o;refine Nat.lt_of_not_le λw=>?_;have:=(TD t).2 w;omega
    ·exact dD D u c
   have x:1≤q:=by
    rcases Afa q with e|e
    ·rw[e,Nat.zero_mul] at k;omega
    ·exact e
   have z:IntKind.u64.wrap ((q:Int)-1)=((q-1:Nat):Int):=by rw[show (q:Int)-1=((q-1:Nat):Int) by omega];exact Fw _ (by omega)
   rw[z];have A:q-1+1=q:=by omega
   cases m:decide (((4294967296:Nat):Int)≤((r+Y/4294967296:Nat):Int))
   ·rw[Abk];have J:(q-1)*(Y/4294967296)+(r+Y/4294967296)=b:=by
     have:q*(Y/4294967296)=(q-1)*(Y/4294967296)+Y/4294967296:=by
      conv=>lhs;rw[←A,Ac6,Nat.one_mul]
     omega
    simp only[Ab7] at m;exact UM N p y i j Y a b B C s d g D kj n (q-1) (r+Y/4294967296) (by omega) (by omega) (by omega) J (by rw[A];exact k)
   ·rw[Abj];simp only[Ab6] at m;rw[jD (by omega) (dE t x F (by omega)) (by rw[A];exact k)]
def pY (a b:Nat) (d:b≠0) (c:a<18446744073709551616):R6 .u64 (a:Int) (b:Int)=some ((a/b:Nat):Int):=by
 unfold R6;rw[Abl (by omega)];have e:(a:Int).tdiv (b:Int)=((a/b:Nat):Int):=rfl;have:a/b≤a:=Nat.div_le_self _ _;rw[e,Fw _ (by omega)]
def zV (a b:Nat) (c:b≠0):Uk (a:Int) (b:Int)=some ((a%b:Nat):Int):=by
 unfold Uk;rw[Abl (by omega)];rfl
def pS (a s:Nat) (d:s≤64):Eg .u64 (a:Int) s=((a*2^s%18446744073709551616:Nat):Int):=by
 unfold Eg;have b:min s IntKind.u64.bits=s:=by simp [IntKind.bits];omega
 have c:((a:Int)*2^s)=((a*2^s:Nat):Int):=by simp
 rw[b,c];exact lZ _
def orN (a b:Nat) (g:a<18446744073709551616) (i:b<18446744073709551616):I5 .or .u64 (a:Int) (b:Int)=((a|||b:Nat):Int):=by
 have c:(BitVec.ofInt 64 (a:Int)).toNat=a:=by rw[BitVec.ofInt_natCast,BitVec.toNat_ofNat];exact Aee (by omega)
 have d:(BitVec.ofInt 64 (b:Int)).toNat=b:=by rw[BitVec.ofInt_natCast,BitVec.toNat_ofNat];exact Aee (by omega)
 have j:a|||b<2^64:=Nat.or_lt_two_pow (by omega) (by omega)
 show IntKind.u64.wrap (((BitVec.ofInt 64 (a:Int))|||(BitVec.ofInt 64 (b:Int))).toNat:Int)=_
 rw[BitVec.toNat_or,c,d,Fw _ (by omega)]
def YT (a b:Nat):a=a/b*b+a%b:=by rw[Ad8];exact(Aex a b).symm
def aW {Y A B u:Nat}(a:0<Y):(A*B+u)/Y=A/Y*B+(A%Y*B+u)/Y∧(A*B+u)%Y=(A%Y*B+u)%Y:=by
 have b:=Aex A Y;have e:A*B+u=Y*(A/Y*B)+(A%Y*B+u):=by
  conv=>lhs;rw[←b,Ac6,Nat.mul_assoc,Nat.add_assoc]
 rw[e];exact⟨by rw[Nat.mul_add_div a],by rw[Nat.mul_add_mod]⟩
def N2 {a b q Y R:Nat}(g:a=q*Y+R) (c:R<18446744073709551616) (d:b=a%18446744073709551616):IntKind.u64.wrap ((b:Int)-IntKind.u64.wrap ((q*Y:Nat):Int))=(R:Int):=by
 rw[Ni,Ni];generalize q*Y=t at g
 omega
def Zi {N:Nat}(X:18446744073709551616<N) (w l y:Int) (s:Nat) (Z:s≤63) (m n:Nat) (Y c g k d:Nat) (p:Eg .u64 y s=(Y:Int)) (q:Eg .u64 l s=(c:Int)) (x:I5 .or .u64 (Eg .u64 w m) (Fq .u64 l n)=(g:Int))
  (o:9223372036854775808≤Y) (i:Y<18446744073709551616) (j:c<18446744073709551616) (hu:g<Y) (D:(g*4294967296+c/4294967296)=k*Y+d) (A:d<Y) (F:k<4294967296):
  EU N w l y (s:Int) s m n s (k:Int)=some (((k*4294967296+(d*4294967296+c%4294967296)/Y:Nat):Int),(((d*4294967296+c%4294967296)%Y/2^s:Nat):Int)):=by
 have G:0<Y/4294967296:=by omega
 have H:Y/4294967296<4294967296:=by omega
 have u:c%4294967296<4294967296:=Adn _ (by omega);have B:IntKind.u64.wrap (IntKind.u64.wrap (IntKind.u64.wrap ((g:Int)*4294967296)+Fq .u64 (Eg .u64 l s) 32)-IntKind.u64.wrap ((k:Int)*(Y:Int)))=(d:Int):=by
  rw[q,Oo,Ql];refine(Abp (λz=>IntKind.u64.wrap (z-_)) ?_).trans (N2 (b:=(g*4294967296+c/4294967296)%18446744073709551616) D (by omega) rfl);rw[Ni,Ni];omega
 obtain⟨I,C,J,K⟩:=WL o i A (c%4294967296) u;unfold EU;rw[x,p,B,Oo,pY _ _ (by omega) (by omega)];simp only[Abi];have M:IntKind.u64.wrap ((d:Int)-IntKind.u64.wrap (((d/(Y/4294967296):Nat):Int)*((Y/4294967296:Nat):Int)))=((d%(Y/4294967296):Nat):Int):=by
  rw[Ql];exact N2 (a:=d) C.symm (by omega) (by omega)
 rw[M,UM N l y s s Y c d p q o i j A _ N _ _ (by omega) I K C J];unfold GC;have Q:QK (IntKind.u64.wrap (s:Int))=some s:=by
  rw[Fw s (by omega)];unfold QK;rw[Abl (by omega)];simp
 rw[x,p,Q,B,q,TA c j];simp only[Abi];have hd:=Aex (d*4294967296+c%4294967296) Y;have v:(d*4294967296+c%4294967296)/Y<4294967296:=(Ae9 (by omega)).2 (by omega);have U:(d*4294967296+c%4294967296)%Y<Y:=Adn _ (by omega);have V:IntKind.u64.wrap (IntKind.u64.wrap (IntKind.u64.wrap ((d:Int)*4294967296)+((c%4294967296:Nat):Int))-IntKind.u64.wrap (((((d*4294967296+c%4294967296)/Y:Nat)):Int)*(Y:Int)))=(((d*4294967296+c%4294967296)%Y:Nat):Int):=by
  rw[Ql];refine(Abp (λz=>IntKind.u64.wrap (z-_)) ?_).trans (N2 (a:=d*4294967296+c%4294967296) (b:=(d*4294967296+c%4294967296)%18446744073709551616) (YT _ _) (by omega) rfl);rw[Ni,Ni];omega
 have W:IntKind.u64.wrap (IntKind.u64.wrap ((k:Int)*4294967296)+((((d*4294967296+c%4294967296)/Y:Nat)):Int))=((k*4294967296+(d*4294967296+c%4294967296)/Y:Nat):Int):=by
  rw[Ni,Ni];generalize (d*4294967296+c%4294967296)/Y=t at v
  omega
 rw[V,W,W0 _ s (by omega)]
def jG (a u:Nat):(a*4294967296+u/4294967296)*4294967296+u%4294967296=a*18446744073709551616+u:=by omega
def eL {N:Nat}(D:18446744073709551616<N) (o m y:Int) (s:Nat) (F:s≤63) (g i:Nat) (Y c b:Nat) (p:Eg .u64 y s=(Y:Int)) (w:Eg .u64 m s=(c:Int)) (x:I5 .or .u64 (Eg .u64 o g) (Fq .u64 m i)=(b:Int))
  (l:9223372036854775808≤Y) (j:Y<18446744073709551616) (k:c<18446744073709551616) (q:b<Y):
  ((R6 .u64 (I5 .or .u64 (Eg .u64 o g) (Fq .u64 m i)) (Fq .u64 (Eg .u64 y s) 32)).bind λn=>
   EB N m y s s (EU N o m y (s:Int) s g i s) N n (IntKind.wrap .u64 ((I5 .or .u64 (Eg .u64 o g) (Fq .u64 m i))-(IntKind.wrap .u64 (n*(Fq .u64 (Eg .u64 y s) 32))))))=
  some ((((b*18446744073709551616+c)/Y:Nat):Int),(((b*18446744073709551616+c)%Y/2^s:Nat):Int)):=by
 have d:0<Y:=by omega
 have t:c/4294967296<4294967296:=by omega
 obtain⟨G,z,H,I⟩:=WL l j q (c/4294967296) t;obtain⟨C,t2⟩:=aW (Y:=Y) (A:=b*4294967296+c/4294967296) (B:=4294967296) (u:=c%4294967296) d;rw[jG] at C t2;rw[C,t2,x,p,Oo,pY _ _ (by omega) (by omega)];simp only[Abi];have J:IntKind.u64.wrap ((b:Int)-IntKind.u64.wrap (((b/(Y/4294967296):Nat):Int)*((Y/4294967296:Nat):Int)))=((b%(Y/4294967296):Nat):Int):=by
  rw[Ql];exact N2 (a:=b) z.symm (by omega) (by omega)
 have v:(b*4294967296+c/4294967296)/Y<4294967296:=(Ae9 d).2 (by omega);rw[J,UN N _ _ s s Y c b p w l j k q _ N _ _ (by omega) G I z H];exact Zi D _ _ _ s F g i Y c b _ _ p w x l j k q (YT _ _) (Adn _ d) v
def bX {g l s M:Nat}(b:M=2^64) (d:s≤63):(g*2^s+l/2^(64-s))*M+l*2^s%M=(g*M+l)*2^s:=by
 have e:(2:Nat)^64=2^(64-s)*2^s:=by rw[←Nat.pow_add];congr 1;omega
 have c:l*2^s/M=l/2^(64-s):=by
  rw[b,e,Nat.mul_div_mul_right _ _ (Aew s)]
 have a:=Aex (l*2^s) M;rw[c] at a;rw[Ac6,Ac6,Nat.mul_right_comm g,Nat.add_assoc,Ad8 (l/2^(64-s)) M];exact Abp _ a
def eQ {N:Nat}(o:18446744073709551616<N) (B l y:Nat) (c:l<18446744073709551616) (p:y<18446744073709551616) (k:B<y):
  Gi N (B:Int) (l:Int) (y:Int)=some ((((B*18446744073709551616+l)/y:Nat):Int),(((B*18446744073709551616+l)%y:Nat):Int)):=by
 unfold Gi;rw[show decide ((y:Int)=0)=false by simp;omega,show decide ((y:Int)≤(B:Int))=false by simp;omega,Abk,Abk];rcases Afa B with e|hp
 ·subst e;rw[show decide (((0:Nat):Int)=0)=true by simp,Abj,pY _ _ (by omega) c,zV _ _ (by omega),Nat.zero_mul,Aco];rfl
 ·rw[show decide ((B:Int)=0)=false by simp;omega,Abk];obtain⟨s,q,m,u,d⟩:=mV N (show 0<y by omega) p;have n:∀t:Nat,t≤64→QK (IntKind.u64.wrap (t:Int))=some t:=λt A=>by
   rw[Fw t (by omega)];unfold QK;rw[Abl (by omega)];simp
  have g:(64:Int)-IntKind.u64.wrap (s:Int)=((64-s:Nat):Int):=by rw[Fw s (by omega)];omega
  rw[q,Abi,g,n s (by omega),n (64-s) (by omega),Abi,Abi,Abi,Abi];have a:B*2^s<18446744073709551616:=Aey (Ac5 _ (Nat.le_of_lt k)) d;have b:l/2^(64-s)<2^s:=by
   refine(Ae9 (Aew _)).2 ?_;rw[←Nat.pow_add,show s+(64-s)=64 by omega];exact c
  have i:l/2^(64-s)<18446744073709551616:=Aey (Nat.div_le_self _ _) c;have j:B*2^s|||l/2^(64-s)=B*2^s+l/2^(64-s):=by
   rw[Ad8 B];exact(Nat.two_pow_add_eq_or_of_lt b B).symm
  have v:Eg .u64 (y:Int) s=((y*2^s:Nat):Int):=by rw[pS _ _ (by omega),Aee d]
  have w:Eg .u64 (l:Int) s=((l*2^s%18446744073709551616:Nat):Int):=pS _ _ (by omega);have x:I5 .or .u64 (Eg .u64 (B:Int) s) (Fq .u64 (l:Int) (64-s))=((B*2^s+l/2^(64-s):Nat):Int):=by
   rw[pS _ _ (by omega),W0 _ _ (by omega),Aee a,orN _ _ a i,j]
  have z:B*2^s+l/2^(64-s)<y*2^s:=by
   have:(B+1)*2^s≤y*2^s:=Ac5 _ k;rw[Ac6,Nat.one_mul] at this;exact Ab0 (Nat.add_lt_add_left b _) this
  have hd:=eL o (B:Int) (l:Int) (y:Int) s m s (64-s) _ _ _ v w x u d (Adn _ (by omega)) z;rw[bX (M:=18446744073709551616) rfl m,Nat.mul_div_mul_right _ _ (Aew s),Nat.mul_mod_mul_right,Nat.mul_div_cancel _ (Aew s)] at hd;exact hd
def vG (a n d:Int):Int×Int×Bool:=if (0≤a∧a≤1125899906842624)∧(0≤n∧n≤1125899906842624)∧(1≤d∧d≤1125899906842624)∧a*n/d≤1125899906842624 then (a*n/d,a*n%d,true) else (0,0,false)
def pT {t d:Nat}(hd:0<d) (a:d≤t/18446744073709551616):18446744073709551616≤t/d:=by
 refine(Nat.le_div_iff_mul_le hd).2 ?_;omega
def Oq {N:Nat}(t:18446744073709551616<N) (a n d:Int):Gv N a n d=some (vG a n d):=by
 unfold Gv vG;cases m:(((((decide (a<0)||decide (1125899906842624<a))||decide (n<0))||decide (1125899906842624<n))||decide (d<1))||decide (1125899906842624<d))
 ·simp only[Acd,Ab7] at m;obtain⟨⟨⟨⟨⟨y,z⟩,A⟩,B⟩,C⟩,D⟩:=m;obtain⟨b,rfl⟩:∃k:Nat,a=k:=⟨a.toNat,by omega⟩
  obtain⟨c,rfl⟩:∃k:Nat,n=k:=⟨n.toNat,by omega⟩
  obtain⟨g,rfl⟩:∃k:Nat,d=k:=⟨d.toNat,by omega⟩
  rw[Abk,Fw b (by omega),Fw c (by omega),Fw g (by omega),S7 N b c (by omega) (by omega)];simp only[Abi];have u:(b:Int)*(c:Int)/(g:Int)=((b*c/g:Nat):Int):=by rw[Int.natCast_ediv,Int.natCast_mul]
  have v:(b:Int)*(c:Int)%(g:Int)=((b*c%g:Nat):Int):=by rw[Int.natCast_emod,Int.natCast_mul]
  rw[u,v];have o:b*c/18446744073709551616*18446744073709551616+b*c%18446744073709551616=b*c:=(YT _ _).symm;have j:0<g:=by omega
  by_cases l:g≤b*c/18446744073709551616
  ·rw[show decide ((g:Int)≤((b*c/18446744073709551616:Nat):Int))=true from Ab3 (Int.ofNat_le.2 l),Abj,Abl];intro F;have p:=F.2.2.2;have w:=pT j l;generalize b*c/g=q at p w
   omega
  ·have s:¬(g:Int)≤((b*c/18446744073709551616:Nat):Int):=λF=>l (Int.ofNat_le.1 F);rw[Abs s,Abk,eQ t _ _ _ (Adn _ (by omega)) (by omega) (Nat.lt_of_not_le l),o];simp only[Abi];have x:b*c%g<g:=Adn _ j;generalize b*c/g=q
   generalize b*c%g=r at x
   by_cases p:q≤1125899906842624
   ·have i:¬(1125899906842624:Int)<(q:Int):=by omega
    rw[Abs i,Abk,Abm ⟨by omega,by omega,by omega,by omega⟩,ER (by omega) (by omega),ER (by omega) (by omega)]
   ·have i:(1125899906842624:Int)<(q:Int):=by omega
    rw[Ab3 i,Abj,Abl (λF=>p (by have:=F.2.2.2;omega))]
 ·rw[Abj,Abl];intro F;simp only[Aca,Ab6] at m;omega
def Lu (b x:Bool):cond b true x=(b||x):=by cases b<;>rfl
def QI (b x:Bool):cond b x false=(b&&x):=by cases b<;>rfl
def A9 {k:Nat}(a:k<4611686018427387904):BQ ((k:Int)+1)=((k+1:Nat):Int):=by rw[ER (by omega) (by omega)];rfl
def FD {k L:Nat}(a:k<L):decide ((k:Int)<(L:Int))=true:=by simp;omega
def Fj {k L:Nat}(a:L≤k):decide ((k:Int)<(L:Int))=false:=by simp;omega
def Jw (L:Nat) (f:Nat→Int→Option Bool) (kj:Option Bool) (P:Nat→Prop) (a:∀n (k:Nat),L≤k→f (n+1) (k:Int)=kj) (b:∀n (k:Nat),k<L→f (n+1) (k:Int)=some false∨(P k∧f (n+1) (k:Int)=f n ((k+1:Nat):Int))):
  ∀n (k:Nat),L<n+k→k≤L→f n (k:Int)=some false∨((∀i,k≤i→i<L→P i)∧f n (k:Int)=kj)
 |0,k,o,l=>by omega
 |n+1,k,o,l=>by
  rcases Ab4 k L with d|d
  ·rcases b n k d with g|⟨g,h2⟩
   ·exact .inl g
   ·rcases Jw L f kj P a b n (k+1) (by omega) (by omega) with j|⟨j,h4⟩
    ·exact .inl (h2.trans j)
    ·refine .inr ⟨λi m c=>?_,h2.trans h4⟩;by_cases e:i=k
     ·subst e;exact g
     ·exact j i (by omega) c
  ·exact .inr ⟨λi m c=>by omega,a n k d⟩
def X7 {σ q:Type}(L:Nat) (f:Nat→Int→σ→Option q) (kj:σ→Option q) (I:σ→Prop) (a:∀n (k:Nat) s,L≤k→f (n+1) (k:Int) s=kj s) (b:∀n (k:Nat) s,I s→k<L→∃s',I s'∧f (n+1) (k:Int) s=f n ((k+1:Nat):Int) s'):
  ∀n (k:Nat) s,I s→L<n+k→k≤L→∃s',I s'∧f n (k:Int) s=kj s'
 |0,k,s,_,t,g=>by omega
 |n+1,k,s,d,t,g=>by
  rcases Ab4 k L with c|c
  ·obtain⟨i,j,l⟩:=b n k s d c;obtain⟨m,o,p⟩:=X7 L f kj I a b n (k+1) i j (by omega) (by omega);exact⟨m,o,l.trans p⟩
  ·exact⟨s,d,a n k s c⟩
def Te (n:Int):Bool:=decide (0≤n)&&decide (n≤1125899906842624)
def LK {n:Int}(a:Te n=true):Jv n:=by simpa [Te,Jv] using a
def MV (N:Nat) (n:Int):DA N n=some (Te n):=rfl
def dI (n a b:Int):Bool:=decide (a≤n)&&decide (n≤b)
def Nr (N:Nat) (n a b:Int):DJ N n a b=some (dI n a b):=rfl
def LD {n a b:Int}(c:dI n a b=true):a≤n∧n≤b:=by simpa [dI] using c
def UG (a b:Int):Bool:=(Te a&&Te b)&&(decide (b≠0)||decide (a=0))
def Qq (N:Nat) (a b:Int):Ht N a b=some (UG a b):=by
 simp only[Ht,MV,Abi,Gy,QI,UG]
def Pa {a b:Int}(c:UG a b=true):Jv a∧Jv b:=by
 simp only[UG,Abq] at c;exact⟨LK c.1.1,LK c.1.2⟩
def Qo (N:Nat) (n:Int) {L:Nat}(a:L<4611686018427387904):GG N n (L:Int)=some (dI n 0 ((L:Int)-1)):=by
 simp only[GG,Nr,Abi];rw[ER (by omega) (by omega)]
def Vq (L:Nat) (fr to:Int):Bool:=decide (to= -1)||(dI to 0 ((L:Int)-1)&&decide (to≠fr))
def RE (N:Nat) (b:AF) (fr to:Int) (a:b.A.length<4611686018427387904):Jq N b fr to=some (Vq b.A.length fr to):=by
 simp only[Jq,Qo N _ a,Abi,Gy,Lu,Vq]
def Xr {L:Nat}{fr to:Int}(a:Vq L fr to=true):to= -1∨(0≤to∧to<L):=by
 simp only[Vq,Aca,Abq,Ab6] at a;rcases a with a|a
 ·exact .inl a
 ·have:=LD a.1;exact .inr ⟨this.1,by omega⟩
structure IG (b:AF):Prop where
 own:b.H.length≤16
 cells:0≤b.J∧b.J≤64
 pl:b.A.length≤64
 li:b.C.length≤96
 to:b.Af.length≤40
 ga:b.Ah.length≤128
 ro:b.Ai.length≤128
 sh:b.Ak.length≤40
 own1:1≤b.H.length
def U8 {s:ByteArray}{k:Nat}(a:k<s.size):∃z,YY s (k:Int)=some z:=by
 unfold YY;rw[Abl (by omega)];simp only[Acs];exact⟨_,by rw[getElem?_pos s k a];rfl⟩
def jE {N:Nat}(q:1000<N) (b:AF):∃v,IB N b=some v∧(v=true→IG b):=by
 unfold IB;simp only[Nr,Abi,Gy,Lu];generalize d:(_|| !dI b.K 0 1099511627776)=B
 cases B
 ·simp only[Acd,Ab7,Adz] at d;obtain⟨⟨⟨⟨⟨⟨⟨⟨⟨⟨s,g⟩,i⟩,j⟩,t⟩,u⟩,w⟩,x⟩,y⟩,l⟩,m⟩:=d;have A:=LD g;have C:=LD i;have D:=LD j;have c:IG b:=⟨by omega,by omega,by omega,by omega,by omega,by omega,by omega,by omega,by omega⟩
  simp only[Abk];have a:∃v,FC N b=some v:=by
   unfold FC;rcases Jw b.Aj.length (FA N b (HM N)) (HM N) (λ_=>True) (λn k F=>by
    simp only[FA];rw[Fj F];rfl) (λn k F=>by
    simp only[FA];rw[FD F,Abj,BF F];simp only[Abi,MV,A9 (show k<4611686018427387904 by omega)];cases Te b.Aj[k]
    ·exact .inl rfl
    ·exact .inr ⟨trivial,rfl⟩) N 0 (by omega) (Abn _) with F|⟨_,F⟩
   ·exact⟨_,F⟩
   ·exact⟨true,F⟩
  rcases Jw b.E.size (FB N b (FC N b)) (FC N b) (λ_=>True) (λn k F=>by
    simp only[FB];rw[Fj F];rfl) (λn k F=>by
    simp only[FB];obtain⟨z,o⟩:=U8 F;rw[FD F,Abj,o];simp only[Abi,A9 (show k<4611686018427387904 by omega)];cases (decide (z<32)||decide (126<z)||decide (z=34)||decide (z=92))
    ·exact .inr ⟨trivial,rfl⟩
    ·exact .inl rfl) N 0 (by omega) (Abn _) with F|⟨_,F⟩
  ·exact⟨false,F,λF=>by cases F⟩
  ·obtain⟨v,p⟩:=a;exact⟨v,F.trans p,λ_=>c⟩
 ·exact⟨false,rfl,λF=>by cases F⟩
def Zd {N:Nat}(d:1000<N) (s:ByteArray):Df (KI N s):=by
 unfold KI;cases c:(decide ((s.size:Int)<1)||decide (24<(s.size:Int))||s==ByteArray.mk #[111,117,116])
 ·simp only[Acd,Ab7] at c;obtain⟨z,a⟩:=U8 (s:=s) (k:=0) (by omega);have b:YY s 0=some z:=a;simp only[Abk,b,Abi,Gy,Lu];refine Df.cond (λ_=>Df.mk _) λ_=>?_;rcases Jw s.size (Gj N s (IC N)) (IC N) (λ_=>True) (λn k g=>by
    simp only[Gj];rw[Fj g];rfl) (λn k g=>by
    simp only[Gj];obtain⟨z,a⟩:=U8 g;rw[FD g,Abj,a];simp only[Abi,A9 (show k<4611686018427387904 by omega)];cases (((decide (z<97)||decide (122<z))&&(decide (z<48)||decide (57<z)))&&decide (z≠95))
    ·exact .inr ⟨trivial,rfl⟩
    ·exact .inl rfl) N 1 (by omega) (by omega) with g|⟨_,g⟩
  ·exact⟨_,g⟩
  ·exact⟨_,g⟩
 ·simp only[Abj,Abi];exact Df.mk _
def dO {N:Nat}(d:1000<N) (m:List (AG×Bool)) (a b:ByteArray):Df (Kj N m a b):=by
 have c:∀s,Df (Ih N m b s):=λs=>by
  unfold Ih;exact Df.bind (Zd d b) λ_ _=>Df.cond (λ_=>Df.mk _) λ_=>Df.mk _
 unfold Kj;exact Df.cond (λ_=>c _) λ_=>c _
def M7 {N:Nat}(d:1000<N) (m:List (AG×Bool)) (c:Bool) (a b:ByteArray):∃v,Dt N m c a b=some v:=by
 unfold Dt;exact Df.bind (dO d m a b) λ_ _=>Df.mk _
def cQ {N:Nat}(c:1000<N) {b:AF}(m:IG b):Df (Jz N b):=by
 obtain⟨u,w,x,y,z,B,D,F⟩:=m;have d:∀{σ} (L:Nat) (f:Nat→Int→σ→Option Bool) (kj:σ→Option Bool),L≤128→(∀n (k:Nat) s,L≤k→f (n+1) (k:Int) s=kj s)→(∀n (k:Nat) s,k<L→∃s',f (n+1) (k:Int) s=f n ((k+1:Nat):Int) s')→(∀s,Df (kj s))→∀s,Df (f N 0 s):=λL f kj G g o i s=>by
  obtain⟨s',_,e⟩:=X7 L f kj (λ_=>True) g (λn k s _ I=>by obtain⟨s',h'⟩:=o n k s I;exact⟨s',trivial,h'⟩) N 0 s trivial (by omega) (Abn _);obtain⟨v,a⟩:=i s';exact⟨v,e.trans a⟩
 have j:∀s:Bool×List (AG×Bool),Df (D6 N b (FH N) N 0 s.1 s.2):=d (σ:=Bool×List (AG×Bool)) b.Ai.length (λn k s=>D6 N b (FH N) n k s.1 s.2) (λs=>FH N s.1) (by omega) (λn k s I=>by simp only[D6];rw[Fj I];rfl)
  (λn k s I=>by
   simp only[D6];rw[FD I,Abj,BF I];simp only[Abi];obtain⟨v,a⟩:=M7 c s.2 s.1 (ByteArray.mk #[114,111,97,100]) (b.Ai[k]).E;rw[a];simp only[Abi,A9 (show k<4611686018427387904 by omega)];exact⟨(v.2,v.1),rfl⟩) (λs=>Df.mk _)
 have l:∀s:Bool×List (AG×Bool),Df (D7 N b (FI N b) N 0 s.1 s.2):=d (σ:=Bool×List (AG×Bool)) b.Ah.length (λn k s=>D7 N b (FI N b) n k s.1 s.2) (λs=>FI N b s.1 s.2) (by omega) (λn k s I=>by simp only[D7];rw[Fj I];rfl)
  (λn k s I=>by
   simp only[D7];rw[FD I,Abj,BF I];simp only[Abi];obtain⟨v,a⟩:=M7 c s.2 s.1 (ByteArray.mk #[103,97,117,103,101]) (b.Ah[k]).E;rw[a];simp only[Abi,A9 (show k<4611686018427387904 by omega)];exact⟨(v.2,v.1),rfl⟩) (λs=>j s)
 have p:∀s:Bool×List (AG×Bool),Df (EH N b (Fk N b) N 0 s.1 s.2):=d (σ:=Bool×List (AG×Bool)) b.Ak.length (λn k s=>EH N b (Fk N b) n k s.1 s.2) (λs=>Fk N b s.1 s.2) (by omega) (λn k s I=>by simp only[EH];rw[Fj I];rfl)
  (λn k s I=>by
   simp only[EH];rw[FD I,Abj,BF I];simp only[Abi];obtain⟨v,a⟩:=M7 c s.2 s.1 (ByteArray.mk #[115,104,101,108,116,101,114]) (b.Ak[k]).E;rw[a];simp only[Abi,A9 (show k<4611686018427387904 by omega)];exact⟨(v.2,v.1),rfl⟩) (λs=>l s)
 have q:∀s:Bool×List (AG×Bool),Df (EI N b (Fl N b) N 0 s.1 s.2):=d (σ:=Bool×List (AG×Bool)) b.Af.length (λn k s=>EI N b (Fl N b) n k s.1 s.2) (λs=>Fl N b s.1 s.2) (by omega) (λn k s I=>by simp only[EI];rw[Fj I];rfl)
  (λn k s I=>by
   simp only[EI];rw[FD I,Abj,BF I];simp only[Abi];obtain⟨v,a⟩:=M7 c s.2 s.1 (ByteArray.mk #[116,111,119,110]) (b.Af[k]).E;rw[a];simp only[Abi,A9 (show k<4611686018427387904 by omega)];exact⟨(v.2,v.1),rfl⟩) (λs=>p s)
 have t:∀s:Bool×List (AG×Bool),Df (EJ N b (Fm N b) N 0 s.1 s.2):=d (σ:=Bool×List (AG×Bool)) b.C.length (λn k s=>EJ N b (Fm N b) n k s.1 s.2) (λs=>Fm N b s.1 s.2) (by omega) (λn k s I=>by simp only[EJ];rw[Fj I];rfl)
  (λn k s I=>by
   simp only[EJ];rw[FD I,Abj,BF I];simp only[Abi];obtain⟨v,a⟩:=M7 c s.2 s.1 (ByteArray.mk #[108,105,110,107]) (b.C[k]).E;rw[a];simp only[Abi,A9 (show k<4611686018427387904 by omega)];exact⟨(v.2,v.1),rfl⟩) (λs=>q s)
 have i:∀s:Bool×List (AG×Bool),Df (EK N b (Fo N b) N 0 s.1 s.2):=d (σ:=Bool×List (AG×Bool)) b.A.length (λn k s=>EK N b (Fo N b) n k s.1 s.2) (λs=>Fo N b s.1 s.2) (by omega) (λn k s I=>by simp only[EK];rw[Fj I];rfl)
  (λn k s I=>by
   simp only[EK];rw[FD I,Abj,BF I];simp only[Abi];obtain⟨v,a⟩:=M7 c s.2 s.1 (ByteArray.mk #[112,108,97,99,101]) (b.A[k]).E;rw[a];simp only[Abi,A9 (show k<4611686018427387904 by omega)];exact⟨(v.2,v.1),rfl⟩) (λs=>t s)
 have g:∀s:Bool×List (AG×Bool),Df (EL N b (Fp N b) N 0 s.1 s.2):=d (σ:=Bool×List (AG×Bool)) b.H.length (λn k s=>EL N b (Fp N b) n k s.1 s.2) (λs=>Fp N b s.1 s.2) (by omega) (λn k s I=>by simp only[EL];rw[Fj I];rfl)
  (λn k s I=>by
   simp only[EL];rw[FD I,Abj,BF I];simp only[Abi];obtain⟨v,a⟩:=M7 c s.2 s.1 (ByteArray.mk #[111,119,110,101,114]) (b.H[k]);rw[a];simp only[Abi,A9 (show k<4611686018427387904 by omega)];exact⟨(v.2,v.1),rfl⟩) (λs=>i s)
 exact g (true,[])
structure I1 (b:AF) (p:Cp):Prop where
 lev:I2 p.Bl
 num:Jv p.Y
 den:Jv p.S
 down:p.Ao= -1∨(0≤p.Ao∧p.Ao<b.A.length)
 cap:Jv p.Av
 delay:0≤p.R∧p.R≤240
def Vw {N:Nat}(p:Cp) (kj:Int→Option Bool) (b:p.An.length≤16):∀(n:Nat) (s:Int) (k:Nat),p.An.length<n+k→k≤p.An.length→DP N p kj n s (k:Int)=some false∨∃s',DP N p kj n s (k:Int)=kj s'
 |0,s,k,d,c=>by omega
 |n+1,s,k,d,c=>by
  simp only[DP];rcases Ab4 k p.An.length with a|a
  ·rw[FD a,Abj,BF a];simp only[Abi,MV,A9 (show k<4611686018427387904 by omega)];cases Te p.An[k]
   ·exact .inl rfl
   ·exact Vw (N:=N) p kj b n _ (k+1) (by omega) (by omega)
  ·rw[Fj a];exact .inr ⟨s,rfl⟩
def X0 {N:Nat}(b:AF) (p:Cp) (a:Int) (kj:Int→Option Bool) (g:0≤b.J∧b.J≤64):∀(n:Nat) (s:Int) (k:Nat), -1≤s→s≤64→65<n+s→k<100→(k:Int)≤s+1→Cn N b p a kj n s (k:Int)=some false∨Cn N b p a kj n s (k:Int)=kj a
 |0,s,k,i,j,l,m,o=>by omega
 |n+1,s,k,i,j,l,m,o=>by
  simp only[Cn];rcases Ab4 k p.T.length with c|c
  ·rw[FD c,Abj,BF c];simp only[Abi,MV,Gy,Lu,A9 (show k<4611686018427387904 by omega)];cases d:(decide ((p.T[k]).Bf≤s)||decide (b.J≤(p.T[k]).Bf)|| !Te (p.T[k]).Bq)
   ·simp only[Acd,Ab7] at d;obtain⟨⟨q,t⟩,u⟩:=d;exact X0 (N:=N) b p a kj g n _ (k+1) (by omega) (by omega) (by omega) (by omega) (by omega)
   ·exact .inl rfl
  ·rw[Fj c];exact .inr rfl
def T7 {N:Nat}(o:1000<N) (b:AF) (a:IG b):∀(n:Nat) (s:Int) (k:Nat),b.A.length<n+k→k≤b.A.length→∃v,B7 N b (CT N) n s (k:Int)=some v∧(v=true→∀(i:Nat) p,k≤i→b.A[i]? =some p→I1 b p)
 |0,s,k,Y,q=>by omega
 |n+1,s,k,Y,q=>by
  have Q:=a.pl;simp only[B7];rcases Ab4 k b.A.length with c|c
  ·rw[FD c,Abj,BF c];obtain⟨U,g,j⟩:=KJ (N:=N) (by omega) (b.A[k]).Bl;simp only[Abi,Nr,MV,Qq,g,RE N b _ _ (show b.A.length<4611686018427387904 by omega),Gy,Lu];generalize l:(_|| !Vq b.A.length (k:Int) (b.A[k]).Ao)=B
   cases B
   ·simp only[Acd,Ab7,Adz] at l;obtain⟨⟨⟨⟨⟨⟨⟨⟨V,W⟩,t⟩,u⟩,X⟩,w⟩,x⟩,m⟩,y⟩:=l;have z:(b.A[k]).An.length=b.H.length:=by
     have:((b.A[k]).An.length:Int)=(b.H.length:Int):=by simpa using x
     omega
    have C:I1 b b.A[k]:=⟨j w,(Pa m).1,(Pa m).2,Xr y,LK u,LD t⟩
    simp only[Abk];rcases Vw (N:=N) b.A[k] (FG N b b.A[k] (DC N (k:Int) (B7 N b (CT N) n))) (by have:=a.own;omega) N s 0 (by have:=a.own;omega) (Abn _) with e|⟨s',e⟩
    ·exact⟨false,e,λY=>by cases Y⟩
    ·have D:DP N b.A[k] (FG N b b.A[k] (DC N (k:Int) (B7 N b (CT N) n))) N s 0=_:=e;rw[D];unfold FG;rcases X0 (N:=N) b b.A[k] s' (DC N (k:Int) (B7 N b (CT N) n)) a.cells N (-1) 0 (by omega) (by omega) (by omega) (by omega) (by omega) with e|e
     ·exact⟨false,e,λY=>by cases Y⟩
     ·have F:Cn N b b.A[k] s' (DC N (k:Int) (B7 N b (CT N) n)) N (-1) 0=_:=e;rw[F];unfold DC;rw[A9 (show k<4611686018427387904 by omega)];obtain⟨v,G,I⟩:=T7 o b a n s' (k+1) (by omega) (by omega);refine⟨v,G,λJ i p K d=>?_⟩;by_cases M:i=k
      ·subst M;have:p=b.A[i]:=by simpa [c] using d.symm
       rw[this];exact C
      ·exact I J i p (by omega) d
   ·exact⟨false,rfl,λY=>by cases Y⟩
  ·rw[Fj c];refine⟨_,rfl,λ_ i p K d=>?_⟩;have:=(Aby.1 d).1;omega
def ZU {N:Nat}(c:1000<N) (b:AF) (a:IG b):∃v,HZ N b=some v∧(v=true→∀p∈b.A,I1 b p):=by
 obtain⟨v,d,g⟩:=T7 c b a N 0 0 (by have:=a.pl;omega) (Abn _);refine⟨v,d,λj p k=>?_⟩;obtain⟨i,l,rfl⟩:=Afb.1 k;exact g j i _ (Abn _) (by simp [l])
structure KN (b:AF) (l:BB):Prop where
 kind:0≤l.F∧l.F≤5
 fr:0≤l.M∧l.M<b.A.length
 to:l.D= -1∨(0≤l.D∧l.D<b.A.length)
 delay:0≤l.R∧l.R≤240
 gate:l.F=0→I2 l.As∧I2 l.Ad.Aw∧I2 l.Ad.Ax∧Jv l.Aq∧Jv l.Al
 part:l.F=1∨l.F=5∨l.F=3→Jv l.Y∧1≤l.S∧l.S≤1125899906842624
 seep:l.F=4→Jv l.Y∧1≤l.S∧l.S≤1125899906842624∧Jv l.Aq∧Jv l.Al∧l.D≠ -1
def aN {N:Nat}(d:18446744073709551616<N) (a b:List By) (g:1≤a.length) (c:a.length≤32) (i:b.length≤32):Df (HK N a b):=by
 unfold HK;rcases Jw b.length (HI N a b (Ig N)) (Ig N) (λ_=>True) (λn k l=>by
  simp only[HI];rw[Fj l];rfl) (λn k l=>by
  simp only[HI];obtain⟨v,j⟩:=SW d g c (b[k]).Q;rw[FD l,Abj,BF l];simp only[Abi,j,A9 (show k<4611686018427387904 by omega)];cases (decide ((b[k]).X<v.1)||decide (v.1=(b[k]).X)&&v.2)
  ·exact .inr ⟨trivial,rfl⟩
  ·exact .inl rfl) N 0 (by omega) (Abn _) with l|⟨_,l⟩
 ·exact⟨_,l⟩
 ·exact⟨true,l⟩
def QY {N:Nat}(d:18446744073709551616<N) (a b:List By):Df (Ic N a b):=by
 unfold Ic;obtain⟨s,i,j⟩:=KJ (N:=N) (by omega) a;obtain⟨t,l,m⟩:=KJ (N:=N) (by omega) b;simp only[i,l,Abi,Gy,Lu];refine Df.cond (λ_=>Df.mk _) λu=>?_;simp only[Acd,Adz] at u;obtain⟨o,p,_⟩:=j u.1;obtain⟨q,g,_⟩:=m u.2;rcases Jw a.length (HJ N a b (HK N a b)) (HK N a b) (λ_=>True) (λn k u=>by
  simp only[HJ];rw[Fj u];rfl) (λn k u=>by
  simp only[HJ];obtain⟨v,c⟩:=SW d q g (a[k]).Q;rw[FD u,Abj,BF u];simp only[Abi,c,A9 (show k<4611686018427387904 by omega)];cases decide (v.1<(a[k]).X)
  ·exact .inr ⟨trivial,rfl⟩
  ·exact .inl rfl) N 0 (by omega) (Abn _) with u|⟨_,u⟩
 ·exact⟨_,u⟩
 ·obtain⟨v,c⟩:=aN d a b o p g;exact⟨v,u.trans c⟩
def UK {N:Nat}(m:18446744073709551616<N) (l:BB):∃v,Gc N l=some v∧(v=true→
  (l.F=0→I2 l.As∧I2 l.Ad.Aw∧I2 l.Ad.Ax∧Jv l.Aq∧Jv l.Al)∧(l.F=1∨l.F=5∨l.F=3→Jv l.Y∧1≤l.S∧l.S≤1125899906842624)∧
  (¬(l.F=0∨l.F=1∨l.F=5∨l.F=2∨l.F=3)→Jv l.Y∧1≤l.S∧l.S≤1125899906842624∧Jv l.Aq∧Jv l.Al∧l.D≠ -1)):=by
 obtain⟨v1,q,s⟩:=KJ (N:=N) (by omega) l.As;obtain⟨C,t,u⟩:=KJ (N:=N) (by omega) l.Ad.Aw;obtain⟨G,w,x⟩:=KJ (N:=N) (by omega) l.Ad.Ax;obtain⟨H,y⟩:=QY m l.Ad.Aw l.As;obtain⟨I,z⟩:=QY m l.As l.Ad.Ax;unfold Gc;by_cases k0:l.F=0
 ·rw[show decide (l.F=0)=true by simp [k0],Abj];simp only[q,t,w,y,z,Nr,MV,Qq,Abi,Gy,QI];refine⟨_,rfl,λV=>?_⟩;simp only[Abq] at V;obtain⟨⟨⟨⟨⟨⟨⟨⟨⟨d,a⟩,b⟩,i⟩,A⟩,J⟩,K⟩,M⟩,n⟩,B⟩:=V;exact⟨λ_=>⟨s d,u a,x b,(Pa n).1,(Pa n).2⟩,λV=>by omega,λV=>absurd (.inl k0) V⟩
 ·rw[show decide (l.F=0)=false by simp [k0],Abk];have o:∀c:Bool,(c=true↔l.F=1∨l.F=5)→∃v,Eb N l c=some v∧(v=true→
    (l.F=0→I2 l.As∧I2 l.Ad.Aw∧I2 l.Ad.Ax∧Jv l.Aq∧Jv l.Al)∧(l.F=1∨l.F=5∨l.F=3→Jv l.Y∧1≤l.S∧l.S≤1125899906842624)∧
    (¬(l.F=0∨l.F=1∨l.F=5∨l.F=2∨l.F=3)→Jv l.Y∧1≤l.S∧l.S≤1125899906842624∧Jv l.Aq∧Jv l.Al∧l.D≠ -1)):=λc p=>by
   unfold Eb;simp only[Nr,MV,Qq,Abi,Gy,QI];cases c
   ·have Q:¬(l.F=1∨l.F=5):=λV=>by have:=p.2 V;cases this
    rw[Abk];by_cases j:l.F=2
    ·rw[show decide (l.F=2)=true by simp [j],Abj];exact⟨_,rfl,λ_=>⟨λV=>absurd V k0,λV=>by omega,λV=>absurd (.inr (.inr (.inr (.inl j)))) V⟩⟩
    ·rw[show decide (l.F=2)=false by simp [j],Abk];by_cases k:l.F=3
     ·rw[show decide (l.F=3)=true by simp [k],Abj];refine⟨_,rfl,λV=>?_⟩;simp only[Abq] at V;obtain⟨⟨⟨⟨d,a⟩,b⟩,i⟩,A⟩:=V;exact⟨λV=>absurd V k0,λ_=>⟨LK d,LD a⟩,λV=>absurd (.inr (.inr (.inr (.inr k)))) V⟩
     ·rw[show decide (l.F=3)=false by simp [k],Abk];refine⟨_,rfl,λV=>?_⟩;simp only[Abq,Ab6] at V;obtain⟨⟨⟨d,a⟩,b⟩,i⟩:=V;exact⟨λV=>absurd V k0,λV=>by omega,λ_=>⟨LK d,(LD a).1,(LD a).2,(Pa b).1,(Pa b).2,i⟩⟩
   ·have U:=p.1 rfl;rw[Abj];refine⟨_,rfl,λV=>?_⟩;simp only[Abq] at V;obtain⟨⟨d,a⟩,b⟩:=V;exact⟨λV=>absurd V k0,λ_=>⟨LK a,LD b⟩,λV=>by omega⟩
  by_cases g:l.F=1
  ·rw[show decide (l.F=1)=true by simp [g],Abj];exact o true (by simp [g])
  ·rw[show decide (l.F=1)=false by simp [g],Abk];exact o _ (by simp [g])
def Tw (N:Nat) (l:BB):Df (Fe N l):=by
 unfold Fe;exact Df.cond (λ_=>Df.mk _) λ_=>Df.cond (λ_=>Df.mk _) λ_=>Df.cond (λ_=>Df.mk _) λ_=>Df.cond (λ_=>Df.mk _) λ_=>Df.cond (λ_=>Df.mk _) λ_=>Df.mk _
def cV {N:Nat}(m:18446744073709551616<N) (b:AF) (c:IG b):∃v,FJ N b=some v∧(v=true→∀l∈b.C,KN b l):=by
 have H:=c.pl;have I:=c.li;unfold FJ;rcases Jw b.C.length (Cd N b (D2 N)) (D2 N) (λi=>∀l,b.C[i]? =some l→KN b l) (λn k M=>by
  simp only[Cd];rw[Fj M];rfl) (λn k M=>by
  simp only[Cd];obtain⟨J,o,p⟩:=UK m b.C[k];obtain⟨q,s⟩:=Tw N b.C[k];rw[FD M,Abj,BF M];simp only[Abi,Nr,Qo N _ (show b.A.length<4611686018427387904 by omega),RE N b _ _ (show b.A.length<4611686018427387904 by omega),o,s,Gy,Lu,A9 (show k<4611686018427387904 by omega)];generalize d:(_|| !q)=B
  cases B
  ·simp only[Acd,Adz] at d;obtain⟨⟨⟨⟨⟨t,u⟩,w⟩,g⟩,x⟩,K⟩:=d;have y:=LD t;have z:=LD u;obtain⟨D,F,G⟩:=p x;refine .inr ⟨λl a=>?_,rfl⟩;have:l=b.C[k]:=by simpa [M] using a.symm
   rw[this];exact⟨y,⟨z.1,by omega⟩,Xr w,LD g,D,F,λg=>G (by omega)⟩
  ·exact .inl rfl) N 0 (by omega) (Abn _) with M|⟨hp,M⟩
 ·exact⟨false,M,λM=>by cases M⟩
 ·refine⟨true,M,λ_ l a=>?_⟩;obtain⟨i,j,rfl⟩:=Afb.1 a;exact hp i (Abn _) j _ (by simp [j])
def X5 (N:Nat) (b:AF) (o to:Int) (c:to= -1∨(0≤to∧to<b.A.length)):Df (KV N b o to):=by
 unfold KV;refine Df.cond (λ_=>Df.mk _) λa=>?_;simp only[Ab7] at a;exact Df.bind (Df.ix (by omega) (by omega)) λ_ _=>Df.mk _
def XB {N:Nat}(w:1000<N) (b:AF) (m:IG b) (o:∀p∈b.A,I1 b p) (q:∀l∈b.C,KN b l):Df (H4 N b):=by
 have y:=m.pl;have B:=m.li;have s:Df (EO N b):=by
  unfold EO;rcases Jw b.C.length (EM N b (F5 N)) (F5 N) (λ_=>True) (λn k G=>by
   simp only[EM];rw[Fj G];rfl) (λn k G=>by
   simp only[EM];have a:=q b.C[k] (Ab2 G);obtain⟨x,t⟩:=Df.ix (l:=b.A) a.fr.1 a.fr.2;obtain⟨v,c⟩:=X5 N b x.Au (b.C[k]).D a.to;rw[FD G,Abj,BF G];simp only[Abi,t,c,A9 (show k<4611686018427387904 by omega)];have i:∃z,(cond (!v) (some true) ((cond (decide ((b.C[k]).F=4)) ((ix b.A (b.C[k]).D).bind λd=>some (decide (d.Au≠x.Au))) (some false)).bind λg=>some g))=some z:=by
    refine Df.cond (λ_=>Df.mk _) λ_=>Df.bind (Df.cond (λu=>?_) λ_=>Df.mk _) λ_ _=>Df.mk _;have j:(b.C[k]).F=4:=by simpa using u
    have:=(a.seep j).2.2.2.2.2;have:=a.to;exact Df.bind (Df.ix (by omega) (by omega)) λ_ _=>Df.mk _
   obtain⟨z,i⟩:=i;rw[i];simp only[Abi];cases z
   ·exact .inr ⟨trivial,rfl⟩
   ·exact .inl rfl) N 0 (by omega) (Abn _) with G|⟨_,G⟩
  ·exact⟨_,G⟩
  ·exact⟨true,G⟩
 unfold H4;rcases Jw b.A.length (EN N b (EO N b)) (EO N b) (λ_=>True) (λn k G=>by
   simp only[EN];rw[Fj G];rfl) (λn k G=>by
   simp only[EN];have a:=o b.A[k] (Ab2 G);obtain⟨v,c⟩:=X5 N b (b.A[k]).Au (b.A[k]).Ao a.down;rw[FD G,Abj,BF G];simp only[Abi,c,A9 (show k<4611686018427387904 by omega)];cases v
   ·exact .inl rfl
   ·exact .inr ⟨trivial,rfl⟩) N 0 (by omega) (Abn _) with G|⟨_,G⟩
 ·exact⟨_,G⟩
 ·obtain⟨v,c⟩:=s;exact⟨v,G.trans c⟩
def Vv {N:Nat}(d:18446744073709551616<N) (c:List By) (g:I2 c) (kj:Int→Option Int):∀(n:Nat) (s:Int) (k:Nat),c.length<n+k→1≤k→k≤c.length→∃s',Fd N c kj n s (k:Int)=kj s'
 |0,s,k,A,i,j=>by omega
 |n+1,s,k,A,i,j=>by
  obtain⟨l,m,b⟩:=g;simp only[Fd];rcases Ab4 k c.length with a|a
  ·have o:BQ ((k:Int)-1)=((k-1:Nat):Int):=by rw[ER (by omega) (by omega)];omega
   rw[FD a,Abj,o,BF a,BF (show k-1<c.length by omega)];simp only[Abi,A9 (show k<4611686018427387904 by omega)];obtain⟨p,q,t⟩:=b k c[k] (by simp [a]);obtain⟨u,w,_⟩:=b (k-1) c[k-1] (by simp [show k-1<c.length by omega]);obtain⟨y,z⟩:=t c[k-1] (by omega) (by simp [show k-1<c.length by omega]);unfold Jv at p q u w;obtain⟨v,x⟩:=Nk d (num:=BQ ((c[k]).X-(c[k-1]).X)) (den:=BQ ((c[k]).Q-(c[k-1]).Q)) (by rw[ER (by omega) (by omega)];omega) (by rw[ER (by omega) (by omega)];omega) (by rw[ER (by omega) (by omega)];omega);rw[x];exact Vv d c ⟨l,m,b⟩ kj n _ (k+1) (by omega) (by omega) (by omega)
  ·rw[Fj a];exact⟨s,rfl⟩
def bJ {N:Nat}(d:18446744073709551616<N) (cs:List (List By)) (m:cs.length≤3) (g:∀c∈cs,I2 c):Df (Jr N cs):=by
 unfold Jr;have:∀(n:Nat) (s:Int) (k:Nat),cs.length<n+k→k≤cs.length→Df (D4 N cs (Ev N) n s (k:Int)):=by
  intro n
  induction n with
  |zero=>intro s k o i;omega
  |succ n j=>
   intro s k o i;simp only[D4];rcases Ab4 k cs.length with a|a
   ·rw[FD a,Abj,BF a];simp only[Abi];have b:=g cs[k] (Ab2 a);obtain⟨s',e⟩:=Vv d cs[k] b (Gb N (k:Int) (D4 N cs (Ev N) n)) N s 1 (by have:=b.2.1;omega) (by omega) b.1;have l:Fd N cs[k] (Gb N (k:Int) (D4 N cs (Ev N) n)) N s 1=_:=e;rw[l];unfold Gb;rw[A9 (show k<4611686018427387904 by omega)];exact j s' (k+1) (by omega) (by omega)
   ·rw[Fj a];exact Df.mk _
 exact this N 0 0 (by omega) (Abn _)
def Lx {α}(l:List α) (i:Int) (x:α):(upd l i x).length=l.length:=by simp [upd]
def vE {N:Nat}(a:1000<N) (l:List Int) (b:l.length≤64):Df (DO N l):=by
 unfold DO;rcases Jw l.length (EV N l (GS N)) (GS N) (λ_=>True) (λn k c=>by
  simp only[EV];rw[Fj c];rfl) (λn k c=>by
  simp only[EV];rw[FD c,Abj,BF c];simp only[Abi,A9 (show k<4611686018427387904 by omega)];cases decide (1099511627776<l[k])
  ·exact .inr ⟨trivial,rfl⟩
  ·exact .inl rfl) N 0 (by omega) (Abn _) with c|⟨_,c⟩
 ·exact⟨_,c⟩
 ·exact⟨true,c⟩
def mO {N:Nat}(o:18446744073709551616<N) (b:AF) (t:IG b) (I:∀l∈b.C,KN b l) (kj:List Int→Option Bool):∀(n:Nat) (k:Nat) (s:List Int),s.length=b.A.length→b.C.length<n+k→k≤b.C.length→∃s',s'.length=b.A.length∧B6 N b kj n (k:Int) s=kj s'
 |0,k,s,a,h,U=>by omega
 |n+1,k,s,a,h,U=>by
  have q3:=t.pl;have q4:=t.li;simp only[B6];rcases Ab4 k b.C.length with g|g
  ·rw[FD g,Abj,BF g];simp only[Abi];have d:=I b.C[k] (Ab2 g);generalize b.C[k]=l at d
   have p:∀s:List Int,s.length=b.A.length→∃s',s'.length=b.A.length∧DB N (k:Int) (B6 N b kj n) s=kj s':=λs a=>by
    unfold DB;rw[A9 (show k<4611686018427387904 by omega)];exact mO o b t I kj n (k+1) s a (by omega) (by omega)
   obtain⟨x,u⟩:=Df.ix (l:=s) d.fr.1 (by rw[a];exact d.fr.2);have w:∀c:Bool,(c=true→l.F=1∨l.F=5∨l.F=3)→∃s',s'.length=b.A.length∧EY N s l (DB N (k:Int) (B6 N b kj n)) c=kj s':=λc g=>by
    unfold EY;cases c
    ·rw[Abk];by_cases y:l.F=4
     ·rw[show decide (l.F=4)=true by simp [y],Abj];obtain⟨z,V,W,X,J,h6⟩:=d.seep y;obtain⟨v,q⟩:=Nk o z.1 (show 0≤l.S by omega) (by omega);obtain⟨Y,j⟩:=Nk o X.1 J.1 (show l.Al≤_ by have:=J.2;omega);have B:=d.to;obtain⟨Z,m⟩:=Df.ix (l:=upd s l.M (BQ (x+BQ (2*v)))) (i:=l.D) (by omega) (by rw[Lx,a];omega);simp only[u,q,m,j,Abi];exact p _ (by rw[Lx,Lx,a])
     ·rw[show decide (l.F=4)=false by simp [y],Abk];exact p s a
    ·rw[Abj];obtain⟨z,V,W⟩:=d.part (g rfl);obtain⟨v,q⟩:=Nk o z.1 (show 0≤l.S by omega) (by omega);simp only[u,q,Abi];exact p _ (by rw[Lx,a])
   by_cases k0:l.F=0
   ·rw[show decide (l.F=0)=true by simp [k0],Abj];obtain⟨c1,c2,c3,c4,K⟩:=d.gate k0;obtain⟨v,q⟩:=bJ o [l.As,l.Ad.Aw,l.Ad.Ax] (by simp) (by simp [c1,c2,c3]);simp only[u,q,Abi];by_cases Q:l.D= -1
    ·rw[show decide (l.D≠ -1)=false by simp [Q],Abk];exact p _ (by rw[Lx,a])
    ·rw[show decide (l.D≠ -1)=true by simp [Q],Abj];have B:=d.to;obtain⟨Z,m⟩:=Df.ix (l:=upd s l.M (BQ (x+v))) (i:=l.D) (by omega) (by rw[Lx,a];omega);obtain⟨Y,j⟩:=Nk o c4.1 K.1 (show l.Al≤_ by have:=K.2;omega);simp only[m,j,Abi];exact p _ (by rw[Lx,Lx,a])
   ·rw[show decide (l.F=0)=false by simp [k0],Abk];by_cases G:l.F=1
    ·rw[show decide (l.F=1)=true by simp [G],Abj];exact w true λ_=> .inl G
    ·rw[show decide (l.F=1)=false by simp [G],Abk];by_cases H:l.F=5
     ·rw[show decide (l.F=5)=true by simp [H],Abj];exact w true λ_=> .inr (.inl H)
     ·rw[show decide (l.F=5)=false by simp [H],Abk];exact w _ λh=> .inr (.inr (by simpa using h))
  ·rw[Fj g];exact⟨s,a,rfl⟩
def ZE {N:Nat}(m:18446744073709551616<N) (b:AF) (c:IG b) (q:∀p∈b.A,I1 b p) (t:∀l∈b.C,KN b l):Df (IL N b):=by
 have G:=c.pl;have H:=c.li;unfold IL;rw[show LI (b.A.length:Int) (b.A.length:Int) 8=true by simp [LI];omega];simp only[chk,Abj];have u:∀(n:Nat) (k:Nat) (s:List Int),s.length=b.A.length→b.A.length<n+k→k≤b.A.length→∃s',s'.length=b.A.length∧EW N b (EZ N b) n (k:Int) s=EZ N b s':=by
  intro n
  induction n with
  |zero=>intro k s d J w;omega
  |succ n x=>
   intro k s d J w;simp only[EW];rcases Ab4 k b.A.length with a|a
   ·have g:=q b.A[k] (Ab2 a);obtain⟨v,y⟩:=Nk m g.num.1 g.den.1 (by have:=g.den.2;omega);rw[FD a,Abj,BF a,BF (show k<s.length by omega)];simp only[Abi,y,A9 (show k<4611686018427387904 by omega)];exact x (k+1) _ (by rw[Lx,d]) (by omega) (by omega)
   ·rw[Fj a];exact⟨s,d,rfl⟩
 obtain⟨o,z,B⟩:=u N 0 (List.replicate ((b.A.length:Int):Int).toNat 0) (by simp) (by omega) (Abn _);have i:EW N b (EZ N b) N 0 (List.replicate ((b.A.length:Int):Int).toNat 0)=_:=B;rw[i];unfold EZ;obtain⟨D,I,F⟩:=mO m b c t (DO N) N 0 o z (by omega) (Abn _);have j:B6 N b (DO N) N 0 o=_:=F;rw[j];exact vE (by omega) D (by omega)
end Go.Proofs.YtabonambpbofgaaGreat
