import Derived.Test.YtedgiljmffngoaaGreatHWalkA
namespace Go.Proofs.YtedgiljmffngoaaGreat
set_option linter.all false
open Go.RowKit
def TK {Y b d q r:Nat}(g:q*(Y/4294967296)+r=b):q*(Y%4294967296)≤4294967296*r+d↔q*Y≤b*4294967296+d:=by
 have e:q*Y=4294967296*(q*(Y/4294967296))+q*(Y%4294967296):=by
  conv=>lhs;rw[←Ad9 Y 4294967296,Nat.mul_add,Nat.mul_left_comm]
 rw[e,←g];generalize q*(Y/4294967296)=a
 generalize q*(Y%4294967296)=c
 omega
def dP {Y a b q:Nat}(d:a<Y) (g:b<4294967296) (c:4294967296≤q):a*4294967296+b<q*Y:=by
 have i:4294967296*Y≤q*Y:=Acq _ c;omega
def dQ {Y a b q r:Nat}(c:q*(Y/4294967296)+r=a) (d:1≤q) (g:q≤4294967297) (i:4294967296≤r+Y/4294967296):(q-1)*Y≤a*4294967296+b:=by
 have e:(q-1)*(Y/4294967296)+(r+Y/4294967296)=a:=by
  obtain⟨p,rfl⟩:∃p,q=p+1:=⟨q-1,by omega⟩
  rw[Acg] at c;simp only[Nat.add_sub_cancel];omega
 refine(TK e).1 ?_;have j:(q-1)*(Y%4294967296)≤4294967296*(Y%4294967296):=Acq _ (by omega);have k:Y%4294967296<4294967296:=Ac2 _ (by omega);omega
def jO {Y U q:Nat}(c:0<Y) (a:q*Y≤U) (b:U<(q+1)*Y):U/Y=q:=Nat.div_eq_of_lt_le a b
def WS {Y a:Nat}(g:9223372036854775808≤Y) (l:Y<18446744073709551616) (m:a<Y) (d:Nat) (n:d<4294967296):a/(Y/4294967296)≤4294967297∧a/(Y/4294967296)*(Y/4294967296)+a%(Y/4294967296)=a∧a*4294967296+d<(a/(Y/4294967296)+1)*Y∧a%(Y/4294967296)<4294967296:=by
 have i:2147483648≤Y/4294967296:=by omega
 have j:Y/4294967296<4294967296:=by omega
 have b:0<Y/4294967296:=by omega
 have o:a%(Y/4294967296)<Y/4294967296:=Ac2 _ b;have c:a/(Y/4294967296)*(Y/4294967296)+a%(Y/4294967296)=a:=by rw[Ado];exact Ad9 _ _
 refine⟨?_,c,?_,by omega⟩
 ·refine Adg ((Aem b).2 ?_);omega
 ·have k:(a/(Y/4294967296)+1)*(4294967296*(Y/4294967296))≤(a/(Y/4294967296)+1)*Y:=Nat.mul_le_mul_left _ (by omega);rw[Nat.mul_left_comm,Acg,Nat.one_mul] at k;omega
def Ub (N:Nat) (p y:Int) (g i:Nat) (Y a b:Nat) (B:Do .u64 y g=(Y:Int)) (C:Do .u64 p i=(a:Int)) (s:9223372036854775808≤Y) (d:Y<18446744073709551616) (k:a<18446744073709551616) (D:b<Y) (kj:Int→Option (Int×Int)):
  ∀(n q r:Nat),q<n→q≤4294967297→r<4294967296→q*(Y/4294967296)+r=b→b*4294967296+a/4294967296<(q+1)*Y→
  DH N p y g i kj n (q:Int) (r:Int)=kj (((b*4294967296+a/4294967296)/Y:Nat):Int)
 |0,q,r,U,_,_,_,_=>by omega
 |n+1,q,r,K,F,M,t,G=>by
  have H:Y/4294967296<4294967296:=by omega
  have l:Y%4294967296<4294967296:=Ac2 _ (by omega);have u:a/4294967296<4294967296:=by omega
  simp only[DH];rw[B,C,Oy,Oy,TI Y d,Qu,show(4294967296:Int)=((4294967296:Nat):Int) from rfl,Qu,Em _ (show 4294967296*r<18446744073709551616 by omega),Uf,Em _ (show 4294967296*r+a/4294967296<18446744073709551616 by omega),Uf,Em (r+Y/4294967296) (by omega)];cases o:(decide (((4294967296:Nat):Int)≤(q:Int))||decide (((4294967296*r+a/4294967296:Nat):Int)<IntKind.u64.wrap ((q*(Y%4294967296):Nat):Int)))
  ·simp only[Abu,Abp] at o;obtain⟨Q,I⟩:=o;have c:q<4294967296:=by omega
   have v:q*(Y%4294967296)<18446744073709551616:=Aea (Ad1 (Adg c) (Adg l)) (by decide);rw[Em _ v] at I;rw[Aa0,jO (by omega) ((TK t).1 (by omega)) G]
  ·rw[Aax];have j:b*4294967296+a/4294967296<q*Y:=by
    rcases Abk q 4294967296 with c|c
    ·have v:q*(Y%4294967296)<18446744073709551616:=Aea (Ad1 (Adg c) (Adg l)) (by decide);rw[Em _ v] at o;simp only[Abq,Abh] at o;refine Nat.lt_of_not_le λw=>?_;have:=(TK t).2 w;omega
    ·exact dP D u c
   have x:1≤q:=by
    rcases Aen q with e|e
    ·rw[e,Nat.zero_mul] at j;omega
    ·exact e
   have z:IntKind.u64.wrap ((q:Int)-1)=((q-1:Nat):Int):=by rw[show (q:Int)-1=((q-1:Nat):Int) by omega];exact Em _ (by omega)
   rw[z];have A:q-1+1=q:=by omega
   cases m:decide (((4294967296:Nat):Int)≤((r+Y/4294967296:Nat):Int))
   ·rw[Aa0];have J:(q-1)*(Y/4294967296)+(r+Y/4294967296)=b:=by
     have:q*(Y/4294967296)=(q-1)*(Y/4294967296)+Y/4294967296:=by
      conv=>lhs;rw[←A,Acg,Nat.one_mul]
     omega
    simp only[Abp] at m;exact Ub N p y g i Y a b B C s d k D kj n (q-1) (r+Y/4294967296) (by omega) (by omega) (by omega) J (by rw[A];exact j)
   ·rw[Aax];simp only[Abh] at m;rw[jO (by omega) (dQ t x F (by omega)) (by rw[A];exact j)]
def Ua (N:Nat) (p y:Int) (i j:Nat) (Y a b:Nat) (B:Do .u64 y i=(Y:Int)) (C:Do .u64 p j=(a:Int)) (s:9223372036854775808≤Y) (d:Y<18446744073709551616) (g:a<18446744073709551616) (D:b<Y) (kj:Int→Option (Int×Int)):
  ∀(n q r:Nat),q<n→q≤4294967297→r<4294967296→q*(Y/4294967296)+r=b→b*4294967296+a%4294967296<(q+1)*Y→
  Dd N p y i j kj n (r:Int) (q:Int)=kj (((b*4294967296+a%4294967296)/Y:Nat):Int)
 |0,q,r,U,_,_,_,_=>by omega
 |n+1,q,r,K,F,M,t,G=>by
  have H:Y/4294967296<4294967296:=by omega
  have l:Y%4294967296<4294967296:=Ac2 _ (by omega);have u:a%4294967296<4294967296:=Ac2 _ (by omega);simp only[Dd];rw[B,C,Oy,TI a g,TI Y d,Qu,show(4294967296:Int)=((4294967296:Nat):Int) from rfl,Qu,Em _ (show 4294967296*r<18446744073709551616 by omega),Uf,Em _ (show 4294967296*r+a%4294967296<18446744073709551616 by omega),Uf,Em (r+Y/4294967296) (by omega)];cases o:(decide (((4294967296:Nat):Int)≤(q:Int))||decide (((4294967296*r+a%4294967296:Nat):Int)<IntKind.u64.wrap ((q*(Y%4294967296):Nat):Int)))
  ·simp only[Abu,Abp] at o;obtain⟨Q,I⟩:=o;have c:q<4294967296:=by omega
   have v:q*(Y%4294967296)<18446744073709551616:=Aea (Ad1 (Adg c) (Adg l)) (by decide);rw[Em _ v] at I;rw[Aa0,jO (by omega) ((TK t).1 (by omega)) G]
  ·rw[Aax];have k:b*4294967296+a%4294967296<q*Y:=by
    rcases Abk q 4294967296 with c|c
    ·have v:q*(Y%4294967296)<18446744073709551616:=Aea (Ad1 (Adg c) (Adg l)) (by decide);rw[Em _ v] at o;simp only[Abq,Abh] at o;refine Nat.lt_of_not_le λw=>?_;have:=(TK t).2 w;omega
    ·exact dP D u c
   have x:1≤q:=by
    rcases Aen q with e|e
    ·rw[e,Nat.zero_mul] at k;omega
    ·exact e
   have z:IntKind.u64.wrap ((q:Int)-1)=((q-1:Nat):Int):=by rw[show (q:Int)-1=((q-1:Nat):Int) by omega];exact Em _ (by omega)
   rw[z];have A:q-1+1=q:=by omega
   cases m:decide (((4294967296:Nat):Int)≤((r+Y/4294967296:Nat):Int))
   ·rw[Aa0];have J:(q-1)*(Y/4294967296)+(r+Y/4294967296)=b:=by
     have:q*(Y/4294967296)=(q-1)*(Y/4294967296)+Y/4294967296:=by
      conv=>lhs;rw[←A,Acg,Nat.one_mul]
     omega
    simp only[Abp] at m;exact Ua N p y i j Y a b B C s d g D kj n (q-1) (r+Y/4294967296) (by omega) (by omega) (by omega) J (by rw[A];exact k)
   ·rw[Aax];simp only[Abh] at m;rw[jO (by omega) (dQ t x F (by omega)) (by rw[A];exact k)]
def pH (a b:Nat) (d:b≠0) (c:a<18446744073709551616):SK .u64 (a:Int) (b:Int)=some ((a/b:Nat):Int):=by
 unfold SK;rw[Aaw (by omega)];have e:(a:Int).tdiv (b:Int)=((a/b:Nat):Int):=rfl;have:a/b≤a:=Nat.div_le_self _ _;rw[e,Em _ (by omega)]
def yY (a b:Nat) (c:b≠0):Uy (a:Int) (b:Int)=some ((a%b:Nat):Int):=by
 unfold Uy;rw[Aaw (by omega)];rfl
def pB (a s:Nat) (d:s≤64):Do .u64 (a:Int) s=((a*2^s%18446744073709551616:Nat):Int):=by
 unfold Do;have b:min s IntKind.u64.bits=s:=by simp [IntKind.bits];omega
 have c:((a:Int)*2^s)=((a*2^s:Nat):Int):=by simp
 rw[b,c];exact mD _
def orN (a b:Nat) (g:a<18446744073709551616) (i:b<18446744073709551616):FX .or .u64 (a:Int) (b:Int)=((a|||b:Nat):Int):=by
 have c:(BitVec.ofInt 64 (a:Int)).toNat=a:=by rw[BitVec.ofInt_natCast,BitVec.toNat_ofNat];exact Adx (by omega)
 have d:(BitVec.ofInt 64 (b:Int)).toNat=b:=by rw[BitVec.ofInt_natCast,BitVec.toNat_ofNat];exact Adx (by omega)
 have j:a|||b<2^64:=Nat.or_lt_two_pow (by omega) (by omega)
 show IntKind.u64.wrap (((BitVec.ofInt 64 (a:Int))|||(BitVec.ofInt 64 (b:Int))).toNat:Int)=_
 rw[BitVec.toNat_or,c,d,Em _ (by omega)]
def YZ (a b:Nat):a=a/b*b+a%b:=by rw[Ado];exact(Ad9 a b).symm
def aY {Y A B u:Nat}(a:0<Y):(A*B+u)/Y=A/Y*B+(A%Y*B+u)/Y∧(A*B+u)%Y=(A%Y*B+u)%Y:=by
 have b:=Ad9 A Y;have e:A*B+u=Y*(A/Y*B)+(A%Y*B+u):=by
  conv=>lhs;rw[←b,Acg,Nat.mul_assoc,Adj]
 rw[e];exact⟨by rw[Nat.mul_add_div a],by rw[Nat.mul_add_mod]⟩
def Nv {a b q Y R:Nat}(g:a=q*Y+R) (c:R<18446744073709551616) (d:b=a%18446744073709551616):IntKind.u64.wrap ((b:Int)-IntKind.u64.wrap ((q*Y:Nat):Int))=(R:Int):=by
 rw[NU,NU];generalize q*Y=t at g
 omega
def Zk {N:Nat}(X:18446744073709551616<N) (w l y:Int) (s:Nat) (Z:s≤63) (m n:Nat) (Y c g k d:Nat) (p:Do .u64 y s=(Y:Int)) (q:Do .u64 l s=(c:Int)) (x:FX .or .u64 (Do .u64 w m) (EZ .u64 l n)=(g:Int))
  (o:9223372036854775808≤Y) (i:Y<18446744073709551616) (j:c<18446744073709551616) (hu:g<Y) (D:(g*4294967296+c/4294967296)=k*Y+d) (A:d<Y) (F:k<4294967296):
  De N w l y (s:Int) s m n s (k:Int)=some (((k*4294967296+(d*4294967296+c%4294967296)/Y:Nat):Int),(((d*4294967296+c%4294967296)%Y/2^s:Nat):Int)):=by
 have G:0<Y/4294967296:=by omega
 have H:Y/4294967296<4294967296:=by omega
 have u:c%4294967296<4294967296:=Ac2 _ (by omega);have B:IntKind.u64.wrap (IntKind.u64.wrap (IntKind.u64.wrap ((g:Int)*4294967296)+EZ .u64 (Do .u64 l s) 32)-IntKind.u64.wrap ((k:Int)*(Y:Int)))=(d:Int):=by
  rw[q,Oy,Qu];refine(Aaz (λz=>IntKind.u64.wrap (z-_)) ?_).trans (Nv (b:=(g*4294967296+c/4294967296)%18446744073709551616) D (by omega) rfl);rw[NU,NU];omega
 obtain⟨I,C,J,K⟩:=WS o i A (c%4294967296) u;unfold De;rw[x,p,B,Oy,pH _ _ (by omega) (by omega)];simp only[Aav];have M:IntKind.u64.wrap ((d:Int)-IntKind.u64.wrap (((d/(Y/4294967296):Nat):Int)*((Y/4294967296:Nat):Int)))=((d%(Y/4294967296):Nat):Int):=by
  rw[Qu];exact Nv (a:=d) C.symm (by omega) (by omega)
 rw[M,Ua N l y s s Y c d p q o i j A _ N _ _ (by omega) I K C J];unfold E0;have Q:QN (IntKind.u64.wrap (s:Int))=some s:=by
  rw[Em s (by omega)];unfold QN;rw[Aaw (by omega)];simp
 rw[x,p,Q,B,q,TI c j];simp only[Aav];have hd:=Ad9 (d*4294967296+c%4294967296) Y;have v:(d*4294967296+c%4294967296)/Y<4294967296:=(Aem (by omega)).2 (by omega);have U:(d*4294967296+c%4294967296)%Y<Y:=Ac2 _ (by omega);have V:IntKind.u64.wrap (IntKind.u64.wrap (IntKind.u64.wrap ((d:Int)*4294967296)+((c%4294967296:Nat):Int))-IntKind.u64.wrap (((((d*4294967296+c%4294967296)/Y:Nat)):Int)*(Y:Int)))=(((d*4294967296+c%4294967296)%Y:Nat):Int):=by
  rw[Qu];refine(Aaz (λz=>IntKind.u64.wrap (z-_)) ?_).trans (Nv (a:=d*4294967296+c%4294967296) (b:=(d*4294967296+c%4294967296)%18446744073709551616) (YZ _ _) (by omega) rfl);rw[NU,NU];omega
 have W:IntKind.u64.wrap (IntKind.u64.wrap ((k:Int)*4294967296)+((((d*4294967296+c%4294967296)/Y:Nat)):Int))=((k*4294967296+(d*4294967296+c%4294967296)/Y:Nat):Int):=by
  rw[NU,NU];generalize (d*4294967296+c%4294967296)/Y=t at v
  omega
 rw[V,W,W8 _ s (by omega)]
def jS (a u:Nat):(a*4294967296+u/4294967296)*4294967296+u%4294967296=a*18446744073709551616+u:=by omega
def eL {N:Nat}(D:18446744073709551616<N) (o m y:Int) (s:Nat) (F:s≤63) (g i:Nat) (Y c b:Nat) (p:Do .u64 y s=(Y:Int)) (w:Do .u64 m s=(c:Int)) (x:FX .or .u64 (Do .u64 o g) (EZ .u64 m i)=(b:Int))
  (l:9223372036854775808≤Y) (j:Y<18446744073709551616) (k:c<18446744073709551616) (q:b<Y):
  ((SK .u64 (FX .or .u64 (Do .u64 o g) (EZ .u64 m i)) (EZ .u64 (Do .u64 y s) 32)).bind λn=>
   DH N m y s s (De N o m y (s:Int) s g i s) N n (IntKind.wrap .u64 ((FX .or .u64 (Do .u64 o g) (EZ .u64 m i))-(IntKind.wrap .u64 (n*(EZ .u64 (Do .u64 y s) 32))))))=
  some ((((b*18446744073709551616+c)/Y:Nat):Int),(((b*18446744073709551616+c)%Y/2^s:Nat):Int)):=by
 have d:0<Y:=by omega
 have t:c/4294967296<4294967296:=by omega
 obtain⟨G,z,H,I⟩:=WS l j q (c/4294967296) t;obtain⟨C,t2⟩:=aY (Y:=Y) (A:=b*4294967296+c/4294967296) (B:=4294967296) (u:=c%4294967296) d;rw[jS] at C t2;rw[C,t2,x,p,Oy,pH _ _ (by omega) (by omega)];simp only[Aav];have J:IntKind.u64.wrap ((b:Int)-IntKind.u64.wrap (((b/(Y/4294967296):Nat):Int)*((Y/4294967296:Nat):Int)))=((b%(Y/4294967296):Nat):Int):=by
  rw[Qu];exact Nv (a:=b) z.symm (by omega) (by omega)
 have v:(b*4294967296+c/4294967296)/Y<4294967296:=(Aem d).2 (by omega);rw[J,Ub N _ _ s s Y c b p w l j k q _ N _ _ (by omega) G I z H];exact Zk D _ _ _ s F g i Y c b _ _ p w x l j k q (YZ _ _) (Ac2 _ d) v
def bW {g l s M:Nat}(b:M=2^64) (d:s≤63):(g*2^s+l/2^(64-s))*M+l*2^s%M=(g*M+l)*2^s:=by
 have e:(2:Nat)^64=2^(64-s)*2^s:=by rw[←Nat.pow_add];congr 1;omega
 have c:l*2^s/M=l/2^(64-s):=by
  rw[b,e,Nat.mul_div_mul_right _ _ (Ad8 s)]
 have a:=Ad9 (l*2^s) M;rw[c] at a;rw[Acg,Acg,Nat.mul_right_comm g,Adj,Ado (l/2^(64-s)) M];exact Aaz _ a
def eO {N:Nat}(o:18446744073709551616<N) (B l y:Nat) (c:l<18446744073709551616) (p:y<18446744073709551616) (k:B<y):
  Fl N (B:Int) (l:Int) (y:Int)=some ((((B*18446744073709551616+l)/y:Nat):Int),(((B*18446744073709551616+l)%y:Nat):Int)):=by
 unfold Fl;rw[show decide ((y:Int)=0)=false by simp;omega,show decide ((y:Int)≤(B:Int))=false by simp;omega,Aa0,Aa0];rcases Aen B with e|hp
 ·subst e;rw[show decide (((0:Nat):Int)=0)=true by simp,Aax,pH _ _ (by omega) c,yY _ _ (by omega),Nat.zero_mul,Abz];rfl
 ·rw[show decide ((B:Int)=0)=false by simp;omega,Aa0];obtain⟨s,q,m,u,d⟩:=mU N (show 0<y by omega) p;have n:∀t:Nat,t≤64→QN (IntKind.u64.wrap (t:Int))=some t:=λt A=>by
   rw[Em t (by omega)];unfold QN;rw[Aaw (by omega)];simp
  have g:(64:Int)-IntKind.u64.wrap (s:Int)=((64-s:Nat):Int):=by rw[Em s (by omega)];omega
  rw[q,Aav,g,n s (by omega),n (64-s) (by omega),Aav,Aav,Aav,Aav];have a:B*2^s<18446744073709551616:=Aea (Acq _ (Nat.le_of_lt k)) d;have b:l/2^(64-s)<2^s:=by
   refine(Aem (Ad8 _)).2 ?_;rw[←Nat.pow_add,show s+(64-s)=64 by omega];exact c
  have i:l/2^(64-s)<18446744073709551616:=Aea (Nat.div_le_self _ _) c;have j:B*2^s|||l/2^(64-s)=B*2^s+l/2^(64-s):=by
   rw[Ado B];exact(Nat.two_pow_add_eq_or_of_lt b B).symm
  have v:Do .u64 (y:Int) s=((y*2^s:Nat):Int):=by rw[pB _ _ (by omega),Adx d]
  have w:Do .u64 (l:Int) s=((l*2^s%18446744073709551616:Nat):Int):=pB _ _ (by omega);have x:FX .or .u64 (Do .u64 (B:Int) s) (EZ .u64 (l:Int) (64-s))=((B*2^s+l/2^(64-s):Nat):Int):=by
   rw[pB _ _ (by omega),W8 _ _ (by omega),Adx a,orN _ _ a i,j]
  have z:B*2^s+l/2^(64-s)<y*2^s:=by
   have:(B+1)*2^s≤y*2^s:=Acq _ k;rw[Acg,Nat.one_mul] at this;exact Aa9 (Nat.add_lt_add_left b _) this
  have hd:=eL o (B:Int) (l:Int) (y:Int) s m s (64-s) _ _ _ v w x u d (Ac2 _ (by omega)) z;rw[bW (M:=18446744073709551616) rfl m,Nat.mul_div_mul_right _ _ (Ad8 s),Nat.mul_mod_mul_right,Nat.mul_div_cancel _ (Ad8 s)] at hd;exact hd
def vL (a n d:Int):Int×Int×Bool:=if (0≤a∧a≤1125899906842624)∧(0≤n∧n≤1125899906842624)∧(1≤d∧d≤1125899906842624)∧a*n/d≤1125899906842624 then (a*n/d,a*n%d,true) else (0,0,false)
def pC {t d:Nat}(hd:0<d) (a:d≤t/18446744073709551616):18446744073709551616≤t/d:=by
 refine(Nat.le_div_iff_mul_le hd).2 ?_;omega
def Oz {N:Nat}(t:18446744073709551616<N) (a n d:Int):Fx N a n d=some (vL a n d):=by
 unfold Fx vL;cases m:(((((decide (a<0)||decide (1125899906842624<a))||decide (n<0))||decide (1125899906842624<n))||decide (d<1))||decide (1125899906842624<d))
 ·simp only[Abu,Abp] at m;obtain⟨⟨⟨⟨⟨y,z⟩,A⟩,B⟩,C⟩,D⟩:=m;obtain⟨b,rfl⟩:∃k:Nat,a=k:=⟨a.toNat,by omega⟩
  obtain⟨c,rfl⟩:∃k:Nat,n=k:=⟨n.toNat,by omega⟩
  obtain⟨g,rfl⟩:∃k:Nat,d=k:=⟨d.toNat,by omega⟩
  rw[Aa0,Em b (by omega),Em c (by omega),Em g (by omega),TH N b c (by omega) (by omega)];simp only[Aav];have u:(b:Int)*(c:Int)/(g:Int)=((b*c/g:Nat):Int):=by rw[Int.natCast_ediv,Int.natCast_mul]
  have v:(b:Int)*(c:Int)%(g:Int)=((b*c%g:Nat):Int):=by rw[Int.natCast_emod,Int.natCast_mul]
  rw[u,v];have o:b*c/18446744073709551616*18446744073709551616+b*c%18446744073709551616=b*c:=(YZ _ _).symm;have j:0<g:=by omega
  by_cases l:g≤b*c/18446744073709551616
  ·rw[show decide ((g:Int)≤((b*c/18446744073709551616:Nat):Int))=true from Abs (Int.ofNat_le.2 l),Aax,Aaw];intro F;have p:=F.2.2.2;have w:=pC j l;generalize b*c/g=q at p w
   omega
  ·have s:¬(g:Int)≤((b*c/18446744073709551616:Nat):Int):=λF=>l (Int.ofNat_le.1 F);rw[Abe s,Aa0,eO t _ _ _ (Ac2 _ (by omega)) (by omega) (Nat.lt_of_not_le l),o];simp only[Aav];have x:b*c%g<g:=Ac2 _ j;generalize b*c/g=q
   generalize b*c%g=r at x
   by_cases p:q≤1125899906842624
   ·have i:¬(1125899906842624:Int)<(q:Int):=by omega
    rw[Abe i,Aa0,Aay ⟨by omega,by omega,by omega,by omega⟩,DJ (by omega) (by omega),DJ (by omega) (by omega)]
   ·have i:(1125899906842624:Int)<(q:Int):=by omega
    rw[Abs i,Aax,Aaw (λF=>p (by have:=F.2.2.2;omega))]
 ·rw[Aax,Aaw];intro F;simp only[Abq,Abh] at m;omega
def LP (b x:Bool):cond b true x=(b||x):=by cases b<;>rfl
def QM (b x:Bool):cond b x false=(b&&x):=by cases b<;>rfl
def BF {k:Nat}(a:k<4611686018427387904):BC ((k:Int)+1)=((k+1:Nat):Int):=by rw[DJ (by omega) (by omega)];rfl
def ER {k L:Nat}(a:k<L):decide ((k:Int)<(L:Int))=true:=by simp;omega
def ES {k L:Nat}(a:L≤k):decide ((k:Int)<(L:Int))=false:=by simp;omega
def JB (L:Nat) (f:Nat→Int→Option Bool) (kj:Option Bool) (P:Nat→Prop) (a:∀n (k:Nat),L≤k→f (n+1) (k:Int)=kj) (b:∀n (k:Nat),k<L→f (n+1) (k:Int)=some false∨(P k∧f (n+1) (k:Int)=f n ((k+1:Nat):Int))):
  ∀n (k:Nat),L<n+k→k≤L→f n (k:Int)=some false∨((∀i,k≤i→i<L→P i)∧f n (k:Int)=kj)
 |0,k,o,l=>by omega
 |n+1,k,o,l=>by
  rcases Abk k L with d|d
  ·rcases b n k d with g|⟨g,h2⟩
   ·exact .inl g
   ·rcases JB L f kj P a b n (k+1) (by omega) (by omega) with j|⟨j,h4⟩
    ·exact .inl (h2.trans j)
    ·refine .inr ⟨λi m c=>?_,h2.trans h4⟩;by_cases e:i=k
     ·subst e;exact g
     ·exact j i (by omega) c
  ·exact .inr ⟨λi m c=>by omega,a n k d⟩
def YI {σ q:Type}(L:Nat) (f:Nat→Int→σ→Option q) (kj:σ→Option q) (I:σ→Prop) (a:∀n (k:Nat) s,L≤k→f (n+1) (k:Int) s=kj s) (b:∀n (k:Nat) s,I s→k<L→∃s',I s'∧f (n+1) (k:Int) s=f n ((k+1:Nat):Int) s'):
  ∀n (k:Nat) s,I s→L<n+k→k≤L→∃s',I s'∧f n (k:Int) s=kj s'
 |0,k,s,_,t,g=>by omega
 |n+1,k,s,d,t,g=>by
  rcases Abk k L with c|c
  ·obtain⟨i,j,l⟩:=b n k s d c;obtain⟨m,o,p⟩:=YI L f kj I a b n (k+1) i j (by omega) (by omega);exact⟨m,o,l.trans p⟩
  ·exact⟨s,d,a n k s c⟩
def Um (n:Int):Bool:=decide (0≤n)&&decide (n≤1125899906842624)
def LI {n:Int}(a:Um n=true):JI n:=by simpa [Um,JI] using a
def Ma (N:Nat) (n:Int):CS N n=some (Um n):=rfl
def dT (n a b:Int):Bool:=decide (a≤n)&&decide (n≤b)
def ND (N:Nat) (n a b:Int):Cj N n a b=some (dT n a b):=rfl
def KC {n a b:Int}(c:dT n a b=true):a≤n∧n≤b:=by simpa [dT] using c
def UV (a b:Int):Bool:=(Um a&&Um b)&&(decide (b≠0)||decide (a=0))
def Q0 (N:Nat) (a b:Int):HG N a b=some (UV a b):=by
 simp only[HG,Ma,Aav,F6,QM,UV]
def Pi {a b:Int}(c:UV a b=true):JI a∧JI b:=by
 simp only[UV,Aa3] at c;exact⟨LI c.1.1,LI c.1.2⟩
def Qy (N:Nat) (n:Int){L:Nat}(a:L<4611686018427387904):FC N n (L:Int)=some (dT n 0 ((L:Int)-1)):=by
 simp only[FC,ND,Aav];rw[DJ (by omega) (by omega)]
def Vy (L:Nat) (fr to:Int):Bool:=decide (to= -1)||(dT to 0 ((L:Int)-1)&&decide (to≠fr))
def RK (N:Nat) (b:AF) (fr to:Int) (a:b.A.length<4611686018427387904):I3 N b fr to=some (Vy b.A.length fr to):=by
 simp only[I3,Qy N _ a,Aav,F6,LP,Vy]
def Xq {L:Nat}{fr to:Int}(a:Vy L fr to=true):to= -1∨(0≤to∧to<L):=by
 simp only[Vy,Abq,Aa3,Abh] at a;rcases a with a|a
 ·exact .inl a
 ·have:=KC a.1;exact .inr ⟨this.1,by omega⟩
structure IP (b:AF):Prop where
 own:b.F.length≤16
 cells:0≤b.P∧b.P≤64
 pl:b.A.length≤64
 li:b.G.length≤96
 to:b.Ac.length≤40
 ga:b.Af.length≤128
 ro:b.Ag.length≤128
 sh:b.Aj.length≤40
 own1:1≤b.F.length
def VL {s:ByteArray}{k:Nat}(a:k<s.size):∃z,VM s (k:Int)=some z:=by
 unfold VM;rw[Aaw (by omega)];simp only[Ab0];exact⟨_,by rw[getElem?_pos s k a];rfl⟩
def jQ {N:Nat}(q:1000<N) (b:AF):∃v,Hg N b=some v∧(v=true→IP b):=by
 unfold Hg;simp only[ND,Aav,F6,LP];generalize d:(_|| !dT b.Q 0 1099511627776)=B
 cases B
 ·simp only[Abu,Abp,Ac8] at d;obtain⟨⟨⟨⟨⟨⟨⟨⟨⟨⟨s,g⟩,i⟩,j⟩,t⟩,u⟩,w⟩,x⟩,y⟩,l⟩,m⟩:=d;have A:=KC g;have C:=KC i;have D:=KC j;have c:IP b:=⟨by omega,by omega,by omega,by omega,by omega,by omega,by omega,by omega,by omega⟩
  simp only[Aa0];have a:∃v,EH N b=some v:=by
   unfold EH;rcases JB b.Al.length (EF N b (Gd N)) (Gd N) (λ_=>True) (λn k F=>by
    simp only[EF];rw[ES F];rfl) (λn k F=>by
    simp only[EF];rw[ER F,Aax,BI F];simp only[Aav,Ma,BF (show k<4611686018427387904 by omega)];cases Um b.Al[k]
    ·exact .inl rfl
    ·exact .inr ⟨trivial,rfl⟩) N 0 (by omega) (Aa4 _) with F|⟨_,F⟩
   ·exact⟨_,F⟩
   ·exact⟨true,F⟩
  rcases JB b.J.size (EG N b (EH N b)) (EH N b) (λ_=>True) (λn k F=>by
    simp only[EG];rw[ES F];rfl) (λn k F=>by
    simp only[EG];obtain⟨z,o⟩:=VL F;rw[ER F,Aax,o];simp only[Aav,BF (show k<4611686018427387904 by omega)];cases (decide (z<32)||decide (126<z)||decide (z=34)||decide (z=92))
    ·exact .inr ⟨trivial,rfl⟩
    ·exact .inl rfl) N 0 (by omega) (Aa4 _) with F|⟨_,F⟩
  ·exact⟨false,F,λF=>by cases F⟩
  ·obtain⟨v,p⟩:=a;exact⟨v,F.trans p,λ_=>c⟩
 ·exact⟨false,rfl,λF=>by cases F⟩
def Zf {N:Nat}(d:1000<N) (s:ByteArray):Df (Jq N s):=by
 unfold Jq;cases c:(decide ((s.size:Int)<1)||decide (24<(s.size:Int))||s==ByteArray.mk #[111,117,116])
 ·simp only[Abu,Abp] at c;obtain⟨z,a⟩:=VL (s:=s) (k:=0) (by omega);have b:VM s 0=some z:=a;simp only[Aa0,b,Aav,F6,LP];refine Df.cond (λ_=>Df.mk _) λ_=>?_;rcases JB s.size (Fo N s (Hh N)) (Hh N) (λ_=>True) (λn k g=>by
    simp only[Fo];rw[ES g];rfl) (λn k g=>by
    simp only[Fo];obtain⟨z,a⟩:=VL g;rw[ER g,Aax,a];simp only[Aav,BF (show k<4611686018427387904 by omega)];cases (((decide (z<97)||decide (122<z))&&(decide (z<48)||decide (57<z)))&&decide (z≠95))
    ·exact .inr ⟨trivial,rfl⟩
    ·exact .inl rfl) N 1 (by omega) (by omega) with g|⟨_,g⟩
  ·exact⟨_,g⟩
  ·exact⟨_,g⟩
 ·simp only[Aax,Aav];exact Df.mk _
def dZ {N:Nat}(d:1000<N) (m:List (AG×Bool)) (a b:ByteArray):Df (KM N m a b):=by
 have c:∀s,Df (H5 N m b s):=λs=>by
  unfold H5;exact Df.bind (Zf d b) λ_ _=>Df.cond (λ_=>Df.mk _) λ_=>Df.mk _
 unfold KM;exact Df.cond (λ_=>c _) λ_=>c _
def Mp {N:Nat}(d:1000<N) (m:List (AG×Bool)) (c:Bool) (a b:ByteArray):∃v,C2 N m c a b=some v:=by
 unfold C2;exact Df.bind (dZ d m a b) λ_ _=>Df.mk _
def cV {N:Nat}(c:1000<N){b:AF}(m:IP b):Df (JF N b):=by
 obtain⟨u,w,x,y,z,B,C,D⟩:=m;have d:∀{σ} (L:Nat) (f:Nat→Int→σ→Option Bool) (kj:σ→Option Bool),L≤128→(∀n (k:Nat) s,L≤k→f (n+1) (k:Int) s=kj s)→(∀n (k:Nat) s,k<L→∃s',f (n+1) (k:Int) s=f n ((k+1:Nat):Int) s')→(∀s,Df (kj s))→∀s,Df (f N 0 s):=λL f kj H g o i s=>by
  obtain⟨s',_,e⟩:=YI L f kj (λ_=>True) g (λn k s _ I=>by obtain⟨s',h'⟩:=o n k s I;exact⟨s',trivial,h'⟩) N 0 s trivial (by omega) (Aa4 _);obtain⟨v,a⟩:=i s';exact⟨v,e.trans a⟩
 have j:∀s:Bool×List (AG×Bool),Df (DC N b (EM N) N 0 s.1 s.2):=d (σ:=Bool×List (AG×Bool)) b.Ag.length (λn k s=>DC N b (EM N) n k s.1 s.2) (λs=>EM N s.1) (by omega) (λn k s I=>by simp only[DC];rw[ES I];rfl)
  (λn k s I=>by
   simp only[DC];rw[ER I,Aax,BI I];simp only[Aav];obtain⟨v,a⟩:=Mp c s.2 s.1 (ByteArray.mk #[114,111,97,100]) (b.Ag[k]).J;rw[a];simp only[Aav,BF (show k<4611686018427387904 by omega)];exact⟨(v.2,v.1),rfl⟩) (λs=>Df.mk _)
 have l:∀s:Bool×List (AG×Bool),Df (DD N b (EN N b) N 0 s.1 s.2):=d (σ:=Bool×List (AG×Bool)) b.Af.length (λn k s=>DD N b (EN N b) n k s.1 s.2) (λs=>EN N b s.1 s.2) (by omega) (λn k s I=>by simp only[DD];rw[ES I];rfl)
  (λn k s I=>by
   simp only[DD];rw[ER I,Aax,BI I];simp only[Aav];obtain⟨v,a⟩:=Mp c s.2 s.1 (ByteArray.mk #[103,97,117,103,101]) (b.Af[k]).J;rw[a];simp only[Aav,BF (show k<4611686018427387904 by omega)];exact⟨(v.2,v.1),rfl⟩) (λs=>j s)
 have p:∀s:Bool×List (AG×Bool),Df (DM N b (Ef N b) N 0 s.1 s.2):=d (σ:=Bool×List (AG×Bool)) b.Aj.length (λn k s=>DM N b (Ef N b) n k s.1 s.2) (λs=>Ef N b s.1 s.2) (by omega) (λn k s I=>by simp only[DM];rw[ES I];rfl)
  (λn k s I=>by
   simp only[DM];rw[ER I,Aax,BI I];simp only[Aav];obtain⟨v,a⟩:=Mp c s.2 s.1 (ByteArray.mk #[115,104,101,108,116,101,114]) (b.Aj[k]).J;rw[a];simp only[Aav,BF (show k<4611686018427387904 by omega)];exact⟨(v.2,v.1),rfl⟩) (λs=>l s)
 have q:∀s:Bool×List (AG×Bool),Df (DN N b (Eg N b) N 0 s.1 s.2):=d (σ:=Bool×List (AG×Bool)) b.Ac.length (λn k s=>DN N b (Eg N b) n k s.1 s.2) (λs=>Eg N b s.1 s.2) (by omega) (λn k s I=>by simp only[DN];rw[ES I];rfl)
  (λn k s I=>by
   simp only[DN];rw[ER I,Aax,BI I];simp only[Aav];obtain⟨v,a⟩:=Mp c s.2 s.1 (ByteArray.mk #[116,111,119,110]) (b.Ac[k]).J;rw[a];simp only[Aav,BF (show k<4611686018427387904 by omega)];exact⟨(v.2,v.1),rfl⟩) (λs=>p s)
 have t:∀s:Bool×List (AG×Bool),Df (DO N b (Eh N b) N 0 s.1 s.2):=d (σ:=Bool×List (AG×Bool)) b.G.length (λn k s=>DO N b (Eh N b) n k s.1 s.2) (λs=>Eh N b s.1 s.2) (by omega) (λn k s I=>by simp only[DO];rw[ES I];rfl)
  (λn k s I=>by
   simp only[DO];rw[ER I,Aax,BI I];simp only[Aav];obtain⟨v,a⟩:=Mp c s.2 s.1 (ByteArray.mk #[108,105,110,107]) (b.G[k]).J;rw[a];simp only[Aav,BF (show k<4611686018427387904 by omega)];exact⟨(v.2,v.1),rfl⟩) (λs=>q s)
 have i:∀s:Bool×List (AG×Bool),Df (DP N b (Ei N b) N 0 s.1 s.2):=d (σ:=Bool×List (AG×Bool)) b.A.length (λn k s=>DP N b (Ei N b) n k s.1 s.2) (λs=>Ei N b s.1 s.2) (by omega) (λn k s I=>by simp only[DP];rw[ES I];rfl)
  (λn k s I=>by
   simp only[DP];rw[ER I,Aax,BI I];simp only[Aav];obtain⟨v,a⟩:=Mp c s.2 s.1 (ByteArray.mk #[112,108,97,99,101]) (b.A[k]).J;rw[a];simp only[Aav,BF (show k<4611686018427387904 by omega)];exact⟨(v.2,v.1),rfl⟩) (λs=>t s)
 have g:∀s:Bool×List (AG×Bool),Df (DQ N b (Ej N b) N 0 s.1 s.2):=d (σ:=Bool×List (AG×Bool)) b.F.length (λn k s=>DQ N b (Ej N b) n k s.1 s.2) (λs=>Ej N b s.1 s.2) (by omega) (λn k s I=>by simp only[DQ];rw[ES I];rfl)
  (λn k s I=>by
   simp only[DQ];rw[ER I,Aax,BI I];simp only[Aav];obtain⟨v,a⟩:=Mp c s.2 s.1 (ByteArray.mk #[111,119,110,101,114]) (b.F[k]);rw[a];simp only[Aav,BF (show k<4611686018427387904 by omega)];exact⟨(v.2,v.1),rfl⟩) (λs=>i s)
 exact g (true,[])
structure IG (b:AF) (p:EW):Prop where
 lev:IH p.Bn
 num:JI p.Y
 den:JI p.T
 down:p.Ap= -1∨(0≤p.Ap∧p.Ap<b.A.length)
 cap:JI p.Au
 delay:0≤p.S∧p.S≤240
def V3 {N:Nat}(p:EW) (kj:Int→Option Bool) (b:p.Be.length≤16):∀(n:Nat) (s:Int) (k:Nat),p.Be.length<n+k→k≤p.Be.length→DB N p kj n s (k:Int)=some false∨∃s',DB N p kj n s (k:Int)=kj s'
 |0,s,k,d,c=>by omega
 |n+1,s,k,d,c=>by
  simp only[DB];rcases Abk k p.Be.length with a|a
  ·rw[ER a,Aax,BI a];simp only[Aav,Ma,BF (show k<4611686018427387904 by omega)];cases Um p.Be[k]
   ·exact .inl rfl
   ·exact V3 (N:=N) p kj b n _ (k+1) (by omega) (by omega)
  ·rw[ES a];exact .inr ⟨s,rfl⟩
def YA {N:Nat}(b:AF) (p:EW) (a:Int) (kj:Int→Option Bool) (g:0≤b.P∧b.P≤64):∀(n:Nat) (s:Int) (k:Nat), -1≤s→s≤64→65<n+s→k<100→(k:Int)≤s+1→DA N b p a kj n s (k:Int)=some false∨DA N b p a kj n s (k:Int)=kj a
 |0,s,k,i,j,l,m,o=>by omega
 |n+1,s,k,i,j,l,m,o=>by
  simp only[DA];rcases Abk k p.Aa.length with c|c
  ·rw[ER c,Aax,BI c];simp only[Aav,Ma,F6,LP,BF (show k<4611686018427387904 by omega)];cases d:(decide ((p.Aa[k]).Bh≤s)||decide (b.P≤(p.Aa[k]).Bh)|| !Um (p.Aa[k]).Bm)
   ·simp only[Abu,Abp] at d;obtain⟨⟨q,t⟩,u⟩:=d;exact YA (N:=N) b p a kj g n _ (k+1) (by omega) (by omega) (by omega) (by omega) (by omega)
   ·exact .inl rfl
  ·rw[ES c];exact .inr rfl
def UJ {N:Nat}(o:1000<N) (b:AF) (a:IP b):∀(n:Nat) (s:Int) (k:Nat),b.A.length<n+k→k≤b.A.length→∃v,Bw N b (CA N) n s (k:Int)=some v∧(v=true→∀(i:Nat) p,k≤i→b.A[i]? =some p→IG b p)
 |0,s,k,Y,q=>by omega
 |n+1,s,k,Y,q=>by
  have Q:=a.pl;simp only[Bw];rcases Abk k b.A.length with c|c
  ·rw[ER c,Aax,BI c];obtain⟨U,g,j⟩:=Jr (N:=N) (by omega) (b.A[k]).Bn;simp only[Aav,ND,Ma,Q0,g,RK N b _ _ (show b.A.length<4611686018427387904 by omega),F6,LP];generalize l:(_|| !Vy b.A.length (k:Int) (b.A[k]).Ap)=B
   cases B
   ·simp only[Abu,Abp,Ac8] at l;obtain⟨⟨⟨⟨⟨⟨⟨⟨V,W⟩,t⟩,u⟩,X⟩,w⟩,x⟩,m⟩,y⟩:=l;have z:(b.A[k]).Be.length=b.F.length:=by
     have:((b.A[k]).Be.length:Int)=(b.F.length:Int):=by simpa using x
     omega
    have C:IG b b.A[k]:=⟨j w,(Pi m).1,(Pi m).2,Xq y,LI u,KC t⟩
    simp only[Aa0];rcases V3 (N:=N) b.A[k] (EL N b b.A[k] (Cr N (k:Int) (Bw N b (CA N) n))) (by have:=a.own;omega) N s 0 (by have:=a.own;omega) (Aa4 _) with e|⟨s',e⟩
    ·exact⟨false,e,λY=>by cases Y⟩
    ·have D:DB N b.A[k] (EL N b b.A[k] (Cr N (k:Int) (Bw N b (CA N) n))) N s 0=_:=e;rw[D];unfold EL;rcases YA (N:=N) b b.A[k] s' (Cr N (k:Int) (Bw N b (CA N) n)) a.cells N (-1) 0 (by omega) (by omega) (by omega) (by omega) (by omega) with e|e
     ·exact⟨false,e,λY=>by cases Y⟩
     ·have G:DA N b b.A[k] s' (Cr N (k:Int) (Bw N b (CA N) n)) N (-1) 0=_:=e;rw[G];unfold Cr;rw[BF (show k<4611686018427387904 by omega)];obtain⟨v,H,I⟩:=UJ o b a n s' (k+1) (by omega) (by omega);refine⟨v,H,λJ i p K d=>?_⟩;by_cases M:i=k
      ·subst M;have:p=b.A[i]:=by simpa [c] using d.symm
       rw[this];exact C
      ·exact I J i p (by omega) d
   ·exact⟨false,rfl,λY=>by cases Y⟩
  ·rw[ES c];refine⟨_,rfl,λ_ i p K d=>?_⟩;have:=(Aba.1 d).1;omega
def ZW {N:Nat}(c:1000<N) (b:AF) (a:IP b):∃v,Hq N b=some v∧(v=true→∀p∈b.A,IG b p):=by
 obtain⟨v,d,g⟩:=UJ c b a N 0 0 (by have:=a.pl;omega) (Aa4 _);refine⟨v,d,λj p k=>?_⟩;obtain⟨i,l,rfl⟩:=Aeo.1 k;exact g j i _ (Aa4 _) (by simp [l])
structure J8 (b:AF) (l:BO):Prop where
 kind:0≤l.H∧l.H≤5
 fr:0≤l.I∧l.I<b.A.length
 to:l.C= -1∨(0≤l.C∧l.C<b.A.length)
 delay:0≤l.S∧l.S≤240
 gate:l.H=0→IH l.Av∧IH l.Ah.Ay∧IH l.Ah.Az∧JI l.Ar∧JI l.An
 part:l.H=1∨l.H=5∨l.H=3→JI l.Y∧1≤l.T∧l.T≤1125899906842624
 seep:l.H=4→JI l.Y∧1≤l.T∧l.T≤1125899906842624∧JI l.Ar∧JI l.An∧l.C≠ -1
def aM {N:Nat}(d:18446744073709551616<N) (a b:List BT) (g:1≤a.length) (c:a.length≤32) (i:b.length≤32):Df (Gb N a b):=by
 unfold Gb;rcases JB b.length (GZ N a b (H4 N)) (H4 N) (λ_=>True) (λn k l=>by
  simp only[GZ];rw[ES l];rfl) (λn k l=>by
  simp only[GZ];obtain⟨v,j⟩:=Si d g c (b[k]).R;rw[ER l,Aax,BI l];simp only[Aav,j,BF (show k<4611686018427387904 by omega)];cases (decide ((b[k]).W<v.1)||decide (v.1=(b[k]).W)&&v.2)
  ·exact .inr ⟨trivial,rfl⟩
  ·exact .inl rfl) N 0 (by omega) (Aa4 _) with l|⟨_,l⟩
 ·exact⟨_,l⟩
 ·exact⟨true,l⟩
def Qe {N:Nat}(d:18446744073709551616<N) (a b:List BT):Df (H0 N a b):=by
 unfold H0;obtain⟨s,i,j⟩:=Jr (N:=N) (by omega) a;obtain⟨t,l,m⟩:=Jr (N:=N) (by omega) b;simp only[i,l,Aav,F6,LP];refine Df.cond (λ_=>Df.mk _) λu=>?_;simp only[Abu,Ac8] at u;obtain⟨o,p,_⟩:=j u.1;obtain⟨q,g,_⟩:=m u.2;rcases JB a.length (Ga N a b (Gb N a b)) (Gb N a b) (λ_=>True) (λn k u=>by
  simp only[Ga];rw[ES u];rfl) (λn k u=>by
  simp only[Ga];obtain⟨v,c⟩:=Si d q g (a[k]).R;rw[ER u,Aax,BI u];simp only[Aav,c,BF (show k<4611686018427387904 by omega)];cases decide (v.1<(a[k]).W)
  ·exact .inr ⟨trivial,rfl⟩
  ·exact .inl rfl) N 0 (by omega) (Aa4 _) with u|⟨_,u⟩
 ·exact⟨_,u⟩
 ·obtain⟨v,c⟩:=aM d a b o p g;exact⟨v,u.trans c⟩
def UZ {N:Nat}(m:18446744073709551616<N) (l:BO):∃v,Fh N l=some v∧(v=true→
  (l.H=0→IH l.Av∧IH l.Ah.Ay∧IH l.Ah.Az∧JI l.Ar∧JI l.An)∧(l.H=1∨l.H=5∨l.H=3→JI l.Y∧1≤l.T∧l.T≤1125899906842624)∧
  (¬(l.H=0∨l.H=1∨l.H=5∨l.H=2∨l.H=3)→JI l.Y∧1≤l.T∧l.T≤1125899906842624∧JI l.Ar∧JI l.An∧l.C≠ -1)):=by
 obtain⟨v1,q,s⟩:=Jr (N:=N) (by omega) l.Av;obtain⟨D,t,u⟩:=Jr (N:=N) (by omega) l.Ah.Ay;obtain⟨F,w,x⟩:=Jr (N:=N) (by omega) l.Ah.Az;obtain⟨G,y⟩:=Qe m l.Ah.Ay l.Av;obtain⟨I,z⟩:=Qe m l.Av l.Ah.Az;unfold Fh;by_cases k0:l.H=0
 ·rw[show decide (l.H=0)=true by simp [k0],Aax];simp only[q,t,w,y,z,ND,Ma,Q0,Aav,F6,QM];refine⟨_,rfl,λV=>?_⟩;simp only[Aa3] at V;obtain⟨⟨⟨⟨⟨⟨⟨⟨⟨d,a⟩,b⟩,i⟩,A⟩,J⟩,K⟩,M⟩,n⟩,B⟩:=V;exact⟨λ_=>⟨s d,u a,x b,(Pi n).1,(Pi n).2⟩,λV=>by omega,λV=>absurd (.inl k0) V⟩
 ·rw[show decide (l.H=0)=false by simp [k0],Aa0];have o:∀c:Bool,(c=true↔l.H=1∨l.H=5)→∃v,Dm N l c=some v∧(v=true→
    (l.H=0→IH l.Av∧IH l.Ah.Ay∧IH l.Ah.Az∧JI l.Ar∧JI l.An)∧(l.H=1∨l.H=5∨l.H=3→JI l.Y∧1≤l.T∧l.T≤1125899906842624)∧
    (¬(l.H=0∨l.H=1∨l.H=5∨l.H=2∨l.H=3)→JI l.Y∧1≤l.T∧l.T≤1125899906842624∧JI l.Ar∧JI l.An∧l.C≠ -1)):=λc p=>by
   unfold Dm;simp only[ND,Ma,Q0,Aav,F6,QM];cases c
   ·have Q:¬(l.H=1∨l.H=5):=λV=>by have:=p.2 V;cases this
    rw[Aa0];by_cases j:l.H=2
    ·rw[show decide (l.H=2)=true by simp [j],Aax];exact⟨_,rfl,λ_=>⟨λV=>absurd V k0,λV=>by omega,λV=>absurd (.inr (.inr (.inr (.inl j)))) V⟩⟩
    ·rw[show decide (l.H=2)=false by simp [j],Aa0];by_cases k:l.H=3
     ·rw[show decide (l.H=3)=true by simp [k],Aax];refine⟨_,rfl,λV=>?_⟩;simp only[Aa3] at V;obtain⟨⟨⟨⟨d,a⟩,b⟩,i⟩,A⟩:=V;exact⟨λV=>absurd V k0,λ_=>⟨LI d,KC a⟩,λV=>absurd (.inr (.inr (.inr (.inr k)))) V⟩
     ·rw[show decide (l.H=3)=false by simp [k],Aa0];refine⟨_,rfl,λV=>?_⟩;simp only[Aa3,Abh] at V;obtain⟨⟨⟨d,a⟩,b⟩,i⟩:=V;exact⟨λV=>absurd V k0,λV=>by omega,λ_=>⟨LI d,(KC a).1,(KC a).2,(Pi b).1,(Pi b).2,i⟩⟩
   ·have U:=p.1 rfl;rw[Aax];refine⟨_,rfl,λV=>?_⟩;simp only[Aa3] at V;obtain⟨⟨d,a⟩,b⟩:=V;exact⟨λV=>absurd V k0,λ_=>⟨LI a,KC b⟩,λV=>by omega⟩
  by_cases g:l.H=1
  ·rw[show decide (l.H=1)=true by simp [g],Aax];exact o true (by simp [g])
  ·rw[show decide (l.H=1)=false by simp [g],Aa0];exact o _ (by simp [g])
def T7 (N:Nat) (l:BO):Df (Fg N l):=by
 unfold Fg;exact Df.cond (λ_=>Df.mk _) λ_=>Df.cond (λ_=>Df.mk _) λ_=>Df.cond (λ_=>Df.mk _) λ_=>Df.cond (λ_=>Df.mk _) λ_=>Df.cond (λ_=>Df.mk _) λ_=>Df.mk _
def dH {N:Nat}(m:18446744073709551616<N) (b:AF) (c:IP b):∃v,E6 N b=some v∧(v=true→∀l∈b.G,J8 b l):=by
 have H:=c.pl;have I:=c.li;unfold E6;rcases JB b.G.length (Cm N b (DT N)) (DT N) (λi=>∀l,b.G[i]? =some l→J8 b l) (λn k M=>by
  simp only[Cm];rw[ES M];rfl) (λn k M=>by
  simp only[Cm];obtain⟨J,o,p⟩:=UZ m b.G[k];obtain⟨q,s⟩:=T7 N b.G[k];rw[ER M,Aax,BI M];simp only[Aav,ND,Qy N _ (show b.A.length<4611686018427387904 by omega),RK N b _ _ (show b.A.length<4611686018427387904 by omega),o,s,F6,LP,BF (show k<4611686018427387904 by omega)];generalize d:(_|| !q)=B
  cases B
  ·simp only[Abu,Ac8] at d;obtain⟨⟨⟨⟨⟨t,u⟩,w⟩,g⟩,x⟩,K⟩:=d;have y:=KC t;have z:=KC u;obtain⟨C,D,F⟩:=p x;refine .inr ⟨λl a=>?_,rfl⟩;have:l=b.G[k]:=by simpa [M] using a.symm
   rw[this];exact⟨y,⟨z.1,by omega⟩,Xq w,KC g,C,D,λg=>F (by omega)⟩
  ·exact .inl rfl) N 0 (by omega) (Aa4 _) with M|⟨hp,M⟩
 ·exact⟨false,M,λM=>by cases M⟩
 ·refine⟨true,M,λ_ l a=>?_⟩;obtain⟨i,j,rfl⟩:=Aeo.1 a;exact hp i (Aa4 _) j _ (by simp [j])
def YG (N:Nat) (b:AF) (o to:Int) (c:to= -1∨(0≤to∧to<b.A.length)):Df (J3 N b o to):=by
 unfold J3;refine Df.cond (λ_=>Df.mk _) λa=>?_;simp only[Abp] at a;exact Df.bind (Df.ix (by omega) (by omega)) λ_ _=>Df.mk _
def XK {N:Nat}(w:1000<N) (b:AF) (m:IP b) (o:∀p∈b.A,IG b p) (q:∀l∈b.G,J8 b l):Df (HY N b):=by
 have y:=m.pl;have B:=m.li;have s:Df (DW N b):=by
  unfold DW;rcases JB b.G.length (DU N b (Ep N)) (Ep N) (λ_=>True) (λn k D=>by
   simp only[DU];rw[ES D];rfl) (λn k D=>by
   simp only[DU];have a:=q b.G[k] (Abc D);obtain⟨x,t⟩:=Df.ix (l:=b.A) a.fr.1 a.fr.2;obtain⟨v,c⟩:=YG N b x.Ao (b.G[k]).C a.to;rw[ER D,Aax,BI D];simp only[Aav,t,c,BF (show k<4611686018427387904 by omega)];have i:∃z,(cond (!v) (some true) ((cond (decide ((b.G[k]).H=4)) ((ix b.A (b.G[k]).C).bind λd=>some (decide (d.Ao≠x.Ao))) (some false)).bind λg=>some g))=some z:=by
    refine Df.cond (λ_=>Df.mk _) λ_=>Df.bind (Df.cond (λu=>?_) λ_=>Df.mk _) λ_ _=>Df.mk _;have j:(b.G[k]).H=4:=by simpa using u
    have:=(a.seep j).2.2.2.2.2;have:=a.to;exact Df.bind (Df.ix (by omega) (by omega)) λ_ _=>Df.mk _
   obtain⟨z,i⟩:=i;rw[i];simp only[Aav];cases z
   ·exact .inr ⟨trivial,rfl⟩
   ·exact .inl rfl) N 0 (by omega) (Aa4 _) with D|⟨_,D⟩
  ·exact⟨_,D⟩
  ·exact⟨true,D⟩
 unfold HY;rcases JB b.A.length (DV N b (DW N b)) (DW N b) (λ_=>True) (λn k D=>by
   simp only[DV];rw[ES D];rfl) (λn k D=>by
   simp only[DV];have a:=o b.A[k] (Abc D);obtain⟨v,c⟩:=YG N b (b.A[k]).Ao (b.A[k]).Ap a.down;rw[ER D,Aax,BI D];simp only[Aav,c,BF (show k<4611686018427387904 by omega)];cases v
   ·exact .inl rfl
   ·exact .inr ⟨trivial,rfl⟩) N 0 (by omega) (Aa4 _) with D|⟨_,D⟩
 ·exact⟨_,D⟩
 ·obtain⟨v,c⟩:=s;exact⟨v,D.trans c⟩
def V2 {N:Nat}(d:18446744073709551616<N) (c:List BT) (g:IH c) (kj:Int→Option Int):∀(n:Nat) (s:Int) (k:Nat),c.length<n+k→1≤k→k≤c.length→∃s',Ee N c kj n s (k:Int)=kj s'
 |0,s,k,A,i,j=>by omega
 |n+1,s,k,A,i,j=>by
  obtain⟨l,m,b⟩:=g;simp only[Ee];rcases Abk k c.length with a|a
  ·have o:BC ((k:Int)-1)=((k-1:Nat):Int):=by rw[DJ (by omega) (by omega)];omega
   rw[ER a,Aax,o,BI a,BI (show k-1<c.length by omega)];simp only[Aav,BF (show k<4611686018427387904 by omega)];obtain⟨p,q,t⟩:=b k c[k] (by simp [a]);obtain⟨u,w,_⟩:=b (k-1) c[k-1] (by simp [show k-1<c.length by omega]);obtain⟨y,z⟩:=t c[k-1] (by omega) (by simp [show k-1<c.length by omega]);unfold JI at p q u w;obtain⟨v,x⟩:=NY d (num:=BC ((c[k]).W-(c[k-1]).W)) (den:=BC ((c[k]).R-(c[k-1]).R)) (by rw[DJ (by omega) (by omega)];omega) (by rw[DJ (by omega) (by omega)];omega) (by rw[DJ (by omega) (by omega)];omega);rw[x];exact V2 d c ⟨l,m,b⟩ kj n _ (k+1) (by omega) (by omega) (by omega)
  ·rw[ES a];exact⟨s,rfl⟩
def bH {N:Nat}(d:18446744073709551616<N) (cs:List (List BT)) (m:cs.length≤3) (g:∀c∈cs,IH c):Df (I4 N cs):=by
 unfold I4;have:∀(n:Nat) (s:Int) (k:Nat),cs.length<n+k→k≤cs.length→Df (C8 N cs (D7 N) n s (k:Int)):=by
  intro n
  induction n with
  |zero=>intro s k o i;omega
  |succ n j=>
   intro s k o i;simp only[C8];rcases Abk k cs.length with a|a
   ·rw[ER a,Aax,BI a];simp only[Aav];have b:=g cs[k] (Abc a);obtain⟨s',e⟩:=V2 d cs[k] b (Ff N (k:Int) (C8 N cs (D7 N) n)) N s 1 (by have:=b.2.1;omega) (by omega) b.1;have l:Ee N cs[k] (Ff N (k:Int) (C8 N cs (D7 N) n)) N s 1=_:=e;rw[l];unfold Ff;rw[BF (show k<4611686018427387904 by omega)];exact j s' (k+1) (by omega) (by omega)
   ·rw[ES a];exact Df.mk _
 exact this N 0 0 (by omega) (Aa4 _)
def LY {α}(l:List α) (i:Int) (x:α):(upd l i x).length=l.length:=by simp [upd]
def vD {N:Nat}(a:1000<N) (l:List Int) (b:l.length≤64):Df (Cq N l):=by
 unfold Cq;rcases JB l.length (Dg N l (FV N)) (FV N) (λ_=>True) (λn k c=>by
  simp only[Dg];rw[ES c];rfl) (λn k c=>by
  simp only[Dg];rw[ER c,Aax,BI c];simp only[Aav,BF (show k<4611686018427387904 by omega)];cases decide (1099511627776<l[k])
  ·exact .inr ⟨trivial,rfl⟩
  ·exact .inl rfl) N 0 (by omega) (Aa4 _) with c|⟨_,c⟩
 ·exact⟨_,c⟩
 ·exact⟨true,c⟩
def mK {N:Nat}(o:18446744073709551616<N) (b:AF) (t:IP b) (J:∀l∈b.G,J8 b l) (kj:List Int→Option Bool):∀(n:Nat) (k:Nat) (s:List Int),s.length=b.A.length→b.G.length<n+k→k≤b.G.length→∃s',s'.length=b.A.length∧BU N b kj n (k:Int) s=kj s'
 |0,k,s,a,h,U=>by omega
 |n+1,k,s,a,h,U=>by
  have q3:=t.pl;have q4:=t.li;simp only[BU];rcases Abk k b.G.length with g|g
  ·rw[ER g,Aax,BI g];simp only[Aav];have d:=J b.G[k] (Abc g);generalize b.G[k]=l at d
   have p:∀s:List Int,s.length=b.A.length→∃s',s'.length=b.A.length∧Cc N (k:Int) (BU N b kj n) s=kj s':=λs a=>by
    unfold Cc;rw[BF (show k<4611686018427387904 by omega)];exact mK o b t J kj n (k+1) s a (by omega) (by omega)
   obtain⟨x,u⟩:=Df.ix (l:=s) d.fr.1 (by rw[a];exact d.fr.2);have w:∀c:Bool,(c=true→l.H=1∨l.H=5∨l.H=3)→∃s',s'.length=b.A.length∧Di N s l (Cc N (k:Int) (BU N b kj n)) c=kj s':=λc g=>by
    unfold Di;cases c
    ·rw[Aa0];by_cases y:l.H=4
     ·rw[show decide (l.H=4)=true by simp [y],Aax];obtain⟨z,V,W,X,K,h6⟩:=d.seep y;obtain⟨v,q⟩:=NY o z.1 (show 0≤l.T by omega) (by omega);obtain⟨Y,j⟩:=NY o X.1 K.1 (show l.An≤_ by have:=K.2;omega);have B:=d.to;obtain⟨Z,m⟩:=Df.ix (l:=upd s l.I (BC (x+BC (2*v)))) (i:=l.C) (by omega) (by rw[LY,a];omega);simp only[u,q,m,j,Aav];exact p _ (by rw[LY,LY,a])
     ·rw[show decide (l.H=4)=false by simp [y],Aa0];exact p s a
    ·rw[Aax];obtain⟨z,V,W⟩:=d.part (g rfl);obtain⟨v,q⟩:=NY o z.1 (show 0≤l.T by omega) (by omega);simp only[u,q,Aav];exact p _ (by rw[LY,a])
   by_cases k0:l.H=0
   ·rw[show decide (l.H=0)=true by simp [k0],Aax];obtain⟨c1,c2,c3,c4,M⟩:=d.gate k0;obtain⟨v,q⟩:=bH o [l.Av,l.Ah.Ay,l.Ah.Az] (by simp) (by simp [c1,c2,c3]);simp only[u,q,Aav];by_cases Q:l.C= -1
    ·rw[show decide (l.C≠ -1)=false by simp [Q],Aa0];exact p _ (by rw[LY,a])
    ·rw[show decide (l.C≠ -1)=true by simp [Q],Aax];have B:=d.to;obtain⟨Z,m⟩:=Df.ix (l:=upd s l.I (BC (x+v))) (i:=l.C) (by omega) (by rw[LY,a];omega);obtain⟨Y,j⟩:=NY o c4.1 M.1 (show l.An≤_ by have:=M.2;omega);simp only[m,j,Aav];exact p _ (by rw[LY,LY,a])
   ·rw[show decide (l.H=0)=false by simp [k0],Aa0];by_cases D:l.H=1
    ·rw[show decide (l.H=1)=true by simp [D],Aax];exact w true λ_=> .inl D
    ·rw[show decide (l.H=1)=false by simp [D],Aa0];by_cases F:l.H=5
     ·rw[show decide (l.H=5)=true by simp [F],Aax];exact w true λ_=> .inr (.inl F)
     ·rw[show decide (l.H=5)=false by simp [F],Aa0];exact w _ λh=> .inr (.inr (by simpa using h))
  ·rw[ES g];exact⟨s,a,rfl⟩
def ZL {N:Nat}(m:18446744073709551616<N) (b:AF) (c:IP b) (q:∀p∈b.A,IG b p) (t:∀l∈b.G,J8 b l):Df (Hp N b):=by
 have F:=c.pl;have H:=c.li;unfold Hp;rw[show KX (b.A.length:Int) (b.A.length:Int) 8=true by simp [KX];omega];simp only[chk,Aax];have u:∀(n:Nat) (k:Nat) (s:List Int),s.length=b.A.length→b.A.length<n+k→k≤b.A.length→∃s',s'.length=b.A.length∧Dh N b (Dj N b) n (k:Int) s=Dj N b s':=by
  intro n
  induction n with
  |zero=>intro k s d J w;omega
  |succ n x=>
   intro k s d J w;simp only[Dh];rcases Abk k b.A.length with a|a
   ·have g:=q b.A[k] (Abc a);obtain⟨v,y⟩:=NY m g.num.1 g.den.1 (by have:=g.den.2;omega);rw[ER a,Aax,BI a,BI (show k<s.length by omega)];simp only[Aav,y,BF (show k<4611686018427387904 by omega)];exact x (k+1) _ (by rw[LY,d]) (by omega) (by omega)
   ·rw[ES a];exact⟨s,d,rfl⟩
 obtain⟨o,z,B⟩:=u N 0 (List.replicate ((b.A.length:Int):Int).toNat 0) (by simp) (by omega) (Aa4 _);have i:Dh N b (Dj N b) N 0 (List.replicate ((b.A.length:Int):Int).toNat 0)=_:=B;rw[i];unfold Dj;obtain⟨C,I,D⟩:=mK m b c t (Cq N) N 0 o z (by omega) (Aa4 _);have j:BU N b (Cq N) N 0 o=_:=D;rw[j];exact vD (by omega) C (by omega)
def dU (N:Nat) (n z:Int):FC N n z=some (dT n 0 (BC (z-1))):=rfl
structure VR (b:AF) (t:OR):Prop where
 place:0≤t.Aq∧t.Aq<b.A.length
 flood:JI t.Bo
 lead:0≤t.Bl∧t.Bl≤24
 watch:JI t.Bp
 quorum:0≤t.Bk∧t.Bk≤128
def aZ {N:Nat}(w:1000<N) (b:AF) (a:IP b):∃v,ID N b=some v∧(v=true→∀t∈b.Ac,VR b t):=by
 have x:=a.pl;have y:=a.to;have z:=a.sh;have j:Df (D0 N b):=by
  unfold D0;rcases JB b.Aj.length (Dy N b (Fs N)) (Fs N) (λ_=>True) (λn k D=>by
   simp only[Dy];rw[ES D];rfl) (λn k D=>by
   simp only[Dy];rw[ER D,Aax,BI D];simp only[Aav,ND,BF (show k<4611686018427387904 by omega)];cases dT (b.Aj[k]).Al 0 1073741824
   ·exact .inl rfl
   ·exact .inr ⟨trivial,rfl⟩) N 0 (by omega) (Aa4 _) with D|⟨_,D⟩
  ·exact⟨_,D⟩
  ·exact⟨true,D⟩
 unfold ID;rcases JB b.Ac.length (Dz N b (D0 N b)) (D0 N b) (λi=>∀t,b.Ac[i]? =some t→VR b t) (λn k D=>by
  simp only[Dz];rw[ES D];rfl) (λn k D=>by
  simp only[Dz];rw[ER D,Aax,BI D];simp only[Aav,ND,Ma,Qy N _ (show b.A.length<4611686018427387904 by omega),F6,LP,BF (show k<4611686018427387904 by omega)];generalize d:(_|| !dT (b.Ac[k]).Bk 0 128)=B
  cases B
  ·simp only[Abu,Ac8] at d;obtain⟨⟨⟨⟨⟨l,m⟩,o⟩,C⟩,p⟩,q⟩:=d;refine .inr ⟨λt c=>?_,rfl⟩;have:t=b.Ac[k]:=by simpa [D] using c.symm
   rw[this];have s:=KC l;exact⟨⟨s.1,by omega⟩,LI m,KC o,LI p,KC q⟩
  ·exact .inl rfl) N 0 (by omega) (Aa4 _) with D|⟨hp,D⟩
 ·exact⟨false,D,λD=>by cases D⟩
 ·obtain⟨v,u⟩:=j;refine⟨v,D.trans u,λ_ t c=>?_⟩;obtain⟨i,g,rfl⟩:=Aeo.1 c;exact hp i (Aa4 _) g _ (by simp [g])
def Zg {N:Nat}(j:1000<N) (b:AF) (c:IP b):Df (Hr N b):=by
 have m:=c.ga;unfold Hr;rcases JB b.Af.length (Dk N b (FW N)) (FW N) (λ_=>True) (λn k o=>by
  simp only[Dk];rw[ES o];rfl) (λn k o=>by
  simp only[Dk];rw[ER o,Aax,BI o];simp only[Aav,ND,dU,F6,LP,BF (show k<4611686018427387904 by omega)];generalize a:(_|| !dT (b.Af[k]).Bq 0 1440)=B
  cases B
  ·simp only[Abu,Ac8] at a;have d:=KC a.1.1;obtain⟨z,g⟩:=Df.ix (l:=[(b.A.length:Int),b.P,(b.G.length:Int)]) (i:=(b.Af[k]).H) d.1 (by simp;omega);rw[g];simp only[Aa0,Aav];cases dT (b.Af[k]).X 0 (BC (z-1))
   ·exact .inl rfl
   ·exact .inr ⟨trivial,rfl⟩
  ·exact .inl rfl) N 0 (by omega) (Aa4 _) with o|⟨_,o⟩
 ·exact⟨_,o⟩
 ·exact⟨true,o⟩
def cF {N:Nat}(d:1000<N) (b:AF) (a:IP b):Df (IE N b):=by
 have g:=a.ro;unfold IE;rcases JB b.Ag.length (D2 N b (Ft N)) (Ft N) (λ_=>True) (λn k i=>by
  simp only[D2];rw[ES i];rfl) (λn k i=>by
  simp only[D2];rw[ER i,Aax,BI i];simp only[Aav,ND,Ma,dU,F6,LP,QM,BF (show k<4611686018427387904 by omega)];generalize (_|| !Um (b.Ag[k]).Bj)=B
  cases B
  ·simp only[Aa0];generalize ((decide ((b.Ag[k]).Bi= -1)&&decide ((b.Ag[k]).Bj≠0))||_)=c
   cases c
   ·exact .inr ⟨trivial,rfl⟩
   ·exact .inl rfl
  ·exact .inl rfl) N 0 (by omega) (Aa4 _) with i|⟨_,i⟩
 ·exact⟨_,i⟩
 ·exact⟨true,i⟩
structure J4 (b:AF):Prop where
 head:IP b
 places:∀p∈b.A,IG b p
 links:∀l∈b.G,J8 b l
 towns:∀t∈b.Ac,VR b t
def chainB {b:Bool}{x:Option Bool}{f:Bool→Option Bool}(Q:Prop){G:Option Bool→Prop}(i:b=true→∃v,x=some v∧(v=true→Q)) (k:∀c,(c=true→b=true∧Q)→G (f c)):G ((cond b (x.bind λy=>some y) (some false)).bind f):=by
 cases b
 ·exact k false λi=>by cases i
 ·obtain⟨v,a,d⟩:=i rfl;rw[a];exact k v λg=>⟨rfl,d g⟩
def Df.q {x:Option Bool}(b:Df x):∃v,x=some v∧(v=true→True):=by obtain⟨v,a⟩:=b;exact⟨v,a,λ_=>trivial⟩
def WD {N:Nat}(s:18446744073709551616<N) (b:AF):∃v,F5 N b=some v∧(v=true→J4 b):=by
 have a:1000<N:=by omega
 unfold F5;obtain⟨F,z,k⟩:=jQ a b;rw[z];simp only[Aav];refine chainB True (G:=λx=>∃v,x=some v∧(v=true→J4 b)) (λQ=>(cV a (k Q)).q) λH u=>?_;refine chainB (∀p∈b.A,IG b p) (G:=λx=>∃v,x=some v∧(v=true→J4 b)) (λQ=>ZW a b (k (u Q).1)) λB w=>?_;have m:B=true→IP b∧∀p∈b.A,IG b p:=λQ=>⟨k (u (w Q).1).1,(w Q).2⟩
 refine chainB (∀l∈b.G,J8 b l) (G:=λx=>∃v,x=some v∧(v=true→J4 b)) (λQ=>dH s b (m Q).1) λC n=>?_;have c:C=true→IP b∧(∀p∈b.A,IG b p)∧∀l∈b.G,J8 b l:=λQ=>⟨(m (n Q).1).1,(m (n Q).1).2,(n Q).2⟩
 refine chainB True (G:=λx=>∃v,x=some v∧(v=true→J4 b)) (λQ=>(XK a b (c Q).1 (c Q).2.1 (c Q).2.2).q) λI g=>?_;refine chainB True (G:=λx=>∃v,x=some v∧(v=true→J4 b)) (λQ=>(ZL s b (c (g Q).1).1 (c (g Q).1).2.1 (c (g Q).1).2.2).q) λJ i=>?_;refine chainB (∀t∈b.Ac,VR b t) (G:=λx=>∃v,x=some v∧(v=true→J4 b)) (λQ=>aZ a b (c (g (i Q).1).1).1) λK j=>?_;refine chainB True (G:=λx=>∃v,x=some v∧(v=true→J4 b)) (λQ=>(Zg a b (c (g (i (j Q).1).1).1).1).q) λM o=>?_;refine chainB True (G:=λx=>∃v,x=some v∧(v=true→J4 b)) (λQ=>(cF a b (c (g (i (j (o Q).1).1).1).1).1).q) λD y=>?_;refine⟨D,rfl,λQ=>?_⟩;have d:=c (g (i (j (o (y Q).1).1).1).1).1;exact⟨d.1,d.2.1,d.2.2,(j (o (y Q).1).1).2⟩
def Da {σ q:Type}(L:Nat) (f:Nat→Int→σ→Option q) (kj:σ→Option q) (I:Nat→σ→Prop) (a:∀n (k:Nat) s,L≤k→f (n+1) (k:Int) s=kj s) (b:∀n (k:Nat) s,I k s→k<L→∃s',I (k+1) s'∧f (n+1) (k:Int) s=f n ((k+1:Nat):Int) s'):
  ∀n (k:Nat) s,I k s→L<n+k→k≤L→∃s',I L s'∧f n (k:Int) s=kj s'
 |0,k,s,_,t,g=>by omega
 |n+1,k,s,d,t,g=>by
  rcases Abk k L with c|c
  ·obtain⟨i,j,l⟩:=b n k s d c;obtain⟨m,o,p⟩:=Da L f kj I a b n (k+1) i j (by omega) (by omega);exact⟨m,o,l.trans p⟩
  ·have:k=L:=by omega
   subst this;exact⟨s,d,a n k s c⟩
def NC {σ l:Type}(L:Nat) (f:Nat→Int→σ→Option l) (kj:σ→Option l) (c:Option l) (I:Nat→σ→Prop) (a:∀n (k:Nat) s,L≤k→f (n+1) (k:Int) s=kj s) (b:∀n (k:Nat) s,I k s→k<L→f (n+1) (k:Int) s=c∨∃s',I (k+1) s'∧f (n+1) (k:Int) s=f n ((k+1:Nat):Int) s'):
  ∀n (k:Nat) s,I k s→L<n+k→k≤L→f n (k:Int) s=c∨∃s',I L s'∧f n (k:Int) s=kj s'
 |0,k,s,_,m,j=>by omega
 |n+1,k,s,i,m,j=>by
  rcases Abk k L with d|d
  ·rcases b n k s i d with h0|⟨s1,i1,h1⟩
   ·exact .inl h0
   ·rcases NC L f kj c I a b n (k+1) s1 i1 (by omega) (by omega) with g|⟨s2,i2,g⟩
    ·exact .inl (h1.trans g)
    ·exact .inr ⟨s2,i2,h1.trans g⟩
  ·have:k=L:=by omega
   subst this;exact .inr ⟨s,i,a n k s d⟩
def KB {l:List Int}{k:Nat}(a:k<l.length):(l.take (k+1)).sum=(l.take k).sum+l[k]:=by
 rw[Acv a,Acl];simp
def JV:∀{l:List Int},(∀x∈l,0≤x)→0≤l.sum
 |[],_=>by simp
 |a::l,g=>by
  have c:=g a (Abn ..);have d:=JV (l:=l) λx b=>g x (Abt _ b);simp only[Ab2];omega
def I6 {l:List Int}(g:∀x∈l,0≤x) (k:Nat):0≤(l.take k).sum∧(l.take k).sum≤l.sum:=by
 have b:=JV (l:=l.take k) λx a=>g x (Adh a);have c:=JV (l:=l.drop k) λx a=>g x (List.mem_of_mem_drop a);have d:(l.take k).sum+(l.drop k).sum=l.sum:=by rw[←Acl,Aed]
 omega
def Ta (N:Nat){a b:Int}(l: -4611686018427387903≤a) (m:a≤4611686018427387903) (n: -4611686018427387903≤b) (o:b≤4611686018427387903):Fm N a b=some (a+b):=by
 unfold Fm;have d:BC (a+b)=a+b:=DJ (by omega) (by omega);by_cases p:0<b
 ·have i:BC (9223372036854775807-b)=9223372036854775807-b:=DJ (by omega) (by omega);rw[i,d];have g:decide (9223372036854775807-b<a)=false:=by simp;omega
  have c:decide (b<0)=false:=by simp;omega
  rw[g,c];simp
 ·have g:decide (0<b)=false:=by simp;omega
  rw[g];by_cases j:b<0
  ·have k:BC (-9223372036854775808-b)= -9223372036854775808-b:=DJ (by omega) (by omega);have c:decide (a< -9223372036854775808-b)=false:=by simp;omega
   rw[k,d,c];simp
  ·have c:decide (b<0)=false:=by simp;omega
   rw[c,d];simp
def bF (N:Nat){a b:Int}(l: -4611686018427387903≤a) (m:a≤4611686018427387903) (n: -4611686018427387903≤b) (o:b≤4611686018427387903):GY N a b=some (a-b):=by
 unfold GY;have d:BC (a-b)=a-b:=DJ (by omega) (by omega);by_cases p:b<0
 ·have i:BC (9223372036854775807+b)=9223372036854775807+b:=DJ (by omega) (by omega);have g:decide (9223372036854775807+b<a)=false:=by simp;omega
  have c:decide (0<b)=false:=by simp;omega
  rw[i,d,g,c];simp
 ·have g:decide (b<0)=false:=by simp;omega
  rw[g];by_cases j:0<b
  ·have k:BC (-9223372036854775808+b)= -9223372036854775808+b:=DJ (by omega) (by omega);have c:decide (a< -9223372036854775808+b)=false:=by simp;omega
   rw[k,d,c];simp
  ·have c:decide (0<b)=false:=by simp;omega
   rw[c,d];simp
def LZ {α}{l:List α}{k:Nat}(d:k<l.length){P:α→Prop}(b:∀x∈l.take k,P x) (c:P l[k]):∀x∈l.take (k+1),P x:=by
 intro x a;rw[Acv d,Ab3] at a;rcases a with a|a
 ·exact b x a
 ·simp only[Ace] at a;subst a;exact c
def LM {α}{f:α→Int}{l:List α}{k:Nat}(a:k<l.length):((l.take (k+1)).map f).sum=((l.take k).map f).sum+f l[k]:=by
 rw[Acv a,Ack,Acl];simp
def SV {α}{f:α→Int}{l:List α}(c:∀x∈l,0≤f x):0≤(l.map f).sum:=JV λy a=>by
 obtain⟨x,b,rfl⟩:=Ab1.1 a;exact c x b
def NO {α β}{f:α→β}{l:List α}{k:Nat}(a:k<l.length):(l.take (k+1)).map f=(l.take k).map f++[f l[k]]:=by
 rw[Acv a,Ack];rfl
def IM {n a:Nat}(b:n*a≤140737488355328){α}(x:Option α):chk (Ih n a) x=x:=by
 unfold chk Ih;rw[Abs b];rfl
def Pe {g:Type}(L:Nat) (f:Nat→Int→Option g) (kj:Option g) (a:∀n (k:Nat),L≤k→f (n+1) (k:Int)=kj) (b:∀n (k:Nat),k<L→f (n+1) (k:Int)=f n ((k+1:Nat):Int)):
  ∀n (k:Nat),L<n+k→k≤L→f n (k:Int)=kj
 |0,k,i,d=>by omega
 |n+1,k,i,d=>by
  rcases Abk k L with c|c
  ·rw[b n k c];exact Pe L f kj a b n (k+1) (by omega) (by omega)
  ·exact a n k c
def Xa (N:Nat) (a b:Int):Df (Fm N a b):=by
 unfold Fm;exact Df.cond (λ_=>Df.mk _) λ_=>Df.cond (λ_=>Df.mk _) λ_=>Df.mk _
def Sq (N:Nat) (a b:Int):Df (GY N a b):=by
 unfold GY;exact Df.cond (λ_=>Df.mk _) λ_=>Df.cond (λ_=>Df.mk _) λ_=>Df.mk _
def KW {k:Nat}(b:k≤1000) (c:Nat) (a:c≤1000){α}(x:Option α):chk (KX (k:Int) (k:Int) c) x=x:=by
 have:KX (k:Int) (k:Int) c=true:=by
  simp only[KX,Aa3,Abh];refine⟨⟨by omega,by omega⟩,?_⟩;have:(c:Int)*(k:Int)≤1000*1000:=Int.mul_le_mul (by omega) (by omega) (by omega) (by omega);omega
 rw[this];rfl
def Aag {α}{l:List α}{i:Nat}(a:i<l.length):∃x,ix l (i:Int)=some x∧x∈l:=⟨l[i],BI a,Abc a⟩
def kJ {α}(l xs:List α):(Pj l xs).length=l.length:=by unfold Pj;simp;omega
def eR {α}{l xs:List α}(a:l.length=xs.length):Pj l xs=xs:=by
 unfold Pj;rw[a,Abo,List.drop_of_length_le (by omega),Abx]
def Nz (k:Nat) (z:Int):(List.replicate ((k:Int)).toNat z).length=k:=by simp
def Qp {α}(k:Nat) (z:α):(List.replicate ((k:Int)).toNat z).length=k:=by simp
def Sa (p:List Int):Pj (List.replicate ((p.length:Int)).toNat (0:Int)) p=p:=eR (by simp)
def MG {α}(l:List α) (i:Int) (x:α):(upd l i x).length=l.length:=by simp [upd]
def MY (N:Nat){p:List Int}(a:p.length≤1000000):Co N p=some p:=by
 unfold Co;rw[IM (by simp;omega)];rfl
def XT (N:Nat){p:List AT}(a:p.length≤1000000):CR N p=some p:=by
 unfold CR;rw[IM (by simp;omega)];rfl
def cQ {N:Nat}(l:1000000<N){p q:List Int}(m:p.length≤1000) (o:q.length≤1000):∃r,Ey N p q=some r∧r.length=max p.length q.length:=by
 unfold Ey;have c:max (p.length:Int) (q.length:Int)=((max p.length q.length:Nat):Int):=by omega
 rw[c,KW (by omega) _ (by decide)];obtain⟨s,d,e⟩:=Da q.length (λn i s=>FB N q (HQ N) n i s) (HQ N) (λ_ s=>s.length=max p.length q.length) (λn k s a=>by
  simp only[FB];rw[ES a];rfl) (λn k s g a=>by
  simp only[FB];have b:k<s.length:=by omega
  obtain⟨v,j⟩:=Xa N s[k] q[k];rw[ER a,Aax,BI a];simp only[BI b,Aav];rw[j,Aav,BF (by omega)];exact⟨_,by rw[MG];exact g,rfl⟩) N 0 (Pj (List.replicate (((max p.length q.length:Nat):Int)).toNat (0:Int)) p) (by rw[kJ,Nz]) (by omega) (Aa4 _)
 exact⟨s,e,d⟩
def ZV {N:Nat}(l:1000000<N){p:List Int}(m:p.length≤1000):∃v,Id N p=some v∧(v=true→(∀x∈p,0≤x)∧p.sum≤1125899906842624):=by
 unfold Id;rcases NC p.length (λn i s=>EV N p (Gz N) n s i) (λ_=>Gz N) (some false) (λk s=>(∀x∈p.take k,0≤x)∧s=(p.take k).sum∧s≤1125899906842624∧0≤s) (λn k s a=>by
  simp only[EV];rw[ES a];rfl) (λn k s d a=>by
  obtain⟨b,c,g,o⟩:=d;simp only[EV];rw[ER a,Aax,BI a,Aav,DJ (n:=1125899906842624-s) (by omega) (by omega)];cases j:(decide (p[k]<0)||decide (1125899906842624-s<p[k]))
  ·simp only[Abu,Abp] at j;rw[Aa0,BF (by omega),DJ (n:=s+p[k]) (by omega) (by omega)];exact .inr ⟨_,⟨LZ a b (by omega),by rw[KB a,c],by omega,by omega⟩,rfl⟩
  ·exact .inl rfl) N 0 0 ⟨by simp,rfl,by decide,by decide⟩ (by omega) (Aa4 _) with e|⟨s,⟨b,c,g,_⟩,e⟩
 ·exact⟨false,e,λq=>by cases q⟩
 ·rw[Abo] at b c;exact⟨true,e,λ_=>⟨b,by omega⟩⟩
def jX {t t' n d:Int}(hd:0≤d) (a:0≤n) (b:t≤t'):t*n/d≤t'*n/d:=by
 rcases Int.lt_or_eq_of_le hd with c|c
 ·exact Int.ediv_le_ediv c (Adu b a)
 ·rw[←c];simp
def WW {t n d:Int}(hd:0≤d) (a:0≤n) (b:0≤t):0≤t*n/d:=Int.ediv_nonneg (Int.mul_nonneg b a) hd
def eB {t n d:Int}(hd:0≤d) (b:n≤d) (a:0≤t):t*n/d≤t:=by
 rcases Int.lt_or_eq_of_le hd with h0|h0
 ·refine Int.ediv_le_of_le_mul h0 (Int.mul_le_mul_of_nonneg_left b a)
 ·rw[←h0];simp [a]
def xW (e:List BT):Prop:=∀k l r,e[k]? =some l→e[k+1]? =some r→l.R<r.R∧l.W≤r.W
def IH.vol {c:List BT}(b:IH c){k:Nat}{p:BT}(a:c[k]? =some p):JI p.R∧JI p.W:=⟨(b.2.2 k p a).1,(b.2.2 k p a).2.1⟩
def IH.step {c:List BT}(d:IH c){k:Nat}{p q:BT}(a:c[k]? =some p) (b:c[k+1]? =some q):p.R<q.R∧p.W≤q.W:=(d.2.2 (k+1) q b).2.2 p (by omega) a
def xW.mono {e:List BT}(s:xW e){i:Nat}:∀{j:Nat}{a b:BT},i≤j→e[i]? =some a→e[j]? =some b→a.R≤b.R∧a.W≤b.W∧(i<j→a.R<b.R)
 |j,a,b,l,g,d=>by
  rcases Abk i j with n|hge
  ·obtain⟨j,rfl⟩:∃m,j=m+1:=⟨j-1,by omega⟩
   have o:=(Aba.1 d).1;obtain⟨c,k⟩:∃c,e[j]? =some c:=⟨e[j],by simp [show j<e.length by omega]⟩
   have p:=xW.mono s (j:=j) (by omega) g k;have q:=s j c b k d;exact⟨by omega,by omega,λ_=>by omega⟩
  ·have:i=j:=by omega
   subst this;rw[g] at d;cases d;exact⟨Aby _,Aby _,λs=>by omega⟩
structure xQ (e:List BT) (x:Int) (k:Nat) (l r:BT):Prop where
 l_:e[k]? =some l
 r_:e[k+1]? =some r
 lo:l.R≤x
 hi:x<r.R
def SB (l r:BT) (x:Int):Int:=l.W+(x-l.R)*(r.W-l.W)/(r.R-l.R)
def ZJ (l r:BT) (x:Int):Int:=(x-l.R)*(r.W-l.W)%(r.R-l.R)
def xQ.bounds {e:List BT}(m:xW e){x:Int}{k:Nat}{l r:BT}(a:xQ e x k l r):l.W≤SB l r x∧SB l r x≤r.W:=by
 have b:=m k l r a.l_ a.r_;have c:=a.lo;have g:=a.hi;have i:=WW (t:=x-l.R) (n:=r.W-l.W) (d:=r.R-l.R) (by omega) (by omega) (by omega);have j:(x-l.R)*(r.W-l.W)/(r.R-l.R)≤r.W-l.W:=by
  refine Int.ediv_le_of_le_mul (by omega) ?_;rw[Int.mul_comm];exact Int.mul_le_mul_of_nonneg_left (by omega) (by omega)
 unfold SB;omega
def xQ.mono {e:List BT}(v:xW e){x c:Int}{k g:Nat}{l r i r':BT}(a:xQ e x k l r) (b:xQ e c g i r') (u:x≤c):SB l r x≤SB i r' c:=by
 rcases Nat.lt_trichotomy k g with m|heq|hgt
 ·have j:=v.mono (show k+1≤g by omega) a.r_ b.l_;have o:=(a.bounds v).2;have p:=(b.bounds v).1;omega
 ·subst heq;have q:=a.l_.symm.trans b.l_;have s:=a.r_.symm.trans b.r_;cases q;cases s;have j:=v k l r a.l_ a.r_;have:=jX (t:=x-l.R) (t':=c-l.R) (n:=r.W-l.W) (d:=r.R-l.R) (by omega) (by omega) (by omega);unfold SB;omega
 ·have j:=v.mono (show g+1≤k by omega) b.r_ a.l_;have o:=a.lo;have p:=b.hi;omega
def zQ (e:List BT) (s:Int):Prop:=∀k l r,e[k]? =some l→e[k+1]? =some r→(r.W-l.W)*1099511627776≤s*(r.R-l.R)
def zQ.mono {e:List BT}{s:Int}(t:zQ e s){i:Nat}:∀{j:Nat}{a b:BT},i≤j→e[i]? =some a→e[j]? =some b→(b.W-a.W)*1099511627776≤s*(b.R-a.R)
 |j,a,b,l,g,d=>by
  rcases Abk i j with n|hge
  ·obtain⟨j,rfl⟩:∃m,j=m+1:=⟨j-1,by omega⟩
   have o:=(Aba.1 d).1;obtain⟨c,k⟩:∃c,e[j]? =some c:=⟨e[j],by simp [show j<e.length by omega]⟩
   have p:=zQ.mono t (j:=j) (by omega) g k;have q:=t j c b k d;grind
  ·have:i=j:=by omega
   subst this;rw[g] at d;cases d;grind
def pD {a n d:Int}(b:0≤a∧a≤1125899906842624) (c:0≤n∧n≤1125899906842624) (g:1≤d∧d≤1125899906842624) (i:a*n/d≤1125899906842624):vL a n d=(a*n/d,a*n%d,true):=by
 unfold vL;rw[Aay ⟨b,c,g,i⟩]
def QL {N:Nat}(i:33<N){c:List BT}(o:IH c):Eb N c=some true:=by
 unfold Eb;have j:=o.1;have l:=o.2.1;rw[show (decide ((c.length:Int)<1)||decide (32<(c.length:Int)))=false by simp;omega,Aa0];exact Pe c.length (Ea N c (HE N)) (HE N) (λn k a=>by
  simp only[Ea];rw[ES a];rfl) (λn k a=>by
  have b:c[k]? =some c[k]:=by simp [a]
  have v:=o.vol b;unfold JI at v;simp only[Ea];rw[ER a,Aax,BI a,Aav,show(((decide ((c[k]).R<0)||decide (1125899906842624<(c[k]).R))||decide ((c[k]).W<0))||decide (1125899906842624<(c[k]).W))=false by simp only[Abu,Abp];omega,Aa0,BF (by omega)];by_cases h0:k=0
  ·subst h0;rfl
  ·have d:c[k-1]? =some c[k-1]:=by simp
   have m:=o.step d (q:=c[k]) (by rw[show k-1+1=k by omega];exact b);have g:BC ((k:Int)-1)=((k-1:Nat):Int):=by rw[DJ (by omega) (by omega)];omega
   rw[show decide ((0:Int)<(k:Int))=true by simp;omega,Aax,g,BI (show k-1<c.length by omega)];simp only[Aav];rw[show decide ((c[k]).R≤(c[k-1]).R)=false by simp only[Abp];omega,show decide ((c[k]).W<(c[k-1]).W)=false by simp only[Abp];omega];rfl) N 0 (by omega) (Aa4 _)
def WQ (l r:BT) (x:Int):Int:=l.W*(r.R-l.R)+(x-l.R)*(r.W-l.W)
def T5 {l r:BT}(a:l.R<r.R) (x:Int):SB l r x*(r.R-l.R)+ZJ l r x=WQ l r x:=by
 have:=Int.ediv_mul_add_emod ((x-l.R)*(r.W-l.W)) (r.R-l.R);unfold SB ZJ WQ;grind
def Xm {l r:BT}(a:l.R<r.R) (x:Int):0≤ZJ l r x∧ZJ l r x<r.R-l.R:=⟨Int.emod_nonneg _ (by omega),Int.emod_lt_of_pos _ (by omega)⟩
def nS (l r a r':BT) (x:Int):Prop:=WQ l r x*(r'.R-a.R)≤WQ a r' x*(r.R-l.R)
def nS.mid {l r b r':BT}{x u v:Int}(c:nS l r b r' u) (d:nS l r b r' v) (i:u≤x) (j:x≤v) (g:u<v):nS l r b r' x:=by
 unfold nS WQ at*;have k:=Adu c (show 0≤v-x by omega);have m:=Adu d (show 0≤x-u by omega);refine Int.le_of_mul_le_mul_right (a:=v-u) ?_ (by omega);grind
def nS.val {l r c r':BT}{x:Int}(z:nS l r c r' x) (j:l.R<r.R) (g:c.R<r'.R):SB l r x≤SB c r' x:=by
 have k:=T5 j x;have n:=T5 g x;have o:=Xm j x;have p:=Xm g x;unfold nS at z;rw[←k,←n] at z;refine Int.not_lt.1 λt=>?_;generalize SB l r x=a at*
 generalize SB c r' x=b at*
 generalize ZJ l r x=m at*
 generalize ZJ c r' x=q at*
 have s:0<r.R-l.R:=by omega
 have u:0<r'.R-c.R:=by omega
 generalize r.R-l.R=d at*
 generalize r'.R-c.R=i at*
 have v:(b+1)*(d*i)≤a*(d*i):=Adu (by omega) (Int.mul_nonneg (by omega) (by omega));have w:0≤m*i:=Int.mul_nonneg o.1 (by omega);have y:q*d<i*d:=Int.mul_lt_mul_of_pos_right p.2 s;grind
def GL {α}{l:List α}{k:Nat}(a:k<l.length) (x:α):(upd l (k:Int) x)[k]? =some x:=by
 simp [upd,a]
def Ig {α}{l:List α}{k j:Nat}(a:k≠j) (x:α):(upd l (k:Int) x)[j]? =l[j]? :=by
 simp [upd,Ac4 a]
def En (p q:List Int):List Int:=List.zipWith (· + ·) p q
def IK (p q:List Int):List Int:=List.zipWith (· - ·) p q
def Jf {p q:List Int}{W:Nat}(a:p.length=W) (b:q.length=W):(En p q).length=W:=by simp [En,a,b]
def Vv {p q:List Int}{W:Nat}(a:p.length=W) (b:q.length=W):(IK p q).length=W:=by simp [IK,a,b]
def IY:∀{p q:List Int},p.length=q.length→(En p q).sum=p.sum+q.sum
 |[],[],_=>rfl
 |a::p,b::q,c=>by
  have:=IY (p:=p) (q:=q) (by simpa using c);simp only[En,List.zipWith_cons_cons,Ab2] at this ⊢;omega
def Sh:∀{p q:List Int},p.length=q.length→(IK p q).sum=p.sum-q.sum
 |[],[],_=>rfl
 |a::p,b::q,c=>by
  have:=Sh (p:=p) (q:=q) (by simpa using c);simp only[IK,List.zipWith_cons_cons,Ab2] at this ⊢;omega
structure PX (W:Nat) (p:List Int):Prop where
 len:p.length=W
 nn:∀x∈p,0≤x
 mv:p.sum≤1125899906842624
def Gi:∀{p:List Int},(∀x∈p,0≤x)→∀x∈p,x≤p.sum
 |a::p,g,x,b=>by
  have h0:=JV (l:=p) λy c=>g y (Abt _ c);have d:=g a (Abn ..);rw[Ab2];rcases Aa5.1 b with rfl|b
  ·omega
  ·have:=Gi (p:=p) (λy c=>g y (Abt _ c)) x b;omega
def PX.mem {W:Nat}{p:List Int}(b:PX W p){x:Int}(a:x∈p):0≤x∧x≤1125899906842624:=⟨b.nn x a,Int.le_trans (Gi b.nn x a) b.mv⟩
def PX.sum0 {W:Nat}{p:List Int}(a:PX W p):0≤p.sum:=JV a.nn
def Nt {p q:List Int}(d:∀x∈p,0≤x) (g:∀x∈q,0≤x):∀x∈En p q,0≤x:=λx j=>by
 obtain⟨i,c⟩:=Acy.1 j;rw[En,Adb] at c;split at c
 ·rename_i a b k l;have:=d a (Ab6 k);have:=g b (Ab6 l);cases c;omega
 ·cases c
def PX.add {W:Nat}{p q:List Int}(a:PX W p) (b:PX W q) (c:p.sum+q.sum≤1125899906842624):PX W (En p q):=
 ⟨Jf a.len b.len,Nt a.nn b.nn,by rw[IY (a.len.trans b.len.symm)];exact c⟩
def PX.zero (W:Nat):PX W (List.replicate W 0):=⟨by simp,λx a=>by rw[(List.mem_replicate.1 a).2];exact Aby 0,by simp⟩
def X6 (W:Nat):(List.replicate W (0:Int)).sum=0:=by simp
structure Wr (t p:List Int):Prop where
 len:t.length=p.length
 le:∀(i:Nat) (x y:Int),t[i]? =some x→p[i]? =some y→0≤x∧x≤y
def Wr.sub {W:Nat}{t p:List Int}(z:Wr t p) (j:PX W p):PX W (IK p t)∧(IK p t).sum=p.sum-t.sum∧PX W t:=by
 have n:t.length=W:=z.len.trans j.len;have d:∀x∈t,0≤x:=λx k=>by
  obtain⟨i,c⟩:=Acy.1 k;have l:=(Aba.1 c).1;have m:i<p.length:=by rw[←z.len];exact l
  exact(z.le i x _ c (Abf m)).1
 have o:=Sh (p:=p) (q:=t) z.len.symm;have g:∀x∈IK p t,0≤x:=λx k=>by
  obtain⟨i,c⟩:=Acy.1 k;rw[IK,Adb] at c;split at c
  ·rename_i a b s u;have:=z.le i b a u s;cases c;omega
  ·cases c
 have v:=JV g;have w:=JV d;have y:=j.mv;exact⟨⟨Vv j.len n,g,by omega⟩,o,n,d,by omega⟩
def ZI {W:Nat}{p t:List Int}(d:p.length=W) (g:t.length=W) (j:∀x∈t,x=0):IK p t=p:=by
 apply Acc;intro i;rw[IK,Adb];rcases Abk i W with b|b
 ·have c:i<p.length:=by omega
  have a:i<t.length:=by omega
  rw[Abf c,Abf a];have:=j _ (Abc a);simp [this]
 ·rw[Abv (show p.length≤i by omega)]
def Vo:∀{t:List Int},(∀x∈t,0≤x)→t.sum≤0→∀x∈t,x=0:=λ{t} g b x a=>by
 have c:=Gi g x a;have d:=g x a;omega
def Qh {N:Nat}(j:1000000<N){p:List Int}(l:p.length≤1000) (h0:∀x∈p,0≤x) (m:p.sum≤2305843009213693952):Ch N p=some p.sum:=by
 unfold Ch;obtain⟨s,⟨b,c⟩,e⟩:=Da p.length (λn i s=>G0 N p (IU N) n s i) (IU N) (λk s=>s=(p.take k).sum∧0≤s) (λn k s a=>by
  simp only[G0];rw[ES a];rfl) (λn k s d a=>by
  obtain⟨b,c⟩:=d;have g:=I6 h0 (k+1);have o:=I6 h0 k;have q:=h0 _ (Abc a);rw[KB a] at g;simp only[G0];rw[ER a,Aax,BI a,Aav,Ta N (by omega) (by omega) (by omega) (by omega),Aav,BF (by omega)];exact⟨_,⟨by rw[KB a,b],by omega⟩,rfl⟩) N 0 0 ⟨rfl,Aby _⟩ (by omega) (Aa4 _)
 rw[Abo] at b;subst b;exact e
def U3 {N:Nat}(y:1000000<N){p q:List Int}(t:p.length≤1000) (z:q.length=p.length) (u:∀x∈p, -2305843009213693952≤x∧x≤2305843009213693952) (v:∀x∈q, -2305843009213693952≤x∧x≤2305843009213693952):Ey N p q=some (En p q):=by
 unfold Ey;have w:max (p.length:Int) (q.length:Int)=(p.length:Int):=by omega
 rw[w,KW t _ (by decide),Sa];obtain⟨s,⟨o,j,l⟩,e⟩:=Da q.length (λn i s=>FB N q (HQ N) n i s) (HQ N) (λk s=>s.length=p.length∧(∀i,k≤i→s[i]? =p[i]?)∧∀i,i<k→s[i]? =(En p q)[i]?) (λn k s c=>by
  simp only[FB];rw[ES c];rfl) (λn k s g c=>by
  obtain⟨o,j,l⟩:=g;simp only[FB];have a:k<s.length:=by omega
  have b:k<p.length:=by omega
  have m:s[k]=p[k]:=by
   have:=j k (Abd _);rw[Abf a,Abf b] at this;exact Aa1 this
  have A:=u _ (Abc b);have B:=v _ (Abc c);rw[ER c,Aax,BI c,Aav,BI a,Aav,Aav,m,Ta N (by omega) (by omega) (by omega) (by omega),Aav,Aav,Aav,BF (by omega)];refine⟨_,⟨by rw[MG];exact o,λi g=>by rw[Ig (by omega)];exact j i (by omega),λi g=>?_⟩,rfl⟩;by_cases d:k=i
  ·subst d;rw[GL a,En,Adb,Abf b,Abf c]
  ·rw[Ig d];exact l i (by omega)) N 0 p ⟨rfl,λi _=>rfl,λi g=>by omega⟩ (by omega) (Aa4 _)
 have:s=En p q:=Acc λi=>by
  rcases Abk i q.length with C|C
  ·exact l i C
  ·rw[Abv (by omega),Abv (by simp [En];omega)]
 subst this;exact e
def Wx {N:Nat}(w:1000000<N){p t:List Int}(q:p.length≤1000) (y:t.length=p.length) (u:∀x∈p, -2305843009213693952≤x∧x≤2305843009213693952) (v:∀x∈t, -2305843009213693952≤x∧x≤2305843009213693952):IC N p t=some (IK p t):=by
 unfold IC;rw[KW q _ (by decide),Sa];obtain⟨s,⟨o,j,l⟩,e⟩:=Da t.length (λn i s=>Fk N t (He N) n i s) (He N) (λk s=>s.length=p.length∧(∀i,k≤i→s[i]? =p[i]?)∧∀i,i<k→s[i]? =(IK p t)[i]?) (λn k s c=>by
  simp only[Fk];rw[ES c];rfl) (λn k s g c=>by
  obtain⟨o,j,l⟩:=g;simp only[Fk];have a:k<s.length:=by omega
  have b:k<p.length:=by omega
  have m:s[k]=p[k]:=by
   have:=j k (Abd _);rw[Abf a,Abf b] at this;exact Aa1 this
  have z:=u _ (Abc b);have A:=v _ (Abc c);rw[ER c,Aax,BI c,Aav,BI a,Aav,Aav,Aav,Aav,m,DJ (n:=p[k]-t[k]) (by omega) (by omega),BF (by omega)];refine⟨_,⟨by rw[MG];exact o,λi g=>by rw[Ig (by omega)];exact j i (by omega),λi g=>?_⟩,rfl⟩;by_cases d:k=i
  ·subst d;rw[GL a,IK,Adb,Abf b,Abf c]
  ·rw[Ig d];exact l i (by omega)) N 0 p ⟨rfl,λi _=>rfl,λi g=>by omega⟩ (by omega) (Aa4 _)
 have:s=IK p t:=Acc λi=>by
  rcases Abk i t.length with B|B
  ·exact l i B
  ·rw[Abv (by omega),Abv (by simp [IK];omega)]
 subst this;exact e
def PX.big {W:Nat}{p:List Int}(b:PX W p):∀x∈p, -2305843009213693952≤x∧x≤2305843009213693952:=λx a=>by
 have:=b.mem a;omega
def PX.total {N W:Nat}(a:1000000<N) (b:W≤1000){p:List Int}(c:PX W p):Ch N p=some p.sum:=Qh a (by rw[c.len];exact b) c.nn (by have:=c.mv;omega)
def PX.padd {N W:Nat}(c:1000000<N) (d:W≤1000){p q:List Int}(a:PX W p) (b:PX W q):Ey N p q=some (En p q):=U3 c (by rw[a.len];exact d) (b.len.trans a.len.symm) a.big b.big
def PX.wo {N W:Nat}(c:1000000<N) (d:W≤1000){p t:List Int}(a:PX W p) (b:PX W t):IC N p t=some (IK p t):=Wx c (by rw[a.len];exact d) (b.len.trans a.len.symm) a.big b.big
def Nu:∀{l:List Int}{i:Nat}(b:i<l.length) (x:Int),(l.set i x).sum=l.sum-l[i]+x
 |a::l,0,_,x=>by simp;omega
 |a::l,i+1,b,x=>by
  have:=Nu (l:=l) (i:=i) (by simpa using b) x;simp only[List.set_cons_succ,Ab2,List.getElem_cons_succ,this];omega
def jV {N W:Nat}(A:1000000<N) (v:W≤1000){p:List Int}(a:PX W p) (o n:Int):∃t,Lv N p o n=some (t,IK p t)∧Wr t p∧(t=List.replicate W 0∨∃i:Nat,o=(i:Int)∧i<W∧0<n∧0<p.getD i 0∧t=(List.replicate W 0).set i (min n (p.getD i 0)))∧((∃i:Nat,o=(i:Int)∧i<W∧0<n)→t=(List.replicate W 0).set o.toNat (min n (p.getD o.toNat 0))):=by
 have d:Wr (List.replicate W 0) p:=⟨by simp [a.len],λi x y b g=>by
  rw[Adi] at b;split at b
  ·cases b;exact⟨Aby _,a.nn y (Ab6 g)⟩
  ·cases b⟩
 have q:∀t,Wr t p→Ix N p t=some (t,IK p t):=λt B=>by
  unfold Ix;rw[a.wo A v (B.sub a).2.2,Aav]
 have C:List.replicate ((p.length:Int)).toNat (0:Int)=List.replicate W 0:=by rw[a.len];rfl
 unfold Lv Kc;rw[KW (by rw[a.len];exact v) _ (by decide),C];by_cases D:0≤o∧o<W
 ·obtain⟨i,rfl⟩:∃i:Nat,o=i:=⟨o.toNat,by omega⟩
  have c:i<p.length:=by rw[a.len];omega
  have s:p.getD i 0=p[i]:=by simp [Abg,c]
  have h0:=a.nn _ (Abc c);rw[Abe (show ¬(i:Int)<0 by omega),Abe (show ¬(p.length:Int)≤(i:Int) by omega),Bool.or_self,Aa0,BI c,Aav,Aav,Abe (show ¬p[i]<0 by omega),Aa0,Aav,Aav];rw[Ab0,s];by_cases w:0<min n p[i]
  ·rw[Abs w,Aax,BI (show i<(List.replicate W (0:Int)).length by simp;omega),Aav,Aav];have z:Wr ((List.replicate W (0:Int)).set i (min n p[i])) p:=⟨by simp [a.len],λj x y b g=>by
    by_cases l:i=j
    ·subst l;rw[Adc (by simp;omega)] at b;rw[Abf c] at g;cases b;cases g;omega
    ·rw[Ac4 l] at b;exact d.le j x y b g⟩
   exact⟨_,q _ z,z,.inr ⟨i,rfl,by omega,by omega,by rw[s];omega,by rw[s];rfl⟩,λ_=>rfl⟩
  ·rw[Abe w,Aa0];refine⟨_,q _ d,d,.inl rfl,λ⟨j,F,u,H⟩=>?_⟩;have:min n p[i]=0:=by omega
   rw[this];apply Acc;intro k;by_cases m:i=k
   ·subst m;rw[Adc (by simp;omega),Adi,Aay (by omega)]
   ·rw[Ac4 m]
 ·have G:(decide (o<0)||decide ((p.length:Int)≤o))=true:=by
   rw[a.len];simp only[Abq,Abh];omega
  rw[G,Aax,Aav,Aax,Aav,Abe (show ¬0<min n 0 by omega),Aa0];exact⟨_,q _ d,d,.inl rfl,λ⟨j,F,u,_⟩=>absurd ⟨by omega,by omega⟩ D⟩
def PE (N:Nat) (n a b:Int):Hz N n a b=some (if n<a then a else if b<n then b else n):=by
 unfold Hz;by_cases c:n<a
 ·rw[Abs c,Aay c];rfl
 ·rw[Abe c,Aaw c];by_cases d:b<n
  ·rw[Abs d,Aay d];rfl
  ·rw[Abe d,Aaw d];rfl
def Nb (N:Nat) (i n:Int):Gj N i n=some (decide (0≤i)&&decide (i<n)):=rfl
def eD (N:Nat) (l:BO) (g:AT) (k:Int):∃a,Ht N l g k=some a∧a.V=g.V∧a.X=g.X:=by
 have b:∀c:Bool,∃a,G1 N l g k (GF N g) c=some a∧a.V=g.V∧a.X=g.X:=λc=>by
  unfold G1;cases c
  ·exact⟨_,rfl,rfl,rfl⟩
  ·cases decide (l.H=5)<;>exact⟨_,rfl,rfl,rfl⟩
 unfold Ht;cases decide (k=0)
 ·cases decide (k=1)
  ·cases decide (k=2)
   ·exact b (decide (k=3))
   ·exact b true
  ·exact⟨_,rfl,rfl,rfl⟩
 ·exact⟨_,rfl,rfl,rfl⟩
def fV (N:Nat) (l:BO) (g:AT) (t:Int):∃a,JD N l g t=some a∧a.V=g.V∧a.At=g.At∧(0≤l.U→0≤g.X→g.X≤l.U→0≤a.X∧a.X≤l.U):=by
 unfold JD;cases decide (l.U≠0)
 ·exact⟨_,rfl,rfl,rfl,λ_ b c=>⟨b,c⟩⟩
 ·rw[Aax,PE,Aav];refine⟨_,rfl,rfl,rfl,λh0 b c=>?_⟩;show 0≤(if t<0 then 0 else if l.U<t then l.U else t)∧_≤l.U
  split
  ·exact⟨Aby _,h0⟩
  ·split
   ·exact⟨h0,Aby _⟩
   ·exact⟨by omega,show t≤_ by omega⟩
def jH (N:Nat) (l:BO) (g:AT):Df (Hy N l g):=by
 unfold Hy;cases g.At
 ·obtain⟨a,d⟩:=Sq N g.X g.V;obtain⟨b,i⟩:=Sq N 0 l.Ad;rw[Aa0,d,Aav,i,Aav,PE,Aav];obtain⟨c,j⟩:=Xa N g.V (if a<b then b else if l.Ad<a then l.Ad else a);rw[j];exact⟨_,rfl⟩
 ·exact⟨_,rfl⟩
def ZM (N:Nat) (l:BO) (g:AT) (v:Int):∃b,HO N l g v=some b∧b.V=g.V∧(l.H≠3→b=g):=by
 unfold HO;by_cases a:l.H=3
 ·rw[show decide (l.H≠3)=false by simp [a],Aa0];cases decide (l.Aw≤v)
  ·cases decide (v≤l.Ax)<;>exact⟨_,rfl,rfl,λc=>absurd a c⟩
  ·exact⟨_,rfl,rfl,λc=>absurd a c⟩
 ·rw[show decide (l.H≠3)=true by simp [a],Aax];exact⟨g,rfl,rfl,λ_=>rfl⟩
def gF (N:Nat) (l:BO) (g:AT) (k:Int):AT:=(Ht N l g k).getD g
def gA (N:Nat) (l:BO) (g:AT) (k:Int):AT:=(JD N l g k).getD g
def gM (N:Nat) (l:BO) (g:AT):AT:=(Hy N l g).getD g
def gS (N:Nat) (l:BO) (g:AT) (v:Int):AT:=(HO N l g v).getD g
def wT (N:Nat) (l:BO) (g:AT) (k:Int):Ht N l g k=some (gF N l g k)∧(gF N l g k).V=g.V∧(gF N l g k).X=g.X:=by
 obtain⟨a,e,b⟩:=eD N l g k;unfold gF;rw[e];exact⟨rfl,b⟩
def wU (N:Nat) (l:BO) (g:AT) (k:Int):JD N l g k=some (gA N l g k)∧(gA N l g k).V=g.V∧(gA N l g k).At=g.At∧(0≤l.U→0≤g.X→g.X≤l.U→0≤(gA N l g k).X∧(gA N l g k).X≤l.U):=by
 obtain⟨a,e,b⟩:=fV N l g k;unfold gA;rw[e];exact⟨rfl,b⟩
def dY (N:Nat) (l:BO) (g:AT):Hy N l g=some (gM N l g):=by
 obtain⟨a,e⟩:=jH N l g;unfold gM;rw[e];rfl
def wR (N:Nat) (l:BO) (g:AT) (v:Int):HO N l g v=some (gS N l g v)∧(gS N l g v).V=g.V∧(l.H≠3→gS N l g v=g):=by
 obtain⟨a,e,b⟩:=ZM N l g v;unfold gS;rw[e];exact⟨rfl,b⟩
def qH (N:Nat) (l:BO) (g:AT) (k:l.U≤64) (m:0≤l.Ad∧l.Ad≤l.U) (d:0≤g.V∧g.V≤l.U) (n:0≤g.X∧g.X≤l.U):(0≤(gM N l g).V∧(gM N l g).V≤l.U)∧(gM N l g).V-g.V≤l.Ad∧ -l.Ad≤(gM N l g).V-g.V∧(g.At=true→gM N l g=g):=by
 have e:=dY N l g;unfold Hy at e;cases a:g.At with
 |true=>
  rw[a,Aax] at e;have e:=Aa1 e;rw[←e];exact⟨d,by omega,by omega,λ_=>rfl⟩
 |false=>
  rw[a,Aa0,bF N (by omega) (by omega) (by omega) (by omega),Aav,bF N (by omega) (by omega) (by omega) (by omega),Aav,PE,Aav] at e;have b:∃c,(if g.X-g.V<0-l.Ad then 0-l.Ad else if l.Ad<g.X-g.V then l.Ad else g.X-g.V)=c∧ -l.Ad≤c∧c≤l.Ad∧0≤g.V+c∧g.V+c≤l.U:=by
   refine⟨_,rfl,?_⟩;split
   ·omega
   ·split<;>omega
  obtain⟨c,b,o,p,i,j⟩:=b;rw[b,Ta N (by omega) (by omega) (by omega) (by omega),Aav] at e;have e:=Aa1 e;rw[←e];exact⟨⟨i,j⟩,by show g.V+c-g.V≤_;omega,by show _≤g.V+c-g.V;omega,λq=>by cases q⟩
def iU (N:Nat) (l:BO) (k:Nat) (a:List LX) (g:AT):AT:=a.foldl (λg f=>if f.As=(k:Int) then gF N l g f.H else g) g
def stA (N:Nat) (l:BO) (k:Nat) (cs:List SR) (g:AT):AT:=cs.foldl (λg c=>if c.As=(k:Int) then gA N l g c.X else g) g
def Ss {N:Nat}{l:BO}{k:Nat}{a:List LX}{g:AT}{i:Nat}(b:i<a.length):iU N l k (a.take (i+1)) g=if a[i].As=(k:Int) then gF N l (iU N l k (a.take i) g) a[i].H else iU N l k (a.take i) g:=by
 unfold iU;rw[Acv b,Ad2];rfl
def Su {N:Nat}{l:BO}{k:Nat}{cs:List SR}{g:AT}{i:Nat}(a:i<cs.length):stA N l k (cs.take (i+1)) g=if cs[i].As=(k:Int) then gA N l (stA N l k (cs.take i) g) cs[i].X else stA N l k (cs.take i) g:=by
 unfold stA;rw[Acv a,Ad2];rfl
def ZD (L:Nat) (a:List AT) (g:Nat→AT):Prop:=a.length=L∧∀k,k<L→a[k]? =some (g k)
def ZD.ix {L:Nat}{a:List AT}{g:Nat→AT}(c:ZD L a g){k:Nat}(b:k<L):ix a (k:Int)=some (g k):=by
 have:=c.2 k b;simp [Go.Proofs.YtedgiljmffngoaaGreat.ix,this]
def ZD.upd {L:Nat}{b:List AT}{g a:Nat→AT}(m:ZD L b g){j:Nat}(d:j<L) (x:AT) (i:a j=x) (l:∀k,k<L→k≠j→a k=g k):ZD L (upd b (j:Int) x) a:=
 ⟨by rw[MG];exact m.1,λk c=>by
  by_cases e:j=k
  ·subst e;rw[GL (by rw[m.1];exact d),i]
  ·rw[Ig e,m.2 k c,l k c λm=>e m.symm]⟩
def ZD.congr {L:Nat}{a:List AT}{g b:Nat→AT}(d:ZD L a g) (e:∀k,k<L→b k=g k):ZD L a b:=⟨d.1,λk c=>by rw[d.2 k c,e k c]⟩
def YK (b:AF) (k:Nat):BO:=b.G.getD k default
def TJ {b:AF}{k:Nat}(a:k<b.G.length):YK b k=b.G[k]:=by unfold YK;simp [Abg,a]
def mX {α}{l:List α}{i:Int}(h0:0≤i) (a:i<l.length):∃n:Nat,i=(n:Int)∧n<l.length:=⟨i.toNat,by omega,by omega⟩
def Nh {i:Int}{n:Nat}:(decide (0≤i)&&decide (i<(n:Int)))=true↔0≤i∧i<n:=by simp
def dG {N:Nat}(I:1000000<N){w:AN}{b:AF}(q:w.b=b) (J:b.G.length≤1000) (K:w.in_.Ai.length≤1000) (M:w.in_.Ak.length≤1000){o:Nat→AT}(h0:ZD b.G.length w.s.O o):
  ∃x,Gk N w=some x∧ZD b.G.length x (λk=>gM N (YK b k) (stA N (YK b k) k w.in_.Ak (iU N (YK b k) k w.in_.Ai (o k)))):=by
 subst q;unfold Gk;obtain⟨t,y,B⟩:=Da w.in_.Ai.length (λn i s=>Ce N w (Cz N w) n i s) (Cz N w) (λi s=>ZD w.b.G.length s (λk=>iU N (YK w.b k) k (w.in_.Ai.take i) (o k))) (λn k s a=>by
  simp only[Ce];rw[ES a];rfl) (λn i s g a=>by
  simp only[Ce,GQ];rw[ER a,Aax,BI a,Aav,Nb,Aav,BF (by omega)];cases l:(decide (0≤w.in_.Ai[i].As)&&decide (w.in_.Ai[i].As<(w.b.G.length:Int)))
  ·refine⟨s,g.congr λk d=>?_,rfl⟩;rw[Ss a,Aaw];intro e;rw[e] at l;simp [d] at l
  ·obtain⟨u,v⟩:=Nh.1 l;obtain⟨j,m,c⟩:=mX u v;rw[Aax,m,BI c];simp only[g.ix c,Aav];rw[(wT N _ _ _).1,Aav];refine⟨_,g.upd c _ ?_ λk d p=>?_,rfl⟩
   ·rw[Ss a,Aay m,TJ c]
   ·rw[Ss a,Aaw (by rw[m];omega)]) N 0 w.s.O h0 (by omega) (Aa4 _)
 rw[show Ce N w (Cz N w) N 0 w.s.O=Cz N w t from B];rw[Abo] at y;unfold Cz;obtain⟨z,A,C⟩:=Da w.in_.Ak.length (λn i s=>Cd N w (Cy N w) n i s) (Cy N w) (λi s=>ZD w.b.G.length s (λk=>stA N (YK w.b k) k (w.in_.Ak.take i) (iU N (YK w.b k) k w.in_.Ai (o k)))) (λn k s a=>by
  simp only[Cd];rw[ES a];rfl) (λn i s g a=>by
  simp only[Cd,GP];rw[ER a,Aax,BI a,Aav,Nb,Aav,BF (by omega)];cases l:(decide (0≤w.in_.Ak[i].As)&&decide (w.in_.Ak[i].As<(w.b.G.length:Int)))
  ·refine⟨s,g.congr λk d=>?_,rfl⟩;rw[Su a,Aaw];intro e;rw[e] at l;simp [d] at l
  ·obtain⟨u,v⟩:=Nh.1 l;obtain⟨j,m,c⟩:=mX u v;rw[Aax,m,BI c];simp only[g.ix c,Aav];rw[(wU N _ _ _).1,Aav];refine⟨_,g.upd c _ ?_ λk d p=>?_,rfl⟩
   ·rw[Su a,Aay m,TJ c]
   ·rw[Su a,Aaw (by rw[m];omega)]) N 0 t y (by omega) (Aa4 _)
 rw[show Cd N w (Cy N w) N 0 t=Cy N w z from C];rw[Abo] at A;unfold Cy;obtain⟨D,F,H⟩:=Da w.b.G.length (λn i s=>DF N w n i s) (λs=>some s) (λi s=>ZD w.b.G.length s (λk=>if k<i then gM N (YK w.b k) (stA N (YK w.b k) k w.in_.Ak (iU N (YK w.b k) k w.in_.Ai (o k))) else stA N (YK w.b k) k w.in_.Ak (iU N (YK w.b k) k w.in_.Ai (o k)))) (λn k s a=>by
  simp only[DF];rw[ES a];rfl) (λn i s g a=>by
  simp only[DF];rw[ER a,Aax,BI a];simp only[g.ix a,Aav];rw[dY,Aav,BF (by omega),Aaw (Nat.lt_irrefl i)];refine⟨_,g.upd a _ ?_ λk d p=>?_,rfl⟩
  ·rw[Aay (Nat.lt_succ_self i),TJ a]
  ·by_cases Q:k<i
   ·rw[Aay Q,Aay (by omega)]
   ·rw[Aaw Q,Aaw (by omega)]) N 0 z (A.congr λk _=>by rw[Aaw (Nat.not_lt_zero k)]) (by omega) (Aa4 _)
 exact⟨D,H,F.congr λk a=>by rw[Aay a]⟩
def cP:∀{a b:List Int},a.Perm b→a.sum=b.sum:=λi=>by
 induction i with
 |nil=>rfl
 |cons x _ c=>simp only[Ab2,c]
 |swap x y l=>simp only[Ab2];omega
 |trans _ _ d g=>exact d.trans g
def LK:∀{l:List Int}{c:Int},(∀x∈l,x≤c)→l.sum≤l.length*c
 |[],c,_=>by simp
 |a::l,c,i=>by
  have d:=i a (Abn ..);have g:=LK (l:=l) (c:=c) λx b=>i x (Abt _ b);rw[Ab2,Acj,Int.natCast_succ,Int.add_mul,Int.one_mul];omega
def YQ {lt:Int→Int→Bool}(R:Int→Int) (g:∀x y,lt x y=true→R y≤R x) (d:∀x y,lt x y=false→R x≤R y) (x:Int):∀l:List Int,l.Pairwise (λa b=>R b≤R a)→(Tx lt x l).Pairwise λa b=>R b≤R a
 |[],_=>by simp [Tx]
 |y::l,k=>by
  have j:∀z,z∈l→R z≤R y:=λz c=>List.rel_of_pairwise_cons k c;unfold Tx;cases i:lt y x with
  |true=>
   refine List.Pairwise.cons (λz c=>?_) (YQ R g d x l k.of_cons);rcases Aa5.1 ((Ph lt x l).mem_iff.1 c) with rfl|c
   ·exact g _ _ i
   ·exact j z c
  |false=>
   refine List.Pairwise.cons (λz c=>?_) k;rcases Aa5.1 c with rfl|c
   ·exact d _ _ i
   ·exact Int.le_trans (j z c) (d _ _ i)
def WT {lt:Int→Int→Bool}(R:Int→Int) (c:∀x y,lt x y=true→R y≤R x) (d:∀x y,lt x y=false→R x≤R y):∀l:List Int,(Ng lt l).Pairwise λa b=>R b≤R a
 |[]=> .nil
 |x::l=>YQ R c d x _ (WT R c d l)
def bZ (c:List Int) (x y:Int):(Rv c x y=true→c.getD y.toNat 0≤c.getD x.toNat 0)∧(Rv c x y=false→c.getD x.toNat 0≤c.getD y.toNat 0):=by
 show(cond (!decide (c.getD x.toNat 0=c.getD y.toNat 0)) (decide (c.getD y.toNat 0<c.getD x.toNat 0)) (decide (x.toNat<y.toNat))=true→_)∧(cond (!decide (c.getD x.toNat 0=c.getD y.toNat 0)) (decide (c.getD y.toNat 0<c.getD x.toNat 0)) (decide (x.toNat<y.toNat))=false→_)
 generalize c.getD x.toNat 0=a
 generalize c.getD y.toNat 0=b
 by_cases d:a=b
 ·subst d;exact⟨λ_=>Aby _,λ_=>Aby _⟩
 ·rw[Abe d,Bool.not_false,Aax];exact⟨λd=>by have:=Adf d;omega,λd=>by have:=of_decide_eq_false d;omega⟩
def bB {n:Nat}{S:Int}(X:0<S){b a:List Int}(H:b.length=n) (s:∀i,i<n→b[i]? =some (i:Int)) (I:a.length=n) (J:∀x∈a,0≤x∧x≤S-1){p:Nat}(t:a.sum=p*S):∀x∈(Ng (Rv a) b).take p,0<a.getD x.toNat 0:=by
 intro x K;have M:=Mj (Rv a) b;have u:=WT (lt:=Rv a) (λx=>a.getD x.toNat 0) (λx y h=>(bZ a x y).1 h) (λx y h=>(bZ a x y).2 h) b;have m:b.map (λx=>a.getD x.toNat 0)=a:=Acc λi=>by
  rcases Abk i n with h|h
  ·rw[Acx,s i h];have:i<a.length:=by omega
   simp [Abg,this]
  ·rw[Abv (by simp;omega),Abv (by omega)]
 have C:((Ng (Rv a) b).map λx=>a.getD x.toNat 0).sum=p*S:=by
  rw[cP (M.map _),m,t]
 have v:∀y:Int,0≤a.getD y.toNat 0∧a.getD y.toNat 0≤S-1:=λy=>by
  rw[Abg];cases h:a[y.toNat]? with
  |none=>exact⟨Aby _,by show(0:Int)≤S-1;omega⟩
  |some z=>exact J z (Ab6 h)
 generalize Ng (Rv a) b=l at*
 obtain⟨j,o⟩:=Acy.1 K;rw[Ada] at o;split at o
 ·rename_i Q;apply Ade;intro Y;have g:a.getD x.toNat 0=0:=by have:=(v x).1;omega
  have d:∀y∈l.drop j,a.getD y.toNat 0=0:=λy q=>by
   obtain⟨k,w⟩:=Acy.1 q;rw[Add] at w;have U:=(Aba.1 o).1;have V:=(Aba.1 w).1;have D:=(Aba.1 o).2;have F:=(Aba.1 w).2;rcases Aen k with h0|h0
   ·subst h0;have:y=x:=by rw[←D,←F];rfl
    rw[this];exact g
   ·have:=Ael.1 u j (j+k) U V (by omega);rw[D,F,g] at this;have:=(v y).1;omega
  have W:((l.drop j).map λx=>a.getD x.toNat 0).sum≤0:=by
   have:=LK (l:=(l.drop j).map λx=>a.getD x.toNat 0) (c:=0) λz g=>by
    obtain⟨y,q,rfl⟩:=Ab1.1 g;exact Int.le_of_eq (d y q)
   omega
  have A:((l.take j).map λx=>a.getD x.toNat 0).sum≤(j:Int)*(S-1):=by
   have:=LK (l:=(l.take j).map λx=>a.getD x.toNat 0) (c:=S-1) λz g=>by
    obtain⟨y,q,rfl⟩:=Ab1.1 g;exact(v y).2
   have Z:((l.take j).map λx=>a.getD x.toNat 0).length≤j:=by simp;omega
   have:(((l.take j).map λx=>a.getD x.toNat 0).length:Int)*(S-1)≤(j:Int)*(S-1):=Adu (by omega) (by omega);omega
  have G:(l.map λx=>a.getD x.toNat 0).sum=((l.take j).map λx=>a.getD x.toNat 0).sum+((l.drop j).map λx=>a.getD x.toNat 0).sum:=by
   rw[←Acl,←Ack,Aed]
  have B:((j:Int)+1)*S≤p*S:=Adu (by omega) (by omega);rw[Int.add_mul,Int.one_mul] at B;rw[Int.mul_sub,Int.mul_one] at A;omega
 ·cases o
def ZN {N:Nat}(M:1000000<N) (l:List Int) (Q:l.length≤1000) (y:l.Nodup){n:Nat}(c:∀x∈l,0≤x∧x<n) (a:List Int) (D:a.length=n) (F:∀x∈a, -4611686018427387904≤x∧x≤4611686018427387000):
  ∃r,FO N l (HD N) N 0 a=some (r,true)∧r.length=n∧r.sum=a.sum+l.length∧∀(i:Nat) x,a[i]? =some x→r[i]? =some (x+if (i:Int)∈l then 1 else 0):=by
 obtain⟨s,⟨z,A,p⟩,e⟩:=Da l.length (λm i s=>FO N l (HD N) m i s) (HD N) (λk s=>s.length=n∧s.sum=a.sum+k∧∀(i:Nat) x,a[i]? =some x→s[i]? =some (x+if (i:Int)∈l.take k then 1 else 0)) (λm k s d=>by
  simp only[FO];rw[ES d];rfl) (λm k s G d=>by
  obtain⟨z,A,p⟩:=G;simp only[FO];obtain⟨H,U⟩:=c _ (Abc d);obtain⟨j,B,b⟩:=mX (l:=s) H (by omega);have g:j<a.length:=by omega
  have t:(j:Int)∉l.take k:=λI=>by
   obtain⟨q,w⟩:=Acy.1 I;rw[Ada] at w;split at w
   ·rename_i C;have J:=(Aba.1 w).2;exact Ael.1 y q k (by omega) d C (by rw[J,B])
   ·cases w
  have u:s[j]=a[j]:=by
   have:=p j _ (Abf g);rw[Aaw t,Abf b] at this;have:=Aa1 this;omega
  have K:=F _ (Abc g);rw[ER d,Aax,BI d,Aav,B,BI b,Aav,Aav,Aav,Aav,u,DJ (n:=a[j]+1) (by omega) (by omega),BF (by omega)];refine⟨_,⟨by rw[MG];exact z,?_,λi x c=>?_⟩,rfl⟩
  ·show(s.set (j:Int).toNat _).sum=_
   rw[Ab0,Nu b,A,u];omega
  ·have v:l.take (k+1)=l.take k++[(j:Int)]:=by rw[Acv d,B]
   by_cases o:j=i
   ·subst o;rw[GL b,v,Aay (by simp)];rw[Abf g] at c;cases c;rfl
   ·rw[Ig o,p i x c,v];have:(i:Int)≠(j:Int):=λV=>o (by omega);simp [this]) N 0 a ⟨D,by simp,λi x c=>by simp [c]⟩ (by omega) (Aa4 _)
 rw[Abo] at p;exact⟨s,e,z,A,p⟩
structure ShX (t S:Int) (w:List Int) (k:Nat) (s:Int×List Int×List Int×List Int):Prop where
 l1:s.2.1.length=w.length
 l2:s.2.2.1.length=w.length
 l3:s.2.2.2.length=w.length
 or_:∀i,i<k→s.2.1[i]? =some (i:Int)
 rm:∀i x,i<k→w[i]? =some x→s.2.2.1[i]? =some (t*x%S)
 qt:∀i x,i<k→w[i]? =some x→s.2.2.2[i]? =some (t*x/S)
 ex:s.1=t-((w.take k).map λx=>t*x/S).sum
def YD {t S:Int}(b:0<S):∀w:List Int,S*(w.map λx=>t*x/S).sum+(w.map λx=>t*x%S).sum=t*w.sum
 |[]=>by simp
 |a::w=>by
  have c:=YD (t:=t) b w;have d:=Int.mul_ediv_add_emod (t*a) S;simp only[Abl,Ab2];rw[Int.mul_add,Int.mul_add];omega
def bX {N W:Nat}(hN:18446744073709551616<N) (hW:W≤64){w:List Int}(o:PX W w){t:Int}(C:0≤t∧t≤w.sum):∃q,KL N t w=some (q,true)∧Wr q w∧q.sum=t:=by
 have ar:=o.len;have ag:=o.mv;unfold KL;rw[Abe (show ¬64<(w.length:Int) by omega),Aa0];obtain⟨s,⟨i1,i2⟩,e⟩:=Da w.length (λn i s=>FQ N w (FU N t w) n s i) (FU N t w) (λk s=>s=(w.take k).sum∧0≤s) (λn k s g=>by
  simp only[FQ];rw[ES g];rfl) (λn k s p g=>by
  obtain⟨i1,i2⟩:=p;have h1:=I6 o.nn (k+1);have B:=I6 o.nn k;have G:=o.nn _ (Abc g);rw[KB g] at h1;simp only[FQ];rw[ER g,Aax,BI g,Aav,DJ (n:=1125899906842624-s) (by omega) (by omega),Abe (show ¬w[k]<0 by omega),Abe (show ¬1125899906842624-s<w[k] by omega),Bool.or_self,Aa0,BF (by omega),DJ (n:=s+w[k]) (by omega) (by omega)];exact⟨_,⟨by rw[KB g,i1],by omega⟩,rfl⟩) N 0 0 ⟨rfl,Aby _⟩ (by omega) (Aa4 _)
 rw[show FQ N w (FU N t w) N 0 0=FU N t w s from e];rw[Abo] at i1;subst i1;unfold FU;rw[Abe (show ¬t<0 by omega),Abe (show ¬w.sum<t by omega),Bool.or_self,Aa0,KW (by omega) _ (by decide)];by_cases U:w.sum=0
 ·rw[Abs U,Aax];refine⟨_,rfl,⟨Nz _ _,λi x y a D=>?_⟩,by simp;omega⟩;rw[Adi] at a;split at a
  ·cases a;exact⟨Aby _,o.nn y (Ab6 D)⟩
  ·cases a
 rw[Abe U,Aa0,KW (by omega) _ (by decide),KW (by omega) _ (by decide)];have u:0<w.sum:=by have:=o.sum0;omega
 have h1:1≤w.length:=by
  cases w with
  |nil=>exact absurd rfl U
  |cons _ _=>simp
 obtain⟨⟨v,A,b,q⟩,⟨K,M,V,F,X,Y,Q⟩,e3⟩:=Da w.length (λn i (s:Int×List Int×List Int×List Int)=>FP N t w w.sum (FT N) n s.1 i s.2.1 s.2.2.1 s.2.2.2) (λs=>FT N s.1 s.2.1 s.2.2.1 s.2.2.2) (λk s=>ShX t w.sum w k s) (λn k s g=>by
  simp only[FP];rw[ES g];rfl) (λn k s p g=>by
  obtain⟨v,A,b,q⟩:=s;obtain⟨K,M,V,F,X,Y,Q⟩:=p;simp only at K M V F X Y Q;have w0:=o.nn _ (Abc g);have wS:=Gi o.nn _ (Abc g);have hq:=eB (t:=t) (n:=w[k]) (d:=w.sum) (by omega) wS C.1;have au:=WW (t:=t) (n:=w[k]) (d:=w.sum) (by omega) w0 C.1;have ah:v≤t∧ -(k:Int)*1125899906842624≤v:=by
   have h1:0≤((w.take k).map λx=>t*x/w.sum).sum:=SV λx a=>WW (by omega) (o.nn x (Adh a)) C.1;have B:((w.take k).map λx=>t*x/w.sum).sum≤(((w.take k).map λx=>t*x/w.sum).length:Int)*1125899906842624:=LK λz U=>by
    obtain⟨x,a,rfl⟩:=Ab1.1 U;have:=eB (t:=t) (n:=x) (d:=w.sum) (by omega) (Gi o.nn x (Adh a)) C.1;omega
   have G:((w.take k).map λx=>t*x/w.sum).length=k:=by simp;omega
   rw[G] at B;rw[Int.neg_mul];omega
  have aq:(k:Int)*1125899906842624≤64*1125899906842624:=Adu (by omega) (by decide);rw[Int.neg_mul] at ah;simp only[FP];rw[ER g,Aax,BI g,Aav,Oz hN,pD ⟨C.1,by omega⟩ ⟨w0,by omega⟩ ⟨by omega,ag⟩ (by omega)];simp only[Aav,BI (show k<A.length by omega),BI (show k<b.length by omega),BI (show k<q.length by omega)];rw[BF (by omega),DJ (n:=v-t*w[k]/w.sum) (by omega) (by omega)];refine⟨⟨_,_,_,_⟩,⟨by show(upd A _ _).length=_;rw[MG];exact K,by show(upd b _ _).length=_;rw[MG];exact M,by show(upd q _ _).length=_;rw[MG];exact V,λi p=>?_,λi x p a=>?_,λi x p a=>?_,?_⟩,rfl⟩
  ·show(upd A (k:Int) (k:Int))[i]? =_
   by_cases m:k=i
   ·subst m;exact GL (by omega) _
   ·rw[Ig m];exact F i (by omega)
  ·show(upd b (k:Int) _)[i]? =_
   by_cases m:k=i
   ·subst m;rw[Abf g] at a;cases a;exact GL (by omega) _
   ·rw[Ig m];exact X i x (by omega) a
  ·show(upd q (k:Int) _)[i]? =_
   by_cases m:k=i
   ·subst m;rw[Abf g] at a;cases a;exact GL (by omega) _
   ·rw[Ig m];exact Y i x (by omega) a
  ·show v-t*w[k]/w.sum=_
   rw[LM g,Q];omega) N 0 (t,List.replicate ((w.length:Int)).toNat 0,List.replicate ((w.length:Int)).toNat 0,List.replicate ((w.length:Int)).toNat 0) ⟨Nz _ _,Nz _ _,Nz _ _,λi p=>by omega,λi x p=>by omega,λi x p=>by omega,by simp⟩ (by omega) (Aa4 _)
 simp only at K M V F X Y Q;rw[show FP N t w w.sum (FT N) N t 0 _ _ _=FT N v A b q from e3];have H:b=w.map λx=>t*x%w.sum:=Acc λi=>by
  rcases Abk i w.length with h|h
  ·rw[X i _ h (Abf h),Acx,Abf h];rfl
  ·rw[Abv (by omega),Abv (by simp;omega)]
 have I:q=w.map λx=>t*x/w.sum:=Acc λi=>by
  rcases Abk i w.length with h|h
  ·rw[Y i _ h (Abf h),Acx,Abf h];rfl
  ·rw[Abv (by omega),Abv (by simp;omega)]
 rw[Abo] at Q;have av:=YD (t:=t) u w;have J:∀x∈b,0≤x∧x≤w.sum-1:=λx a=>by
  rw[H] at a;obtain⟨y,_,rfl⟩:=Ab1.1 a;have B:=Int.emod_nonneg (t*y) (show w.sum≠0 by omega);have G:=Int.emod_lt_of_pos (t*y) u;omega
 have Z:b.sum=v*w.sum:=by
  have hc:=Int.mul_comm w.sum (w.map λx=>t*x/w.sum).sum;rw[H,Q,Int.sub_mul,←hc];omega
 have aw:0≤b.sum:=JV λx a=>(J x a).1;have ai:b.sum≤(w.length:Int)*w.sum:=by
  have B:=LK (l:=b) (c:=w.sum-1) λx a=>(J x a).2;rw[M,Int.mul_sub,Int.mul_one] at B;omega
 have x0:0≤v:=by
  by_cases aa:v<0
  ·have:v*w.sum<0:=Int.mul_neg_of_neg_of_pos aa u;omega
  ·omega
 have x1:v≤w.length:=Int.le_of_mul_le_mul_right (by rw[←Z];exact ai) u;obtain⟨en,rfl⟩:∃en:Nat,v=en:=⟨v.toNat,by omega⟩
 have hp:=Mj (Rv b) A;have ab:∀x∈A,0≤x∧x<(w.length:Int):=λx a=>by
  obtain⟨i,p⟩:=Acy.1 a;have ax:=(Aba.1 p).1;have B:=F i (by omega);rw[p] at B;cases B;omega
 have aj:A.Nodup:=Ael.2 λi j p hj ay h=>by
  have B:=F i (by omega);have G:=F j (by omega);rw[Abf p] at B;rw[Abf hj] at G;have B:=Aa1 B;have G:=Aa1 G;omega
 have ac:=bB u K F M J Z;have hs:Sx A b=some (Ng (Rv b) A):=by
  unfold Sx;rw[Aay ⟨by omega,by omega,by omega,Aa6.2 λx a=>by
   have:=ab x a;simp only[Aa3,Abh];omega⟩]
 have ad:(Ng (Rv b) A).length=w.length:=by rw[hp.length_eq];exact K
 have ae:((Ng (Rv b) A).take en).Nodup:=List.Nodup.sublist (List.take_sublist _ _) (hp.nodup_iff.2 aj);have ak:∀x∈q,0≤x∧x≤t:=λx a=>by
  rw[I] at a;obtain⟨y,D,rfl⟩:=Ab1.1 a;exact⟨WW (by omega) (o.nn y D) C.1,eB (by omega) (Gi o.nn y D) C.1⟩
 unfold FT yB;rw[hs,Aav,Aay ⟨x0,by omega,by omega⟩,Aav,Ab0];obtain⟨r,er,r1,r2,r3⟩:=ZN (N:=N) (by omega) ((Ng (Rv b) A).take en) (by rw[Aca];omega) ae (n:=w.length) (λx a=>ab x (hp.mem_iff.1 (Adh a))) q V (λx a=>by have:=ak x a;omega);refine⟨r,er,⟨r1,λi x y a D=>?_⟩,?_⟩
 ·have al:q[i]? =some (t*y/w.sum):=by rw[I,Acx,D];rfl
  have am:b[i]? =some (t*y%w.sum):=by rw[H,Acx,D];rfl
  rw[r3 i _ al] at a;have a:=Aa1 a;have af:=o.nn y (Ab6 D);have az:=Gi o.nn y (Ab6 D);have g0:=WW (t:=t) (n:=y) (d:=w.sum) (by omega) af C.1;have a0:=Int.mul_ediv_add_emod (t*y) w.sum;have a1:t*y≤w.sum*y:=Adu C.2 af;split at a
  ·rename_i hm;have an:=ac _ hm;rw[Ab0,Abg,am,Acm] at an;have ao:w.sum*(t*y/w.sum)<w.sum*y:=by omega
   have:=Int.lt_of_mul_lt_mul_left ao (by omega);omega
  ·have ap:w.sum*(t*y/w.sum)≤w.sum*y:=by
    have:=Int.emod_nonneg (t*y) (show w.sum≠0 by omega);omega
   have:=Int.le_of_mul_le_mul_left ap u;omega
 ·rw[r2,Aca,ad,I,Ady (by omega)];omega
def iP {N W:Nat}(v:18446744073709551616<N) (w:W≤64){p:List Int}(a:PX W p) (n:Int):∃t,Lt N p n=some (t,IK p t)∧Wr t p∧t.sum=max 0 (min n p.sum):=by
 have z:=a.len;have m:Wr (List.replicate W 0) p:=⟨by simp [a.len],λi x y g A=>by
  rw[Adi] at g;split at g
  ·cases g;exact⟨Aby _,a.nn y (Ab6 A)⟩
  ·cases g⟩
 have o:∀t,Wr t p→HX N p t=some (t,IK p t):=λt B=>by
  unfold HX;rw[a.wo (by omega) (by omega) (B.sub a).2.2,Aav]
 have C:List.replicate ((p.length:Int)).toNat (0:Int)=List.replicate W 0:=by rw[a.len];rfl
 have D:=a.sum0;unfold Lt;rw[KW (by omega) _ (by decide),C];by_cases q:0<n
 ·rw[Abs q,Abs (show(p.length:Int)≤64 by omega)];have b:Id N p=some true:=by
   unfold Id;obtain⟨s,⟨u,F⟩,e⟩:=Da p.length (λn i s=>EV N p (Gz N) n s i) (λ_=>Gz N) (λk s=>s=(p.take k).sum∧0≤s) (λn k s c=>by
    simp only[EV];rw[ES c];rfl) (λn k s G c=>by
    obtain⟨u,F⟩:=G;have H:=I6 a.nn (k+1);have J:=I6 a.nn k;have K:=a.nn _ (Abc c);have M:=a.mv;rw[KB c] at H;simp only[EV];rw[ER c,Aax,BI c,Aav,DJ (n:=1125899906842624-s) (by omega) (by omega),Abe (show ¬p[k]<0 by omega),Abe (show ¬1125899906842624-s<p[k] by omega),Bool.or_self,Aa0,BF (by omega),DJ (n:=s+p[k]) (by omega) (by omega)];exact⟨_,⟨by rw[KB c,u],by omega⟩,rfl⟩) N 0 0 ⟨rfl,Aby _⟩ (by omega) (Aa4 _)
   exact e
  obtain⟨j,e,l,d⟩:=bX v w a (t:=min n p.sum) ⟨by omega,by omega⟩;rw[Bool.and_self,Aax,b,Aav,Aav,Aax,a.total (by omega) (by omega),Aav,e,Aav,Aax];unfold Jp;have I:Pj (List.replicate W (0:Int)) j=j:=eR (by rw[l.len,z];simp);rw[I];exact⟨j,o j l,l,by rw[d];omega⟩
 ·rw[Abe q,Bool.false_and,Aa0,Aav,Aa0];exact⟨_,o _ m,m,by rw[X6];omega⟩
structure In (P W:Nat) (o:List (List Int)):Prop where
 len:o.length=P
 all:∀x∈o,PX W x
def FE (o:List (List Int)):Int:=(o.map List.sum).sum
def GI (q:List AM):Int:=(q.map λl=>l.K.sum).sum
def In.ix {P W:Nat}{o:List (List Int)}(c:In P W o){k:Nat}(a:k<P):∃x,Go.Proofs.YtedgiljmffngoaaGreat.ix o (k:Int)=some x∧o[k]? =some x∧PX W x:=by
 obtain⟨x,e,b⟩:=Aag (l:=o) (i:=k) (by rw[c.len];exact a);exact⟨x,e,by rw[BI (by rw[c.len];exact a)] at e;rw[Abf (by rw[c.len];exact a)];exact e,c.all x b⟩
def In.upd {P W:Nat}{o:List (List Int)}(c:In P W o) (i:Int){x:List Int}(b:PX W x):In P W (upd o i x):=
 ⟨by rw[MG];exact c.len,λy a=>by
  rcases Ad3 a with a|rfl
  ·exact c.all y a
  ·exact b⟩
def In.nn {P W:Nat}{o:List (List Int)}(c:In P W o):∀x∈o.map List.sum,0≤x:=λx a=>by
 obtain⟨y,b,rfl⟩:=Ab1.1 a;exact(c.all y b).sum0
def Qs {o:List (List Int)}{k:Nat}{x y:List Int}(a:o[k]? =some x):FE (upd o (k:Int) y)=FE o-x.sum+y.sum:=by
 have b:=(Aba.1 a).1;have c:=(Aba.1 a).2;unfold FE upd;rw[Ab0,List.map_set,Nu (by simpa using b),List.getElem_map,c]
def In.le {P W:Nat}{o:List (List Int)}(b:In P W o){k:Nat}{x:List Int}(a:o[k]? =some x):x.sum≤FE o:=Gi b.nn _ (Ab1.2 ⟨x,Ab6 a,rfl⟩)
def In.sum0 {P W:Nat}{o:List (List Int)}(a:In P W o):0≤FE o:=JV a.nn
def Nd {o:List (List Int)}{k:Nat}(a:k<o.length):FE (o.take (k+1))=FE (o.take k)+(o[k]).sum:=LM a
def MW {q:List AM}{k:Nat}(a:k<q.length):GI (q.take (k+1))=GI (q.take k)+(q[k]).K.sum:=LM (f:=λl:AM=>l.K.sum) a
def N0 {P W:Nat}{o:List (List Int)}(a:In P W o) (k:Nat):0≤FE (o.take k)∧FE (o.take k)≤FE o:=by
 have:=I6 a.nn k;rw[←List.map_take] at this;exact this
def QX (P W:Nat) (q:List AM):Prop:=∀l∈q,PX W l.K∧0≤l.C∧l.C<P
def QX.nn {P W:Nat}{q:List AM}(c:QX P W q):∀x∈q.map (λl=>l.K.sum),0≤x:=λx a=>by
 obtain⟨y,b,rfl⟩:=Ab1.1 a;exact(c y b).1.sum0
def Ek {P W:Nat}{q:List AM}(a:QX P W q) (k:Nat):0≤GI (q.take k)∧GI (q.take k)≤GI q:=by
 have:=I6 a.nn k;rw[←List.map_take] at this;exact this
def v1 (W:Nat) (n:Int):List Int:=upd (List.replicate W 0) 0 n
def L3 (W:Nat) (n:Int):(v1 W n).length=W:=by unfold v1;rw[MG];simp
def Oo {W:Nat}(a:1≤W) (n:Int):(v1 W n).sum=n:=by
 unfold v1 upd;rw[show (0:Int).toNat=0 from rfl,Nu (by simp;omega)];simp
def Xn {W:Nat}(c:1≤W){n:Int}(h0:0≤n) (b:n≤1125899906842624):PX W (v1 W n):=
 ⟨L3 W n,λx a=>by
  rcases Ad3 a with a|rfl
  ·rw[(List.mem_replicate.1 a).2];exact Aby 0
  ·exact h0,by rw[Oo c];exact b⟩
def Pb (W:Nat):v1 W 0=List.replicate W 0:=by
 unfold v1 upd;apply Acc;intro i;by_cases a:0=i
 ·subst a;rcases Aen W with a|a
  ·subst a;rfl
  ·rw[show (0:Int).toNat=0 from rfl,Adc (by simp;omega),Adi,Aay a]
 ·rw[show (0:Int).toNat=0 from rfl,Ac4 a]
def RJ {W:Nat}{p:List Int}(b:p.length=W):En p (List.replicate W 0)=p:=by
 apply Acc;intro i;rw[En,Adb,Adi];rcases Abk i W with a|a
 ·rw[Aay a,Abf (by omega)];simp
 ·rw[Aaw (by omega),Abv (show p.length≤i by omega)]
def Sj:∀(p q r:List Int),En (En p q) r=En p (En q r)
 |[],_,_=>by simp [En]
 |_::_,[],_=>by simp [En]
 |_::_,_::_,[]=>by simp [En]
 |a::p,b::q,c::r=>by
  have:=Sj p q r;simp only[En,List.zipWith_cons_cons] at this ⊢;rw[this,Int.add_assoc]
def Un {W:Nat}{p:List Int}(g:p.length=W) (d:1≤W) (n x:Int) (c:ix p 0=some x):upd p 0 (x+n)=En p (v1 W n):=by
 have b:p[0]? =some x:=(EY c).2;apply Acc;intro i;unfold v1 upd;rw[En,Adb,show(0:Int).toNat=0 from rfl];by_cases a:0=i
 ·subst a;rw[Adc (by omega),Adc (by simp;omega),b]
 ·rw[Ac4 a,Ac4 a,Adi];rcases Abk i W with a|a
  ·rw[Aay a,Abf (show i<p.length by omega)];simp
  ·rw[Aaw (by omega),Abv (show p.length≤i by omega)]
def aI {W:Nat}(g:1≤W) (a b:Int):En (v1 W a) (v1 W b)=v1 W (a+b):=by
 apply Acc;intro i;rw[En,Adb];unfold v1 upd;rw[show (0:Int).toNat=0 from rfl];by_cases c:0=i
 ·subst c;rw[Adc (by simp;omega),Adc (by simp;omega),Adc (by simp;omega)]
 ·rw[Ac4 c,Ac4 c,Ac4 c,Adi];by_cases d:i<W<;>simp [d]
def Tp (H:Int) (W:Nat):Nat→List Int→List AJ
 |_,[]=>[]
 |i,n::l=>(if 0<n then [⟨H, -1,(i:Int), -4,v1 W n⟩] else [])++Tp H W (i+1) l
def S7 (H:Int) (W:Nat) (n:Int):∀(l:List Int) (i:Nat),Tp H W i (l++[n])=Tp H W i l++(if 0<n then [⟨H, -1,((i+l.length:Nat):Int), -4,v1 W n⟩] else [])
 |[],i=>by simp [Tp]
 |a::l,i=>by
  have e:i+(a::l).length=i+1+l.length:=by simp;omega
  rw[Abw,Tp,S7 H W n l (i+1),Tp,e,Adz]
def Ux (H:Int) (W:Nat):∀(l:List Int) (i:Nat),(Tp H W i l).length≤l.length
 |[],_=>by simp [Tp]
 |a::l,i=>by
  have:=Ux H W l (i+1);rw[Tp,Abi];split<;>simp<;>omega
structure zR (w:AN) (W k:Nat) (l:List Int) (s:Int×Int×List AJ×List (List Int)×List Int):Prop where
 ll:l.length=k
 l0:∀n∈l,0≤n
 ms:s.2.2.1=Tp w.s.B W 0 l
 own:In w.b.A.length W s.2.2.2.1
 lo:∀(i:Nat) x n,w.s.D[i]? =some x→l[i]? =some n→s.2.2.2.1[i]? =some (En x (v1 W n))
 hi:∀i,k≤i→s.2.2.2.1[i]? =w.s.D[i]?
 th:s.1=FE s.2.2.2.1+GI w.s.E∧s.1≤1125899906842624
 inn:s.2.2.2.2=En w.s.N (v1 W l.sum)
 en:s.2.1=w.s.N.sum+l.sum∧s.2.1≤1152921504606846976
 os:FE s.2.2.2.1=FE w.s.D+l.sum
structure Zq (P W:Nat) (o:List (List Int)):Prop where
 len:o.length=P
 all:∀x∈o,x.length=W
def Zq.ix {P W:Nat}{o:List (List Int)}(c:Zq P W o){k:Nat}(a:k<P):∃x,Go.Proofs.YtedgiljmffngoaaGreat.ix o (k:Int)=some x∧x.length=W:=by
 obtain⟨x,e,b⟩:=Aag (l:=o) (i:=k) (by rw[c.len];exact a);exact⟨x,e,c.all x b⟩
def Zq.upd {P W:Nat}{o:List (List Int)}(c:Zq P W o) (i:Int){x:List Int}(b:x.length=W):Zq P W (upd o i x):=
 ⟨by rw[MG];exact c.len,λy a=>by
  rcases Ad3 a with a|rfl
  ·exact c.all y a
  ·exact b⟩
def Uc {N:Nat}(q:1000000<N){s:AE}(t:s.D.length≤64) (g:∀x∈s.D,x.length≤1000) (u:s.M.length≤1000) (v:s.O.length≤1000) (w:s.N.length≤1000) (y:s.L.length≤1000):KF N s=some s:=by
 unfold KF;rw[KW (by omega) _ (by decide)];obtain⟨o,⟨z,j⟩,e⟩:=Da s.D.length (λn i l=>FI N s (FJ N s) n i l) (FJ N s) (λk (l:List (List Int))=>l.length=s.D.length∧∀i,i<k→l[i]? =s.D[i]?) (λn k l a=>by
  simp only[FI];rw[ES a];rfl) (λn k l d a=>by
  simp only[FI];have b:k<l.length:=by rw[d.1];exact a
  rw[ER a,Aax,BI a,Aav,MY N (by have:=g _ (Abc a);omega)];simp only[BI b,Aav];rw[BF (by omega)];refine⟨_,⟨by rw[MG];exact d.1,λi m=>?_⟩,rfl⟩;by_cases c:k=i
  ·subst c;rw[GL b];simp [a]
  ·rw[Ig c];exact d.2 i (by omega)) N 0 (List.replicate ((s.D.length:Int)).toNat ([]:List Int)) ⟨Qp _ _,λi d=>by omega⟩ (by omega) (Aa4 _)
 rw[show FI N s (FJ N s) N 0 _=FJ N s o from e];have p:o=s.D:=Acc λi=>by
  rcases Abk i s.D.length with A|A
  ·exact j i A
  ·rw[Abv A,Abv (by omega)]
 subst p;unfold FJ;rw[MY N (by omega),Aav,XT N (by omega),Aav,MY N (by omega),Aav,MY N (by omega),Aav]
def Aaf (a:List Int) (i:Int):Int:=a.getD i.toNat 0
def pP {a:List Int}{i:Int}(h0:0≤i) (c:i<a.length):ix a i=some (Aaf a i):=by
 obtain⟨n,rfl,b⟩:=mX h0 c;rw[BI b];simp [Aaf,Abg,b]
def Q5 (W:Nat) (t:Int) (q:List AM) (p:Nat):List Int:=(q.filter λl=>decide (l.Z≤t)&&decide (l.C=(p:Int))).foldl (λa l=>En a l.K) (List.replicate W 0)
def JK (t:Int) (q:List AM):List AM:=q.filter λl=>decide (t<l.Z)
def Rj {W:Nat}{t:Int}{q:List AM}{p k:Nat}(d:k<q.length):Q5 W t (q.take (k+1)) p=if (q[k]).Z≤t∧(q[k]).C=(p:Int) then En (Q5 W t (q.take k) p) (q[k]).K else Q5 W t (q.take k) p:=by
 unfold Q5;rw[Acv d,Adt,Ad2];by_cases a:(q[k]).Z≤t∧(q[k]).C=(p:Int)
 ·rw[Aay a];simp [a.1,a.2]
 ·rw[Aaw a];have:(decide ((q[k]).Z≤t)&&decide ((q[k]).C=(p:Int)))=false:=by
   rw[Bool.and_eq_false_iff];simp only[Abp];by_cases b:(q[k]).Z≤t
   ·exact .inr λc=>a ⟨b,c⟩
   ·exact .inl b
  simp [this]
def TA {t:Int}{q:List AM}{k:Nat}(b:k<q.length):JK t (q.take (k+1))=if (q[k]).Z≤t then JK t (q.take k) else JK t (q.take k)++[q[k]]:=by
 unfold JK;rw[Acv b,Adt];by_cases a:(q[k]).Z≤t
 ·rw[Aay a];simp;omega
 ·rw[Aaw a];have:t<(q[k]).Z:=by omega
  simp [this]
def WH (a b:List AM):GI (a++b)=GI a+GI b:=by unfold GI;rw[Ack,Acl]
structure Aau (P W:Nat) (t:Int) (q:List AM) (k:Nat) (s:List AM×List (List Int)):Prop where
 rest:s.1=JK t (q.take k)
 own:In P W s.2
 at_:∀p,p<P→s.2[p]? =some (Q5 W t (q.take k) p)
 tot:FE s.2+GI s.1=GI (q.take k)
def WM (W:Nat):∀P:Nat,FE (List.replicate P (List.replicate W 0))=0
 |0=>rfl
 |P+1=>by
  have:=WM W P;unfold FE at this ⊢;rw[List.replicate_succ,Abl,Ab2,this,X6];rfl
def qQ {N:Nat}(Y:1000000<N){P W:Nat}(hP:P≤64) (hW:W≤16){q:List AM}(hq:q.length≤100000) (c:QX P W q) (aa:GI q≤1125899906842624) (t:Int):
  ∃s,Ls N q t (P:Int) (W:Int)=some (s.2,s.1)∧Aau P W t q q.length s:=by
 unfold Ls;rw[PE,Aav,PE,Aav,Aaw (show ¬(P:Int)<0 by omega),Aaw (show ¬64<(P:Int) by omega),Aaw (show ¬(W:Int)<0 by omega),Aaw (show ¬16<(W:Int) by omega),KW (by omega) _ (by decide)];obtain⟨o,⟨i1,K⟩,e⟩:=Da P (λn i l=>Gm N (P:Int) (W:Int) (Gn N q t (P:Int)) n i l) (Gn N q t (P:Int)) (λk (l:List (List Int))=>l.length=P∧∀i,i<k→l[i]? =some (List.replicate W 0)) (λn k l a=>by
  simp only[Gm];rw[Qp,ES a];rfl) (λn k l m a=>by
  simp only[Gm];have w:k<l.length:=by rw[m.1];exact a
  rw[Qp,ER a,Aax,KW (by omega) _ (by decide),BI w,Aav,Aav,BF (by omega)];refine⟨_,⟨by rw[MG];exact m.1,λi ab=>?_⟩,rfl⟩;by_cases z:k=i
  ·subst z;rw[GL w];rfl
  ·rw[Ig z];exact m.2 i (by omega)) N 0 (List.replicate ((P:Int)).toNat ([]:List Int)) ⟨Qp _ _,λi m=>by omega⟩ (by omega) (Aa4 _)
 rw[show Gm N (P:Int) (W:Int) (Gn N q t (P:Int)) N 0 _=Gn N q t (P:Int) o from e];have M:o=List.replicate P (List.replicate W 0):=Acc λi=>by
  rcases Abk i P with h|h
  ·rw[K i h,Adi,Aay h]
  ·rw[Abv (by omega),Abv (by simp;omega)]
 have I:In P W o:=⟨i1,λx Q=>by rw[M] at Q;rw[(List.mem_replicate.1 Q).2];exact PX.zero W⟩
 unfold Gn;obtain⟨s,i3,e2⟩:=Da q.length (λn i (s:List AM×List (List Int))=>Fw N q t (P:Int) (IB N) n s.1 i s.2) (λs=>IB N s.1 s.2) (λk s=>Aau P W t q k s) (λn k s a=>by
  simp only[Fw];rw[ES a];rfl) (λn k s m a=>by
  obtain⟨F,o⟩:=s;obtain⟨A,d,G,U⟩:=m;simp only at A d G U;obtain⟨H,V,X⟩:=c _ (Abc a);have h2:=Ek c (k+1);rw[MW a] at h2;have ac:F.length≤k:=by rw[A];exact Acd (List.length_filter_le _ _) (by rw[Aca];omega)
  have ad:0≤GI F:=by
   rw[A];exact SV λl hl=>(c l (Adh ((Ach.1 hl).1))).1.sum0
  simp only[Fw,Jo];rw[ER a,Aax,BI a,Aav,BF (by omega),Abs V,Abs X,Bool.and_true,Bool.and_true];by_cases u:(q[k]).Z≤t
  ·obtain⟨j,J,B⟩:=mX (l:=o) V (by rw[d.len];exact X);obtain⟨y,hy,b,g⟩:=d.ix (k:=j) (by rw[←d.len];exact B);have ae:=d.le b;have C:=g.add H (by omega);rw[Abs u,Aax,J,hy,Aav,Aav,g.padd Y (by omega) H,Aav,Aav,Aav];refine⟨(_,_),⟨by rw[TA a,Aay u];exact A,d.upd _ C,λp v=>?_,?_⟩,rfl⟩
   ·show(upd o (j:Int) _)[p]? =_
    rw[Rj a];by_cases D:j=p
    ·subst D;rw[GL B,Aay ⟨u,J⟩];rw[G j v] at b;rw[Aa1 b]
    ·rw[Ig D,Aaw (by rw[J];omega)];exact G p v
   ·show FE (upd o (j:Int) _)+GI F=_
    rw[Qs b,IY (g.len.trans H.len.symm),MW a];omega
  ·rw[Abe u,Aa0,MY N (by rw[H.len];omega),Aav,IM (by simp;omega)];refine⟨(_,_),⟨by rw[TA a,Aaw u,←A],d,λp v=>?_,?_⟩,rfl⟩
   ·rw[Rj a,Aaw λh=>u h.1];exact G p v
   ·show FE o+GI (F++[_])=_
    rw[WH,MW a];simp only[GI,Abl,List.map_nil,Ab2,List.sum_nil] at U ⊢;omega) N 0 ([],o) ⟨rfl,I,λp v=>by
   show o[p]? =_
   rw[K p v];rfl,by
   show FE o+GI []=GI (q.take 0)
   rw[M,WM];rfl⟩ (by omega) (Aa4 _)
 exact⟨s,e2,i3⟩
structure ArX (w:AN) (W:Nat) (r:List (List Int)×List AM×List AT×List Int):Prop where
 own:In w.b.A.length W r.1
 at_:∀(p:Nat) x,w.s.D[p]? =some x→r.1[p]? =some (En x (Q5 W w.s.B w.s.E p))
 rest:r.2.1=JK w.s.B w.s.E
 pk:r.2.2.2=r.1.map List.sum
 tot:FE r.1+GI r.2.1=FE w.s.D+GI w.s.E
def tG {N:Nat}(hN:1000000<N){w:AN}{W:Nat}(hW:w.b.F.length=W) (aa:W≤16) (hP:w.b.A.length≤64) (hL:w.b.G.length≤96) (ab:∀l∈w.b.G,J8 w.b l) (ho:In w.b.A.length W w.s.D) (hq:w.s.E.length≤100000) (z:QX w.b.A.length W w.s.E) (ht:FE w.s.D+GI w.s.E≤1125899906842624) (g:w.peaks.length=w.b.A.length) (hg:w.s.O.length=w.b.G.length):
  ∃r,Eu N w=some r∧ArX w W r∧r.2.2.1.length=w.b.G.length:=by
 have ah:=ho.sum0;have ac:=(Ek z 0).2;rw[Acb,show GI ([]:List AM)=0 from rfl] at ac;unfold Eu;rw[hW];obtain⟨⟨t,q⟩,hy,⟨y1,K,y3,y4⟩⟩:=qQ hN hP aa hq z (by omega) w.s.B;simp only at y1 K y3 y4 hy;rw[Abo] at y1 y3 y4;rw[hy,Aav];have af:0≤GI t:=by
  rw[y1];exact SV λl hl=>(z l ((Ach.1 hl).1)).1.sum0
 have ag:=K.sum0;obtain⟨⟨o,y⟩,⟨m,M,Q,U,V,X⟩,e⟩:=Da w.b.A.length (λn i (s:List (List Int)×List Int)=>Cf N w (q,t) (Cv N w (q,t)) n i s.1 s.2) (λs=>Cv N w (q,t) s.1 s.2) (λk s=>In w.b.A.length W s.1∧s.2.length=w.b.A.length∧(∀(p:Nat) x,p<k→w.s.D[p]? =some x→s.1[p]? =some (En x (Q5 W w.s.B w.s.E p)))∧(∀p,k≤p→s.1[p]? =w.s.D[p]?)∧(∀(p:Nat) x,p<k→s.1[p]? =some x→s.2[p]? =some x.sum)∧FE s.1=FE w.s.D+FE (q.take k)) (λn k s d=>by
  simp only[Cf];rw[ES d];rfl) (λn k s hi d=>by
  obtain⟨o,y⟩:=s;obtain⟨m,M,Q,U,V,X⟩:=hi;simp only at m M Q U V X;obtain⟨a,ha,u,C⟩:=m.ix d;obtain⟨c,hc,v,I⟩:=K.ix d;have J:k<q.length:=by rw[K.len];exact d
  have Y:q[k]=c:=by rw[Abf J] at v;exact Aa1 v
  have t1:=N0 K (k+1);rw[Nd J,Y] at t1;have t2:=m.le u;have hd:=C.add I (by omega);have Z:k<(upd o (k:Int) (En a c)).length:=by rw[MG,m.len];exact d
  simp only[Cf];rw[ER d,Aax,BF (by omega),ha,Aav,Aav,hc,Aav,Aav,C.padd hN (by omega) I,Aav,Aav,Aav];have ad:ix (upd o (k:Int) (En a c)) (k:Int)=some (En a c):=by
   rw[BI Z];have:=GL (l:=o) (k:=k) (by rw[m.len];exact d) (En a c);rw[Abf Z] at this;exact this
  rw[ad,Aav,Aav,hd.total hN (by omega),Aav,BI (show k<y.length by omega),Aav,Aav];refine⟨(_,_),⟨m.upd _ hd,by show(upd y _ _).length=_;rw[MG];exact M,λp x hp j=>?_,λp hp=>?_,λp x hp j=>?_,?_⟩,rfl⟩
  ·show(upd o (k:Int) _)[p]? =_
   by_cases g:k=p
   ·subst g;rw[GL (by rw[m.len];exact d)];rw[U k (Abd _),j] at u;cases u;rw[y3 k d] at v;rw[Aa1 v]
   ·rw[Ig g];exact Q p x (by omega) j
  ·show(upd o (k:Int) _)[p]? =_
   rw[Ig (by omega)];exact U p (by omega)
  ·change (upd o (k:Int) (En a c))[p]? =some x at j;show(upd y (k:Int) _)[p]? =_
   by_cases g:k=p
   ·subst g;rw[GL (by rw[m.len];exact d)] at j;rw[GL (by omega),Aa1 j]
   ·rw[Ig g] at j ⊢;exact V p x (by omega) j
  ·show FE (upd o (k:Int) _)=_
   rw[Qs u,IY (C.len.trans I.len.symm),Nd J,Y,X];omega) N 0 (w.s.D,w.peaks) ⟨ho,g,λp x hp=>by omega,λp _=>rfl,λp x hp=>by omega,by simp [FE]⟩ (by omega) (Aa4 _)
 rw[show Cf N w (q,t) (Cv N w (q,t)) N 0 w.s.D w.peaks=Cv N w (q,t) o y from e];simp only at m M Q U V X;have ae:q.take w.b.A.length=q:=by rw[←K.len,Abo]
 rw[ae] at X;unfold Cv;obtain⟨gs,j1,e2⟩:=Da w.b.G.length (λn i s=>CD N w (q,t) o y n i s) (λs=>some (o,t,s,y)) (λi s=>s.length=w.b.G.length) (λn k s d=>by
  simp only[CD];rw[ES d];rfl) (λn i s hi d=>by
  simp only[CD,Eo];have ok:=ab _ (Abc d);rw[ER d,Aax,BI d,Aav,BF (by omega)];cases decide ((w.b.G[i]).H=3)
  ·exact⟨s,hi,rfl⟩
  ·rw[Aax,BI (show i<s.length by omega),Aav,Aav,pP ok.fr.1 (by rw[M];exact ok.fr.2),Aav,Aav,(wR N _ _ _).1,Aav,Aav,Aav];exact⟨_,by rw[MG];exact hi,rfl⟩) N 0 w.s.O hg (by omega) (Aa4 _)
 refine⟨_,e2,⟨m,λp x j=>Q p x ?_ j,y1,?_,?_⟩,j1⟩
 ·rw[←ho.len];exact(Aba.1 j).1
 ·show y=o.map List.sum
  apply Acc;intro p;rcases Abk p w.b.A.length with h|h
  ·obtain⟨x,_,j,_⟩:=m.ix h;rw[V p x h j,Acx,j];rfl
  ·rw[Abv (by omega),Abv (by rw[Ac1,m.len];omega)]
 ·show FE o+GI t=_
  omega
def Qr {N:Nat}(a:18446744073709551616<N) (v n d:Int):Df (Hx N v n d):=by
 unfold Hx;rw[Oz a,Aav];exact Df.cond (λ_=>Df.mk _) λ_=>Df.mk _
def V8 {N:Nat}(a:18446744073709551616<N) (v n d:Int):Df (Kj N v n d):=by
 unfold Kj;rw[Oz a,Aav];exact Df.cond (λ_=>Df.mk _) λ_=>Df.mk _
def xN {N:Nat}(a:18446744073709551616<N) (c:List BT) (x:Int):Df (Mn N c x):=by
 unfold Mn;obtain⟨v,b,k⟩:=Jr (N:=N) (by omega) c;rw[b,Aav];cases v
 ·exact Df.mk _
 ·have g:=k rfl;obtain⟨y,d⟩:=Si a g.1 g.2.1 x;exact⟨y.1,by rw[d];rfl⟩
def YS {N:Nat}(i:18446744073709551616<N) (l:BO) (g:AT) (fr to:Int):Df (Mm N l g fr to):=by
 have head:Df (Lw N l fr to):=by
  unfold Lw;refine Df.cond (λ_=>Df.mk _) λ_=>?_;refine(Qr i _ _ _).bind λv _=>(Sq N _ _).bind λu _=>Df.mk _
 have j:Df (Lx N l g.V g.Am l.Av fr to):=by
  unfold Lx Kx Ky Kz K0 Iy Iz;have n:Df ((GY N fr l.Bb).bind λm=>(Hx N (max 0 m) l.Y l.T).bind λk=>some k):=(Sq N _ _).bind λu _=>(Qr i _ _ _).bind λv _=>Df.mk _;refine Df.cond (λ_=>?_) λ_=>Df.cond (λ_=>(Qr i _ _ _).bind λv _=>Df.mk _) λ_=>Df.cond (λ_=>Df.cond (λ_=>(Qr i _ _ _).bind λv _=>Df.mk _) λ_=>Df.mk _) λ_=>Df.cond (λ_=>Df.cond (λ_=>Df.mk _) λ_=>n) λ_=>Df.cond (λ_=>n) λ_=>Df.mk _;exact head.bind λa _=>(xN i _ _).bind λb _=>(Qr i _ _ _).bind λc _=>(Xa N _ _).bind λd _=>Df.mk _
 unfold Mm;exact j.bind λv _=>Df.mk _
def X2 {N:Nat}(c:18446744073709551616<N) (l:BO) (fr to:Int):Df (LN N l fr to):=by
 unfold LN;exact Df.cond (λ_=>Df.mk _) λ_=>(V8 c _ _ _).bind λa _=>(V8 c _ _ _).bind λb _=>Df.mk _
def xP (W:Nat) (f:List Int→Option (List Int×List Int)):Prop:=∀x,x.length=W→∃r,f x=some r∧r.1.length=W∧r.2.length=W
def Aab (W:Nat) (l:List AD):Prop:=∀e∈l,xP W e.take
def Aab.snoc {W:Nat}{l:List AD}(c:Aab W l){e:AD}(b:xP W e.take):Aab W (l++[e]):=λx a=>by
 rcases Ab3.1 a with a|a
 ·exact c x a
 ·rw[Ace.1 a];exact b
def Zm {N:Nat}(i:1000000<N) (a b:List AD) (j:a.length≤100000) (k:b.length≤100000):B8 N [a,b]=some (a++b):=by
 obtain⟨n,rfl⟩:∃n,N=n+3:=⟨N-3,by omega⟩
 have d:BC ((a.length:Int)+(b.length:Int))=((a.length+b.length:Nat):Int):=by rw[DJ (by omega) (by omega)];rfl
 have g:BC (0+(a.length:Int))=((a.length:Nat):Int):=by rw[DJ (by omega) (by omega)];omega
 have c:CJ (n+3) ((a.length+b.length:Nat):Int)=some []:=by
  unfold CJ B6;rw[Abe (show ¬((a.length+b.length:Nat):Int)<0 by omega),Aa0,DJ (n:=(0:Int)-0) (by decide) (by decide),DJ (n:=((a.length+b.length:Nat):Int)-(0-0)) (by omega) (by omega)];cases l:decide (0<((a.length+b.length:Nat):Int)-(0-0))
  ·rfl
  ·rw[Aax,IM (by omega)];rfl
 unfold B8;simp only[BX];rw[show decide ((0:Int)<(([a,b]:List (List AD)).length:Int))=true by simp,Aax,show Go.Proofs.YtedgiljmffngoaaGreat.ix [a,b] 0=some a from rfl,Aav,g,Abe (show ¬((a.length:Nat):Int)<0 by omega),Aa0,show BC (0+1)=1 from rfl,show decide ((1:Int)<(([a,b]:List (List AD)).length:Int))=true by simp,Aax,show Go.Proofs.YtedgiljmffngoaaGreat.ix [a,b] 1=some b from rfl,Aav,d,Abe (show ¬((a.length+b.length:Nat):Int)<0 by omega),Aa0,show BC (1+1)=2 from rfl,show decide ((2:Int)<(([a,b]:List (List AD)).length:Int))=false by simp,Aa0];unfold B1;rw[c,Aav];simp only[BW];rw[show decide ((0:Int)<(([a,b]:List (List AD)).length:Int))=true by simp,Aax,show Go.Proofs.YtedgiljmffngoaaGreat.ix [a,b] 0=some a from rfl,Aav,IM (by simp;omega),show BC (0+1)=1 from rfl,show decide ((1:Int)<(([a,b]:List (List AD)).length:Int))=true by simp,Aax,show Go.Proofs.YtedgiljmffngoaaGreat.ix [a,b] 1=some b from rfl,Aav,IM (by simp;omega),show BC (1+1)=2 from rfl,show decide ((2:Int)<(([a,b]:List (List AD)).length:Int))=false by simp,Aa0];rfl
def cE {N:Nat}(a:18446744073709551616<N) (b:EW) (v m:Int):Df (Ik N b v m):=by
 unfold Ik HC;rw[Oz a,Aav];exact Df.cond (λ_=>Df.mk _) λ_=>Df.cond (λ_=>Df.cond (λ_=>Df.mk _) λ_=>Df.mk _) λ_=>Df.cond (λ_=>Df.mk _) λ_=>Df.mk _
structure Aaa (P W:Nat) (o:List (List Int)) (out:List Int) (ms:List AJ) (sn:List AM) (M:Nat):Prop where
 own:Zq P W o
 out:out.length=W
 mv:ms.length≤M
 sn:sn.length≤M
def Aaa.le {P W:Nat}{o:List (List Int)}{out:List Int}{ms:List AJ}{a:List AM}{M b:Nat}(d:Aaa P W o out ms a M) (c:M≤b):Aaa P W o out ms a b:=⟨d.own,d.out,Acd d.mv c,Acd d.sn c⟩
def Pu (b:AF) (p:Nat) (a:Int):Int:=if 0≤a∧a<b.G.length then (YK b a.toNat).S else if a= -3 then 0 else (b.A.getD p default).S
structure uF (b:AF) (W p:Nat) (e:AD):Prop where
 tk:∀x,PX W x→∃t,e.take x=some (t,IK x t)∧Wr t x
 way:e.way≠ -4
 to:e.to_= -1∨(0≤e.to_∧e.to_<b.A.length)
 dl:e.delay=Pu b p e.way
structure xT (b:AF) (H:Int) (W p:Nat) (m:AJ):Prop where
 hour:m.B=H
 fr:m.I=(p:Int)
 way:m.Bd≠ -4
 to:m.C= -1∨(0≤m.C∧m.C<b.A.length)
 px:PX W m.K
 pos:0<m.K.sum
def Ko (b:AF) (H:Int) (m:AJ):Option AM:=if m.C<0 then none else some ⟨BC (BC (H+1)+Pu b m.I.toNat m.Bd),m.C,m.K⟩
def RX (N:Nat) (out:List Int) (ms:List AJ):List Int:=ms.foldl (λo m=>if m.C<0 then (Ey N o m.K).getD [] else o) out
def QE (o:List (List Int)) (ms:List AJ):List (List Int):=ms.foldl (λo m=>upd o m.I (IK (o.getD m.I.toNat []) m.K)) o
def Q6:List AJ→List (List Int)→Prop
 |[],_=>True
 |m::ms,o=>(∃x,o[m.I.toNat]? =some x∧Wr m.K x)∧Q6 ms (upd o m.I (IK (o.getD m.I.toNat []) m.K))
def KY (ms:List AJ):Int:=(ms.map λm=>m.K.sum).sum
def Q6.app:∀{l1 a:List AJ}{o:List (List Int)},Q6 l1 o→Q6 a (QE o l1)→Q6 (l1++a) o
 |[],_,_,_,d=>d
 |m::l1,a,o,b,c=>⟨b.1,Q6.app (l1:=l1) b.2 c⟩
structure Va (b:AF) (H:Int) (N W p:Nat) (o:List (List Int)) (out:List Int) (ms:List AJ) (sn:List AM) (o':List (List Int)) (out':List Int) (ms':List AJ) (sn':List AM) (l:List AJ):Prop where
 mv:∀m∈l,xT b H W p m
 ms_:ms'=ms++l
 own:o'=QE o l
 out_:out'=RX N out l
 sn_:sn'=sn++l.filterMap (Ko b H)
 val:Q6 l o
 ox:In b.A.length W o'
 ol:out'.length=W
 tot:FE o'+KY l=FE o
def Va.nil {b:AF}{H:Int}{N W p:Nat}{o:List (List Int)}{out:List Int}{ms:List AJ}{a:List AM}(c:In b.A.length W o) (d:out.length=W):Va b H N W p o out ms a o out ms a []:=
 ⟨λm g=>(by cases g),by simp,rfl,rfl,by simp,trivial,c,d,by simp [KY]⟩
def WP (a b:List AJ):KY (a++b)=KY a+KY b:=by unfold KY;rw[Ack,Acl]
def Va.trans {b:AF}{H:Int}{N W p:Nat}{o q i:List (List Int)}{out c a:List Int}{ms j d:List AJ}{s n g:List AM}{l t:List AJ}(v:Va b H N W p o out ms s q c j n l) (k:Va b H N W p q c j n i a d g t):Va b H N W p o out ms s i a d g (l++t):=
 ⟨λm u=>(Ab3.1 u).elim (v.mv m) (k.mv m),by rw[k.ms_,v.ms_,Adz],by rw[k.own,v.own];unfold QE;rw[Ad2],by rw[k.out_,v.out_];unfold RX;rw[Ad2],by rw[k.sn_,v.sn_,List.filterMap_append,Adz],v.val.app (by rw[←v.own];exact k.val),k.ox,k.ol,by rw[WP];have:=v.tot;have:=k.tot;omega⟩
def jD {N:Nat}(w:1000000<N) (t:Int){to:Int}(h0:0≤to){p:List Int}(y:p.length≤1000) (l:∀x∈p,0≤x) (z:0<p.sum):Kv N t to p=some [⟨t,to,p⟩]:=by
 obtain⟨i,c,a⟩:∃(i:Nat) (A:i<p.length),0<p[i]:=by
  apply Ade;intro d;have:p.sum≤p.length*0:=LK λx m=>by
   obtain⟨i,c,rfl⟩:=Aeo.1 m;have:=d;apply Ade;intro A;exact d ⟨i,c,by omega⟩
  omega
 have o:∃j:Int,0≤j∧Ev N p (λx=>IA N x)=some j:=by
  unfold Ev;have:∀(n k:Nat),p.length<n+k→k≤i→∃j:Int,0≤j∧C1 N p (λx=>IA N x) (EE N) n (k:Int)=some j:=by
   intro n
   induction n with
   |zero=>intro k q s;omega
   |succ n u=>
    intro k q s;have g:k<p.length:=by omega
    simp only[C1,IA];rw[ER g,Aax,BI g,BF (by omega),Aav,Aav];by_cases A:0<p[k]
    ·rw[Abs A];exact⟨(k:Int),by omega,rfl⟩
    ·rw[Abe A,Aa0];have:k≠i:=λe=>by subst e;exact A a
     exact u (k+1) (by omega) (by omega)
  exact this N 0 (by omega) (Aa4 _)
 obtain⟨j,b,v⟩:=o;unfold Kv Fj;rw[v,Abe (show ¬to<0 by omega),Aa0,Aav,Aav,Abs b,Ab4,Aav,Aa0,MY N (by omega),Aav,IM (by simp)];rfl
def V7 {α}{l:List α}{k:Nat}{x:α}(a:l[k]? =some x):upd l (k:Int) x=l:=by
 apply Acc;intro i;by_cases e:k=i
 ·subst e;rw[GL (Aba.1 a).1,a]
 ·rw[Ig e]
def U7 {N:Nat}(I:1000000<N){w:AN}{b:AF}{H:Int}{W:Nat}(V:w.s.B=H) (X:W≤1000) (C:In b.A.length W w.s.D){p:Nat}(Y:p<b.A.length){e:AD}(o:uF b W p e) (d:w.s.L.length=W) (F:w.moves.length≤1000000) (hs:w.sent.length≤1000000):
  ∃r l x t,HB N w (p:Int) e=some r∧w.s.D[p]? =some x∧e.take x=some (t,IK x t)∧Wr t x∧r.1=upd w.s.D (p:Int) (IK x t)∧Va b H N W p w.s.D w.s.L w.moves w.sent r.1 r.2.1 r.2.2.1 r.2.2.2 l∧l=if t.sum≤0 then [] else [⟨H,(p:Int),e.to_,e.way,t⟩]:=by
 obtain⟨x,Z,c,n⟩:=C.ix Y;obtain⟨t,G,u⟩:=o.tk x n;obtain⟨Q,s2,i⟩:=u.sub n;have J:w.s.D.getD p []=x:=by simp [Abg,c]
 have v:FE (upd w.s.D (p:Int) (IK x t))=FE w.s.D-t.sum:=by rw[Qs c,s2];omega
 unfold HB;rw[Z,Aav,Aav,G,Aav,Aav,Aav,i.total I X,Aav];by_cases h0:t.sum≤0
 ·rw[Abs h0,Aax];have hz:IK x t=x:=ZI n.len i.len (Vo i.nn h0);refine⟨_,[],x,t,rfl,c,G,u,rfl,?_,by rw[Aay h0]⟩;show Va b H N W p w.s.D w.s.L w.moves w.sent (upd w.s.D (p:Int) (IK x t)) w.s.L w.moves w.sent []
  rw[hz,V7 c];exact Va.nil C d
 ·have y:xT b H W p ⟨H,(p:Int),e.to_,e.way,t⟩:=⟨rfl,rfl,o.way,o.to,i,by show 0<t.sum;omega⟩
  have j:Q6 [(⟨H,(p:Int),e.to_,e.way,t⟩:AJ)] w.s.D:=⟨⟨x,by show w.s.D[((p:Int)).toNat]? =_;rw[Ab0];exact c,u⟩,trivial⟩
  have k:upd w.s.D (p:Int) (IK x t)=QE w.s.D [(⟨H,(p:Int),e.to_,e.way,t⟩:AJ)]:=by
   show _=upd w.s.D (p:Int) (IK (w.s.D.getD ((p:Int)).toNat []) t)
   rw[Ab0,J]
  rw[Abe h0,Aa0,IM (by simp;omega),V];by_cases g:e.to_= -1
  ·obtain⟨a,U,K⟩:=cQ I (p:=w.s.L) (q:=t) (by omega) (by rw[i.len];omega);rw[Abs g,Aax,U,Aav];refine⟨_,[⟨H,(p:Int),e.to_,e.way,t⟩],x,t,rfl,c,G,u,rfl,⟨λm F=>by rw[Ace.1 F];exact y,rfl,k,?_,?_,j,C.upd _ Q,?_,?_⟩,by rw[Aaw h0]⟩
   ·show a=if e.to_<0 then (Ey N w.s.L t).getD [] else _
    rw[Aay (by omega),U];rfl
   ·show w.sent=w.sent++_
    rw[show ([(⟨H,(p:Int),e.to_,e.way,t⟩:AJ)].filterMap (Ko b H))=[] by simp [Ko,g],Abx]
   ·show a.length=W
    rw[K,d,i.len,Nat.max_self]
   ·show FE (upd _ _ _)+KY _=_
    rw[v];simp [KY]
  ·have z:=o.to.resolve_left g;rw[Abe g,Aa0,jD I _ z.1 (by rw[i.len];omega) i.nn (by omega),Aav,IM (by simp;omega)];refine⟨_,[⟨H,(p:Int),e.to_,e.way,t⟩],x,t,rfl,c,G,u,rfl,⟨λm F=>by rw[Ace.1 F];exact y,rfl,k,?_,?_,j,C.upd _ Q,d,?_⟩,by rw[Aaw h0]⟩
   ·show w.s.L=if e.to_<0 then _ else w.s.L
    rw[Aaw (by omega)]
   ·show w.sent++_=w.sent++_
    congr 1;have M:¬e.to_<0:=by omega
    simp only[Aef,List.filterMap_nil,Ko,Aaw M,Ab0];rw[o.dl]
   ·show FE (upd _ _ _)+KY _=_
    rw[v];simp [KY]
def Qi {N W:Nat}(a:18446744073709551616<N) (b:W≤64) (n:Int):∀x,PX W x→∃t,AL N n x=some (t,IK x t)∧Wr t x∧t.sum=max 0 (min n x.sum):=λx c=>by
 obtain⟨t,e,d,g⟩:=iP a b c n;unfold AL;rw[e,Aav];exact⟨t,rfl,d,g⟩
def jU {N W:Nat}(a:1000000<N) (d:W≤64) (t:Hi):∀x,PX W x→∃y,DY N t x=some (y,IK x y)∧Wr y x:=λx b=>by
 obtain⟨y,e,c,_⟩:=jV a (by omega) b t.Bg t.Bc;unfold DY;rw[e,Aav];exact⟨y,rfl,c⟩
def XL (b:AF) (W p:Nat) (l:List AD):Prop:=∀e∈l,uF b W p e
def XL.snoc {b:AF}{W p:Nat}{l:List AD}(d:XL b W p l){e:AD}(c:uF b W p e):XL b W p (l++[e]):=λx a=>by
 rcases Ab3.1 a with a|a
 ·exact d x a
 ·rw[Ace.1 a];exact c
def sl (N:Nat) (a b:Int):Int:=(Fy N a b).getD 0
def slN {b a q r:Nat}(hd:0<a) (g:b≤a) (c:q=b*1099511627776/a) (d:r=b*1099511627776%a):q≤1099511627776∧b*1099511627776=q*a+r∧r<a:=by
 refine⟨?_,by rw[c,d];exact YZ _ _,by rw[d];exact Ac2 _ hd⟩;rw[c];exact Nat.div_le_of_le_mul (by rw[Ado a];rw[Ado b];exact Nat.mul_le_mul_left _ g)
structure uM (N:Nat) (b:AF) (l:BO):Prop where
 base:J8 b l
 gate:l.H=0→H0 N l.Ah.Ay l.Av=some true∧H0 N l.Av l.Ah.Az=some true∧(0≤l.U∧l.U≤64)∧(0≤l.Ad∧l.Ad≤l.U)∧(0≤l.Ba∧l.Ba≤1125899906842624)∧(l.An=0→l.Ar=0)∧(l.C≠ -1∨l.An=0)
 weir:l.H=1∨l.H=5→0≤l.Bb∧l.Bb≤1125899906842624
 pump:l.H=2→(0≤l.Y∧l.Y≤1125899906842624)∧(1≤l.U∧l.U≤64)∧(0≤l.Ad∧l.Ad≤l.U)
 siph:l.H=3→(0≤l.Aw∧l.Aw≤1125899906842624)∧(0≤l.Ax∧l.Ax≤1125899906842624)∧l.Ax<l.Aw
 seep:l.H=4→(l.An=0→l.Ar=0)
 none_:l.H≠0→l.H≠2→l.U=0∧l.Ad=0
def YT {a b:Int}(d:UV a b=true):b=0→a=0:=by
 intro c;simp only[UV,Aa3,Abq,Abh] at d;exact d.2.resolve_left λd=>d c
def XQ {N:Nat}(t:18446744073709551616<N){b:AF}{l:BO}(d:J8 b l) (W:Fh N l=some true) (a:Fg N l=some true):uM N b l:=by
 have G:=d.kind;have k:l.H≠0→l.H≠2→l.U=0∧l.Ad=0:=by
  intro h0 g;unfold Fg at a;rw[Abe h0,Abs g] at a;simp only[Bool.not_false,Bool.true_and] at a;cases n:(decide (0<(l.Av.length:Int))||decide (0<(l.Ah.Ay.length:Int))||decide (0<(l.Ah.Az.length:Int))||decide (l.Ba≠0)) with
  |true=>rw[n] at a;cases a
  |false=>
   rw[n,Aa0] at a;cases i:(decide (l.U≠0)||decide (l.Ad≠0)) with
   |true=>rw[i] at a;cases a
   |false=>
    simp only[Abu,Abp] at i;exact⟨Decidable.not_not.1 i.1,Decidable.not_not.1 i.2⟩
 unfold Fh at W;by_cases k0:l.H=0
 ·obtain⟨n,i,A,I,J⟩:=d.gate k0;obtain⟨K,u⟩:=Qe t l.Ah.Ay l.Av;obtain⟨M,v⟩:=Qe t l.Av l.Ah.Az;rw[Abs k0,Aax,QL (by omega) n,QL (by omega) i,QL (by omega) A] at W;simp only[u,v,ND,Ma,Q0,Aav,F6,QM] at W;have W:=Aa1 W;simp only[Aa3,Abq,Abh] at W;obtain⟨⟨⟨⟨⟨⟨⟨⟨⟨_,_⟩,_⟩,o⟩,q⟩,B⟩,C⟩,D⟩,F⟩,s⟩:=W;subst o;subst q;exact⟨d,λ_=>⟨u,v,KC B,KC C,LI D,YT F,s⟩,λW=>by omega,λW=>by omega,λW=>by omega,λW=>by omega,k⟩
 ·rw[Abe k0,Aa0] at W;have w:∀c:Bool,(c=true↔l.H=1∨l.H=5)→Dm N l c=some true→uM N b l:=by
   intro c x W;unfold Dm at W;simp only[ND,Ma,Q0,Aav,F6,QM] at W;cases c
   ·have Q:¬(l.H=1∨l.H=5):=λW=>by have:=x.2 W;cases this
    rw[Aa0] at W;by_cases y:l.H=2
    ·rw[Abs y,Aax] at W;have W:=Aa1 W;simp only[Aa3] at W;obtain⟨⟨m,g⟩,j⟩:=W;exact⟨d,λW=>by omega,λW=>by omega,λ_=>⟨LI m,KC g,KC j⟩,λW=>by omega,λW=>by omega,k⟩
    ·rw[Abe y,Aa0] at W;by_cases z:l.H=3
     ·rw[Abs z,Aax] at W;have W:=Aa1 W;simp only[Aa3,Abh] at W;obtain⟨⟨⟨⟨m,g⟩,j⟩,o⟩,q⟩:=W;exact⟨d,λW=>by omega,λW=>by omega,λW=>by omega,λ_=>⟨LI j,LI o,q⟩,λW=>by omega,k⟩
     ·rw[Abe z,Aa0] at W;have W:=Aa1 W;simp only[Aa3,Abh] at W;obtain⟨⟨⟨m,g⟩,j⟩,o⟩:=W;exact⟨d,λW=>by omega,λW=>by omega,λW=>by omega,λW=>by omega,λ_=>YT j,k⟩
   ·have V:=x.1 rfl;rw[Aax] at W;have W:=Aa1 W;simp only[Aa3] at W;obtain⟨⟨m,g⟩,j⟩:=W;exact⟨d,λW=>by omega,λ_=>LI m,λW=>by omega,λW=>by omega,λW=>by omega,k⟩
  by_cases p:l.H=1
  ·rw[Abs p,Aax] at W;exact w true (by simp [p]) W
  ·rw[Abe p,Aa0] at W;exact w _ (by simp [p]) W
def Zd {N:Nat}(c:18446744073709551616<N){b:AF}(d:IP b) (p:∀l∈b.G,J8 b l) (z:E6 N b=some true):∀l∈b.G,uM N b l:=by
 have v:=d.pl;have w:=d.li;unfold E6 at z;rcases JB b.G.length (Cm N b (DT N)) (DT N) (λi=>∀l,b.G[i]? =some l→uM N b l) (λn k z=>by
  simp only[Cm];rw[ES z];rfl) (λn k z=>by
  simp only[Cm];obtain⟨x,g,y⟩:=UZ c b.G[k];obtain⟨q,j⟩:=T7 N b.G[k];rw[ER z,Aax,BI z];simp only[Aav,ND,Qy N _ (show b.A.length<4611686018427387904 by omega),RK N b _ _ (show b.A.length<4611686018427387904 by omega),g,j,F6,LP,BF (show k<4611686018427387904 by omega)];generalize m:(_|| !q)=B
  cases B
  ·simp only[Abu,Ac8] at m;obtain⟨⟨_,s⟩,t⟩:=m;subst s;subst t;refine .inr ⟨λl a=>?_,rfl⟩;have:l=b.G[k]:=by simpa [z] using a.symm
   rw[this];exact XQ c (p _ (Abc z)) g j
  ·exact .inl rfl) N 0 (by omega) (Aa4 _) with u|⟨hp,_⟩
 ·rw[show Cm N b (DT N) N 0=some false from u] at z;cases z
 ·intro l a;obtain⟨i,o,rfl⟩:=Aeo.1 a;exact hp i (Aa4 _) o _ (by simp [o])
def Holds (n:Nat) (s:List Int) (g:Nat→Int):Prop:=s.length=n∧∀i,i<n→s[i]? =some (g i)
def Holds.ix {n:Nat}{s:List Int}{g:Nat→Int}(c:Holds n s g){a:Int}(h0:0≤a) (b:a<n):ix s a=some (g a.toNat):=by
 unfold Go.Proofs.YtedgiljmffngoaaGreat.ix;rw[Aaw (by omega)];exact c.2 _ (by omega)
def Holds.upd {n:Nat}{s:List Int}{g:Nat→Int}(j:Holds n s g){a:Int}(h0:0≤a) (c:a<n) (v:Int):Holds n (upd s a v) (λi=>if (i:Int)=a then v else g i):=by
 refine⟨by rw[LY,j.1],λi b=>?_⟩;unfold Go.Proofs.YtedgiljmffngoaaGreat.upd;rw[List.getElem?_set];have d:=j.1;show _=some (if (i:Int)=a then v else g i)
 by_cases e:(i:Int)=a
 ·rw[Aay (by omega),Aay (by omega),Aay e]
 ·rw[Aaw (by omega),Aaw e];exact j.2 i b
def Holds.congr {n:Nat}{s:List Int}{g a:Nat→Int}(c:Holds n s g) (e:∀i,i<n→g i=a i):Holds n s a:=⟨c.1,λi b=>(c.2 i b).trans (Aaz some (e i b))⟩
def Aah (s:AE) (k:Nat):AT:=s.O.getD k default
structure fZ (W:Nat) (out:List Int) (ms:List AJ) (sn:List AM) (M:Nat):Prop where
 out:out.length=W
 mv:ms.length≤M
 sn:sn.length≤M
def fZ.next {b:AF}{H:Int}{N W p M:Nat}{o j:List (List Int)}{out a:List Int}{ms d:List AJ}{i g:List AM}{l:List AJ}(n:fZ W out ms i M) (k:Va b H N W p o out ms i j a d g l){c:Nat}(m:l.length≤c):fZ W a d g (M+c):=
 ⟨k.ol,by rw[k.ms_,Abi];have:=n.mv;omega,by
  rw[k.sn_,Abi];have:=List.length_filterMap_le (Ko b H) l;have:=n.sn;omega⟩
def fZ.le {W M a:Nat}{out:List Int}{ms:List AJ}{b:List AM}(d:fZ W out ms b M) (c:M≤a):fZ W out ms b a:=⟨d.out,Acd d.mv c,Acd d.sn c⟩
def VA {α}{c:Prop}[Decidable c]{x:α}:(if c then [] else [x]).length≤1:=by split<;>simp
structure zP (b:AF) (s:AE):Prop where
 own:In b.A.length b.F.length s.D
 que:QX b.A.length b.F.length s.E
 tot:FE s.D+GI s.E≤1125899906842624
 rem:s.M.length=b.A.length
 gates:s.O.length=b.G.length
 inn:s.N.length=b.F.length
 inn0:∀x∈s.N,0≤x
 inns:s.N.sum≤1152921504606846976
 out:s.L.length=b.F.length
structure xU (b:AF) (H:Int) (N W k:Nat) (o:List (List Int)) (out:List Int) (ms:List AJ) (o':List (List Int)) (out':List Int) (ms':List AJ) (sn':List AM) (l:List AJ):Prop where
 mv:∀m∈l,∃p,p<k∧xT b H W p m
 ord:l.Pairwise λa c=>a.I≤c.I
 ms_:ms'=ms++l
 own:o'=QE o l
 out_:out'=RX N out l
 sn_:sn'=l.filterMap (Ko b H)
 val:Q6 l o
 ox:In b.A.length W o'
 ol:out'.length=W
 tot:FE o'+KY l=FE o
def xU.next {b:AF}{H:Int}{N W k:Nat}{o y t:List (List Int)}{out g d:List Int}{ms u n:List AJ}{v s:List AM}{l z:List AJ}(G:xU b H N W k o out ms y g u v l) (q:Va b H N W k y g u v t d n s z):xU b H N W (k+1) o out ms t d n s (l++z):=
 ⟨λm w=>(Ab3.1 w).elim (λw=>by obtain⟨p,A,x⟩:=G.mv m w;exact⟨p,by omega,x⟩) (λw=>⟨k,by omega,q.mv m w⟩),
  List.pairwise_append.2 ⟨G.ord,Ael.2 λi j B C _=>by
  rw[(q.mv _ (Abc B)).fr,(q.mv _ (Abc C)).fr];exact Aby _,λa D c F=>by
  obtain⟨p,A,x⟩:=G.mv a D;rw[x.fr,(q.mv c F).fr];omega⟩,
  by rw[q.ms_,G.ms_,Adz],by rw[q.own,G.own];unfold QE;rw[Ad2],by rw[q.out_,G.out_];unfold RX;rw[Ad2],by rw[q.sn_,G.sn_,List.filterMap_append],G.val.app (by rw[←G.own];exact q.val),q.ox,q.ol,by rw[WP];have:=G.tot;have:=q.tot;omega⟩
def UI {N:Nat}(a:1000000<N) (p:List Int) (W:Nat):∃v,J1 N p (W:Int)=some v∧(v=true→PX W p∧W≤16):=by
 unfold J1;cases b:((decide (0≤(W:Int))&&decide ((W:Int)≤16))&&decide ((p.length:Int)=(W:Int)))
 ·exact⟨_,rfl,λd=>by cases d⟩
 ·simp only[Aa3,Abh] at b;obtain⟨v,c,k⟩:=ZV a (p:=p) (by omega);rw[Aax,c];exact⟨_,rfl,λd=>⟨⟨by omega,(k d).1,(k d).2⟩,by omega⟩⟩
def V0 {N:Nat}(q:1000000<N){l:List Int}(t:l.length≤1000){m:Int}(d:0≤m∧m≤2305843009213693952):∃r,Is N l m=some r∧(r.2=true→(∀x∈l,0≤x)∧l.sum≤m∧r.1=l.sum):=by
 unfold Is;rcases NC l.length (λn i s=>Fi N l m (Hc N) n s i) (Hc N) (some (0,false)) (λk s=>(∀x∈l.take k,0≤x)∧s=(l.take k).sum∧s≤m∧0≤s) (λn k s a=>by
  simp only[Fi];rw[ES a];rfl) (λn k s g a=>by
  obtain⟨b,c,j,o⟩:=g;simp only[Fi];rw[ER a,Aax,BI a,Aav,BF (by omega),DJ (n:=m-s) (by omega) (by omega)];cases p:(decide (l[k]<0)||decide (m-s<l[k]))
  ·simp only[Abu,Abp] at p;rw[Aa0,DJ (n:=s+l[k]) (by omega) (by omega)];exact .inr ⟨_,⟨LZ a b (by omega),by rw[KB a,c],by omega,by omega⟩,rfl⟩
  ·exact .inl rfl) N 0 0 ⟨by simp,rfl,d.1,Aby _⟩ (by omega) (Aa4 _) with e|⟨s,⟨b,c,j,o⟩,e⟩
 ·exact⟨_,e,λu=>by cases u⟩
 ·rw[Abo] at b c;exact⟨_,e,λ_=>⟨b,by omega,c⟩⟩
def Zc {N:Nat}(j:1000000<N) (b:AF) (s:AE) (W:s.D.length≤1000) (X:s.E.length≤100000):∃r,KE N b s=some r∧(r.2=true→(∀x∈s.D,PX b.F.length x)∧(∀l∈s.E,(PX b.F.length l.K∧0≤l.C∧l.C<b.A.length)∧s.B≤l.Z∧0<l.K.sum)∧r.1=FE s.D+GI s.E∧r.1≤1125899906842624):=by
 unfold KE;rcases NC s.D.length (λn i t=>FG N b s (FH N b s) n t i) (FH N b s) (some (0,false)) (λk t=>(∀x∈s.D.take k,PX b.F.length x)∧t=FE (s.D.take k)∧0≤t∧t≤1125899906842624) (λn k t a=>by
  simp only[FG];rw[ES a];rfl) (λn k t q a=>by
  obtain⟨m,w,H,I⟩:=q;simp only[FG];obtain⟨v,y,z⟩:=UI j s.D[k] b.F.length;rw[ER a,Aax,BI a,Aav,y,Aav,BF (by omega)];cases v
  ·exact .inl rfl
  ·obtain⟨c,d⟩:=z rfl;have Q:=c.mv;have U:=c.sum0;rw[Ab4,Aa0,c.total j (by omega),Aav,DJ (n:=t+(s.D[k]).sum) (by omega) (by omega)];by_cases g:1125899906842624<t+(s.D[k]).sum
   ·rw[Abs g];exact .inl rfl
   ·rw[Abe g];exact .inr ⟨_,⟨LZ a m c,by rw[Nd a,w],by omega,by omega⟩,rfl⟩) N 0 0 ⟨by simp,rfl,Aby _,by decide⟩ (by omega) (Aa4 _) with e|⟨t,⟨m,w,H,I⟩,e⟩
 ·exact⟨_,e,λh=>by cases h⟩
 ·rw[show FG N b s (FH N b s) N 0 0=FH N b s t from e];rw[Abo] at m w;unfold FH;rcases NC s.E.length (λn i t=>GM N b s (H3 N) n t i) (H3 N) (some (0,false)) (λk u=>(∀l∈s.E.take k,(PX b.F.length l.K∧0≤l.C∧l.C<b.A.length)∧s.B≤l.Z∧0<l.K.sum)∧u=t+GI (s.E.take k)∧0≤u∧u≤1125899906842624) (λn k t a=>by
   simp only[GM];rw[ES a];rfl) (λn k u q a=>by
   obtain⟨o,G,V,J⟩:=q;simp only[GM];obtain⟨v,y,z⟩:=UI j (s.E[k]).K b.F.length;rw[ER a,Aax,BI a,BF (by omega)];simp only[Aav,Nb,y,F6];cases g:cond (decide ((s.E[k]).Z<s.B)) true (!(decide (0≤(s.E[k]).C)&&decide ((s.E[k]).C<(b.A.length:Int))))
   ·rw[LP,Abu] at g;obtain⟨M,p⟩:=g;have M:=of_decide_eq_false M;rw[Ac8] at p;obtain⟨p,Y⟩:=Nh.1 p;cases v
    ·exact .inl rfl
    ·obtain⟨c,d⟩:=z rfl;have Q:=c.mv;have U:=c.sum0;simp only[Ab4,Aa0];rw[c.total j (by omega),Aav,DJ (n:=u+(s.E[k]).K.sum) (by omega) (by omega)];cases hd:(decide ((s.E[k]).K.sum≤0)||decide (1125899906842624<u+(s.E[k]).K.sum))
     ·simp only[Abu,Abp] at hd;exact .inr ⟨_,⟨LZ a o ⟨⟨c,p,by omega⟩,by omega,by omega⟩,by rw[MW a,G];omega,by omega,by omega⟩,rfl⟩
     ·exact .inl rfl
   ·exact .inl rfl) N 0 t ⟨by simp,by simp [GI],H,I⟩ (by omega) (Aa4 _) with d|⟨u,⟨o,G,V,J⟩,d⟩
  ·exact⟨_,d,λh=>by cases h⟩
  ·rw[Abo] at o G;exact⟨_,d,λ_=>⟨m,o,by show u=_;omega,J⟩⟩
structure Aal (b:AF) (s:AE):Prop where
 x:zP b s
 hour:0≤s.B∧s.B≤16777216
 gts:∀(k:Nat) l g,b.G[k]? =some l→s.O[k]? =some g→(0≤g.V∧g.V≤l.U)∧(0≤g.X∧g.X≤l.U)
 at_:∀l∈s.E,s.B≤l.Z∧0<l.K.sum
 out0:∀x∈s.L,0≤x
 outs:s.L.sum≤s.N.sum+1125899906842624-(FE s.D+GI s.E)
structure Vk (b:AF) (s:AE):Prop where
 rg:Aal b s
 rem:∀(k:Nat) p m,b.A[k]? =some p→s.M[k]? =some m→0≤m∧m≤max 0 (p.T-1)
 opn:∀(k:Nat) l g,b.G[k]? =some l→s.O[k]? =some g→g.Am=true→l.H=5∨l.H=3
def ZK {N:Nat}(K:1000000<N){b:AF}(Q:IP b) (w:∀p∈b.A,IG b p) (s:AE) (hq:s.E.length≤100000):∃v,Jy N b s=some v∧(v=true→Vk b s):=by
 have hP:=Q.pl;have hL:=Q.li;have hW:=Q.own;unfold Jy;generalize hB:(_||decide ((s.L.length:Int)≠(b.F.length:Int)))=B
 cases B
 ·simp only[Abu,Abp,ne_eq,Decidable.not_not] at hB;obtain⟨⟨⟨⟨⟨⟨b1,b2⟩,b3⟩,b4⟩,b5⟩,b6⟩,b7⟩:=hB;rw[Aa0];rcases NC b.A.length (λn i (_:Unit)=>GB N b s (GD N b s) n i) (λ_=>GD N b s) (some false) (λi _=>∀(k:Nat) p m,k<i→b.A[k]? =some p→s.M[k]? =some m→0≤m∧m≤max 0 (p.T-1)) (λn k t c=>by
   simp only[GB];rw[ES c];rfl) (λn k t W c=>by
   simp only[GB];have y:k<s.M.length:=by omega
   have hd:=(w _ (Abc c)).den;unfold JI at hd;rw[ER c,Aax,BI c,BI y,BF (by omega)];simp only[Aav,F6,LP];rw[DJ (n:=(b.A[k]).T-1) (by omega) (by omega)];cases J:(decide (s.M[k]<0)||decide (max 0 ((b.A[k]).T-1)<s.M[k]))
   ·simp only[Abu,Abp] at J;refine .inr ⟨(),λj p m hj q z=>?_,rfl⟩;by_cases d:j=k
    ·subst d;rw[Abf c] at q;rw[Abf y] at z;cases q;cases z;omega
    ·exact W j p m (by omega) q z
   ·exact .inl rfl) N 0 () (λk p m h=>by omega) (by omega) (Aa4 _) with e|⟨_,i1,e⟩
  ·exact⟨_,e,λh=>by cases h⟩
  ·rw[show GB N b s (GD N b s) N 0=GD N b s from e];unfold GD;rcases NC b.G.length (λn i (_:Unit)=>GA N b s (GC N b s) n i) (λ_=>GC N b s) (some false) (λi _=>∀(k:Nat) l g,k<i→b.G[k]? =some l→s.O[k]? =some g→((0≤g.V∧g.V≤l.U)∧(0≤g.X∧g.X≤l.U))∧(g.Am=true→l.H=5∨l.H=3)) (λn k t c=>by
    simp only[GA];rw[ES c];rfl) (λn i t W c=>by
    simp only[GA];have y:i<s.O.length:=by omega
    rw[ER c,Aax,BI c,BI y,BF (by omega)];simp only[Aav];cases J:(((decide ((s.O[i]).V<0)||decide ((b.G[i]).U<(s.O[i]).V))||decide ((s.O[i]).X<0))||decide ((b.G[i]).U<(s.O[i]).X))
    ·simp only[Abu,Abp] at J;obtain⟨⟨⟨c1,c2⟩,c3⟩,c4⟩:=J;rw[Aa0];cases Y:(((s.O[i]).Am&&decide ((b.G[i]).H≠5))&&decide ((b.G[i]).H≠3))
     ·refine .inr ⟨(),λk l g ae a o=>?_,rfl⟩;by_cases d:k=i
      ·subst d;rw[Abf c] at a;rw[Abf y] at o;cases a;cases o;refine⟨⟨⟨by omega,by omega⟩,by omega,by omega⟩,λZ=>?_⟩;rw[Z,Bool.true_and,Bool.and_eq_false_iff] at Y;simp only[Abp,ne_eq,Decidable.not_not] at Y;exact Y
      ·exact W k l g (by omega) a o
     ·exact .inl rfl
    ·exact .inl rfl) N 0 () (λk l g h=>by omega) (by omega) (Aa4 _) with e|⟨_,i2,e⟩
   ·exact⟨_,e,λh=>by cases h⟩
   ·rw[show GA N b s (GC N b s) N 0=GC N b s from e];unfold GC;obtain⟨r,er,k1⟩:=Zc K b s (by omega) hq;rw[er,Aav];cases aa:r.2
    ·exact⟨_,rfl,λh=>by cases h⟩
    ·obtain⟨k1,k2,k3,k4⟩:=k1 aa;have C:In b.A.length b.F.length s.D:=⟨by omega,k1⟩
     have I:QX b.A.length b.F.length s.E:=λl a=>(k2 l a).1;have af:=C.sum0;have ab:=(Ek I 0).2;rw[Acb,show GI ([]:List AM)=0 from rfl] at ab;obtain⟨u,hu,ku⟩:=V0 K (l:=s.N) (by omega) (m:=1152921504606846976) (by decide);rw[Ab4,Aa0,hu,Aav];cases ac:u.2
     ·exact⟨_,rfl,λh=>by cases h⟩
     ·obtain⟨u1,u2,u3⟩:=ku ac;have u0:=JV u1;rw[DJ (n:=u.1+1125899906842624) (by omega) (by omega),DJ (n:=u.1+1125899906842624-r.1) (by omega) (by omega)];obtain⟨x,hx,kx⟩:=V0 K (l:=s.L) (by omega) (m:=u.1+1125899906842624-r.1) ⟨by omega,by omega⟩;rw[Ab4,Aa0,hx,Aav];refine⟨_,rfl,λad=>?_⟩;obtain⟨x1,x2,x3⟩:=kx ad;exact⟨⟨⟨C,I,by omega,by omega,by omega,by omega,u1,u2,by omega⟩,⟨by omega,by omega⟩,λk l g a o=>(i2 k l g (Aba.1 a).1 a o).1,λl a=>(k2 l a).2,x1,by omega⟩,λk p m q z=>i1 k p m (Aba.1 q).1 q z,λk l g a o=>(i2 k l g (Aba.1 a).1 a o).2⟩
 ·exact⟨_,rfl,λh=>by cases h⟩
structure Ws (l:BO) (g:AT):Prop where
 pos:0≤g.V∧g.V≤l.U
 tgt:0≤g.X∧g.X≤l.U
 opn:g.Am=true→l.H=5∨l.H=3
def OI (b:AF) (a:List AT):Prop:=a.length=b.G.length∧∀(k:Nat) l g,b.G[k]? =some l→a[k]? =some g→Ws l g
def Tf (b:AF):Prop:=∀l∈b.G,(0≤l.U∧l.U≤64)∧0≤l.Ad∧l.Ad≤l.U
def OI.at_ {b:AF}{a:List AT}(j:OI b a){i:Int}{l:BO}{g:AT}(c:ix b.G i=some l) (d:ix a i=some g):Ws l g:=j.2 _ _ _ (EY c).2 (EY d).2
def OI.upd {b:AF}{j:List AT}(p:OI b j){i:Int}{l:BO}{g:AT}(d:ix b.G i=some l) (m:Ws l g):OI b (upd j i g):=by
 obtain⟨h0,d⟩:=EY d;refine⟨by rw[MG];exact p.1,λk n o c a=>?_⟩;unfold Go.Proofs.YtedgiljmffngoaaGreat.upd at a;by_cases e:i.toNat=k
 ·rw[e] at d a;rw[d] at c;cases c;rw[Adc (by rw[p.1];exact(Aba.1 d).1)] at a;cases a;exact m
 ·rw[Ac4 e] at a;exact p.2 k n o c a
def Ws.fault {N:Nat}{l:BO}{g a:AT}{k:Int}(m:Ws l g) (e:Ht N l g k=some a):Ws l a:=by
 have d:∀c:Bool,G1 N l g k (GF N g) c=some a→Ws l a:=λc e=>by
  unfold G1 at e;cases c
  ·cases e;exact⟨m.pos,m.tgt,m.opn⟩
  ·by_cases b:l.H=5
   ·rw[Abs b] at e;cases e;exact⟨m.pos,m.tgt,λ_=> .inl b⟩
   ·rw[Abe b] at e;cases e;exact⟨m.pos,m.tgt,m.opn⟩
 unfold Ht at e;cases h0:decide (k=0)<;>rw[h0] at e
 ·cases i:decide (k=1)<;>rw[i] at e
  ·cases j:decide (k=2)<;>rw[j] at e
   ·exact d (decide (k=3)) e
   ·exact d true e
  ·cases e;exact⟨m.pos,m.tgt,m.opn⟩
 ·cases e;exact⟨m.pos,m.tgt,m.opn⟩
def Ws.aim {N:Nat}{l:BO}{g a:AT}{t:Int}(c:0≤l.U) (o:Ws l g) (e:JD N l g t=some a):Ws l a:=by
 obtain⟨x,d,i,n,j⟩:=fV N l g t;have b:a=x:=Aa1 (e.symm.trans d);have k:a.Am=g.Am:=by
  unfold JD at e;cases m:decide (l.U≠0)<;>rw[m] at e
  ·cases e;rfl
  ·obtain⟨y,_,e⟩:=bd e;cases e;rfl
 exact⟨by rw[b,i];exact o.pos,by rw[b];exact j c o.tgt.1 o.tgt.2,by rw[k];exact o.opn⟩
def Ws.move {N:Nat}{l:BO}{g a:AT}(b:(0≤l.U∧l.U≤64)∧0≤l.Ad∧l.Ad≤l.U) (k:Ws l g) (e:Hy N l g=some a):Ws l a:=by
 have i:gM N l g=a:=Aa1 ((dY N l g).symm.trans e);have c:=(qH N l g b.1.2 b.2 k.pos k.tgt).1;rw[i] at c;have d:a.X=g.X∧a.Am=g.Am:=by
  unfold Hy at e;cases j:g.At<;>rw[j] at e
  ·rw[Aa0] at e;obtain⟨_,_,e⟩:=bd e;obtain⟨_,_,e⟩:=bd e;obtain⟨_,_,e⟩:=bd e;obtain⟨_,_,e⟩:=bd e;cases e;exact⟨rfl,rfl⟩
  ·cases e;exact⟨rfl,rfl⟩
 exact⟨c,by rw[d.1];exact k.tgt,by rw[d.2];exact k.opn⟩
def Ws.siphon {N:Nat}{l:BO}{g b:AT}{v:Int}(d:Ws l g) (e:HO N l g v=some b):Ws l b:=by
 unfold HO at e;by_cases a:l.H=3
 ·rw[show decide (l.H≠3)=false by simp [a],Aa0] at e;cases c:decide (l.Aw≤v)<;>rw[c] at e
  ·cases hd:decide (v≤l.Ax)<;>rw[hd] at e<;>cases e
   ·exact⟨d.pos,d.tgt,λ_=> .inr a⟩
   ·exact⟨d.pos,d.tgt,λ_=> .inr a⟩
  ·cases e;exact⟨d.pos,d.tgt,λ_=> .inr a⟩
 ·rw[show decide (l.H≠3)=true by simp [a],Aax] at e;cases e;exact d
def UP {N:Nat}{w:AN}(j:Tf w.b):∀(n:Nat) (i:Int){a r:List AT},OI w.b a→DF N w n i a=some r→OI w.b r
 |0,_,_,_,_,e=>by cases e
 |n+1,i,a,r,q,e=>by
  simp only[DF] at e;cases k:decide (i<(w.b.G.length:Int))<;>rw[k] at e
  ·cases e;exact q
  ·rw[Aax] at e;obtain⟨l,c,e⟩:=bd e;obtain⟨o,_,e⟩:=bd e;obtain⟨g,m,e⟩:=bd e;obtain⟨p,d,e⟩:=bd e;obtain⟨_,_,e⟩:=bd e;obtain⟨_,_,e⟩:=bd e;exact UP j n _ (q.upd c ((q.at_ c m).move (j l (Ab6 (EY c).2)) d)) e
def Ra {N:Nat}{w:AN}(a:Tf w.b):∀(n:Nat) (i:Int){c r:List AT},OI w.b c→Cd N w (Cy N w) n i c=some r→OI w.b r
 |0,_,_,_,_,e=>by cases e
 |n+1,i,c,r,q,e=>by
  simp only[Cd,GP] at e;cases k:decide (i<(w.in_.Ak.length:Int))<;>rw[k] at e
  ·exact UP a N 0 q e
  ·rw[Aax] at e;obtain⟨x,_,e⟩:=bd e;obtain⟨y,_,e⟩:=bd e;cases y with
   |false=>exact Ra a n _ q e
   |true=>
    rw[Aax] at e;obtain⟨l,d,e⟩:=bd e;obtain⟨o,_,e⟩:=bd e;obtain⟨g,m,e⟩:=bd e;obtain⟨p,j,e⟩:=bd e;obtain⟨_,_,e⟩:=bd e;obtain⟨_,_,e⟩:=bd e;exact Ra a n _ (q.upd d ((q.at_ d m).aim (a l (Ab6 (EY d).2)).1.1 j)) e
def Rb {N:Nat}{w:AN}(a:Tf w.b):∀(n:Nat) (i:Int){c r:List AT},OI w.b c→Ce N w (Cz N w) n i c=some r→OI w.b r
 |0,_,_,_,_,e=>by cases e
 |n+1,i,c,r,q,e=>by
  simp only[Ce,GQ] at e;cases k:decide (i<(w.in_.Ai.length:Int))<;>rw[k] at e
  ·exact Ra a N 0 q e
  ·rw[Aax] at e;obtain⟨x,_,e⟩:=bd e;obtain⟨y,_,e⟩:=bd e;cases y with
   |false=>exact Rb a n _ q e
   |true=>
    rw[Aax] at e;obtain⟨l,j,e⟩:=bd e;obtain⟨o,_,e⟩:=bd e;obtain⟨g,m,e⟩:=bd e;obtain⟨p,d,e⟩:=bd e;obtain⟨_,_,e⟩:=bd e;obtain⟨_,_,e⟩:=bd e;exact Rb a n _ (q.upd j ((q.at_ j m).fault d)) e
def VN {N:Nat}{w:AN}{y:List (List Int)×List AM}{o:List (List Int)}{j:List Int}:∀(n:Nat) (i:Int){a:List AT}{r:List (List Int)×List AM×List AT×List Int},OI w.b a→CD N w y o j n i a=some r→OI w.b r.2.2.1
 |0,_,_,_,_,e=>by cases e
 |n+1,i,a,r,t,e=>by
  simp only[CD,Eo] at e;cases k:decide (i<(w.b.G.length:Int))<;>rw[k] at e
  ·cases e;exact t
  ·rw[Aax] at e;obtain⟨l,d,e⟩:=bd e;cases m:decide (l.H=3)<;>rw[m] at e
   ·exact VN n _ t e
   ·rw[Aax] at e;obtain⟨q,_,e⟩:=bd e;obtain⟨g,p,e⟩:=bd e;obtain⟨_,_,e⟩:=bd e;obtain⟨v,_,e⟩:=bd e;obtain⟨s,c,e⟩:=bd e;obtain⟨_,_,e⟩:=bd e;obtain⟨_,_,e⟩:=bd e;exact VN n _ (t.upd d ((t.at_ d p).siphon c)) e
def Yc {N:Nat}{w:AN}{y:List (List Int)×List AM}:∀(n:Nat) (i:Int){o:List (List Int)}{a:List Int}{r:List (List Int)×List AM×List AT×List Int},OI w.b w.s.O→Cf N w y (Cv N w y) n i o a=some r→OI w.b r.2.2.1
 |0,_,_,_,_,_,e=>by cases e
 |n+1,i,o,a,r,d,e=>by
  simp only[Cf] at e;cases c:decide (i<(w.b.A.length:Int))<;>rw[c] at e
  ·exact VN N 0 d e
  ·rw[Aax] at e
   iterate 12 (replace e:=(bd e).choose_spec.2)
   exact Yc n _ d e
def VT (b:AF) (rem:List Int):Prop:=rem.length=b.A.length∧∀(k:Nat) p m,b.A[k]? =some p→rem[k]? =some m→0≤m∧m≤max 0 (p.T-1)
def VT.upd {b:AF}{rem:List Int}(n:VT b rem){i:Int}{p:EW}{m:Int}(d:ix b.A i=some p) (g:0≤m∧m≤max 0 (p.T-1)):VT b (upd rem i m):=by
 obtain⟨h0,d⟩:=EY d;refine⟨by rw[MG];exact n.1,λk j l c a=>?_⟩;unfold Go.Proofs.YtedgiljmffngoaaGreat.upd at a;by_cases e:i.toNat=k
 ·rw[e] at d a;rw[d] at c;cases c;rw[Adc (by rw[n.1];exact(Aba.1 d).1)] at a;cases a;exact g
 ·rw[Ac4 e] at a;exact n.2 k j l c a
def ZS {N:Nat}(g:18446744073709551616<N){a:EW}(hd:0≤a.T∧a.T≤1125899906842624){v m:Int}{y:Int×Int}(e:Ik N a v m=some y):0≤y.2∧y.2≤max 0 (a.T-1):=by
 unfold Ik at e;rw[Oz g,Aav] at e;unfold vL at e;split at e
 ·rename_i i;obtain⟨_,_,⟨j,k⟩,_⟩:=i;have l:=Int.emod_nonneg (v*a.Y) (show a.T≠0 by omega);have o:=Int.emod_lt_of_pos (v*a.Y) (show 0<a.T by omega);have d:∀b,0≤b→b<a.T→HC N a (v*a.Y/a.T,v*a.Y%a.T,true) b=some y→0≤y.2∧y.2≤max 0 (a.T-1):=λb h0 p e=>by
   unfold HC at e;simp only at e;rw[DJ (n:=v*a.Y%a.T+b) (by omega) (by omega)] at e;by_cases q:v*a.Y%a.T+b<a.T
   ·rw[Abs q,Aax] at e;cases e;show 0≤v*a.Y%a.T+b∧v*a.Y%a.T+b≤_
    omega
   ·rw[Abe q,Aa0,DJ (n:=v*a.Y%a.T+b-a.T) (by omega) (by omega)] at e;cases e;show 0≤v*a.Y%a.T+b-a.T∧v*a.Y%a.T+b-a.T≤_
    omega
  simp only[Ab4,Aa0] at e;cases c:(decide (0≤m)&&decide (m<a.T))<;>rw[c] at e
  ·exact d 0 (by omega) (by omega) e
  ·simp only[Aa3,Abh] at c;exact d m c.1 c.2 e
 ·simp only[Bool.not_false,Aax] at e;cases e;show(0:Int)≤0∧(0:Int)≤_
  omega
def UQ {N:Nat}{w:AN}{p:Int}{b:List AD}{kj:List (List Int)→List Int→List AJ→List AM→Option (List (List Int)×List Int×List Int×List AJ×List AM)}:∀(n:Nat) (i:Int){o:List (List Int)}{out:List Int}{ms:List AJ}{a:List AM}{r},C0 N w p b kj n i o out ms a=some r→∃o out ms a,kj o out ms a=some r
 |0,_,_,_,_,_,_,e=>by cases e
 |n+1,i,o,out,ms,a,r,e=>by
  simp only[C0] at e;cases c:decide (i<(b.length:Int))<;>rw[c] at e
  ·exact⟨_,_,_,_,e⟩
  ·rw[Aax] at e
   iterate 3 (replace e:=(bd e).choose_spec.2)
   exact UQ n _ e
def UT {N:Nat}{w:AN}{p:Int}{a:EW}{o:List (List Int)}{out:List Int}{ms:List AJ}{b:List AM}{rem:List Int}{r}(e:Cu N w p a o out ms b rem=some r):r.2.1=rem:=by
 unfold Cu at e;obtain⟨_,_,e⟩:=bd e;obtain⟨_,_,e⟩:=bd e;obtain⟨v,_,e⟩:=bd e;cases c:decide (0<BC (v-a.Au))<;>rw[c] at e
 ·cases e;rfl
 ·rw[Aax] at e;obtain⟨_,_,e⟩:=bd e;obtain⟨_,_,e⟩:=bd e;cases e;rfl
def XP {N:Nat}(j:18446744073709551616<N){w:AN}(c:∀p∈w.b.A,IG w.b p){p:Int}{r}(q:VT w.b w.s.M) (e:Gl N w p=some r):VT w.b r.2.1:=by
 unfold Gl at e;obtain⟨d,a,e⟩:=bd e;obtain⟨_,_,e⟩:=bd e;obtain⟨_,_,e⟩:=bd e;obtain⟨n,_,e⟩:=bd e;obtain⟨o,out,ms,k,e⟩:=UQ N 0 e;have hd:=(c _ (Ab6 (EY a).2)).den;unfold JI at hd;unfold Et at e;cases l:decide (d.T≠0)<;>rw[l] at e
 ·rw[UT e];exact q
 ·rw[Aax] at e;obtain⟨_,_,e⟩:=bd e;obtain⟨_,_,e⟩:=bd e;obtain⟨_,_,e⟩:=bd e;obtain⟨_,_,e⟩:=bd e;obtain⟨y,m,e⟩:=bd e;obtain⟨_,_,e⟩:=bd e;obtain⟨_,_,e⟩:=bd e;obtain⟨_,_,e⟩:=bd e;obtain⟨_,_,e⟩:=bd e;obtain⟨t,_,e⟩:=bd e;have h0:VT w.b (upd w.s.M p 0):=q.upd a (by omega);have i:∀rem,EC N w p d o out ms k y (Cu N w p d) rem=some r→r.2.1=rem:=λrem e=>by
   unfold EC at e;obtain⟨_,_,e⟩:=bd e;obtain⟨_,_,e⟩:=bd e;exact UT e
  cases g:decide (y.1≤t)<;>rw[g] at e
  ·rw[i _ e];exact h0
  ·rw[Aax] at e;obtain⟨_,_,e⟩:=bd e;obtain⟨_,_,e⟩:=bd e;rw[i _ e];exact h0.upd a (ZS j hd m)
def V1 {N:Nat}(g:18446744073709551616<N){b:AF}(a:∀p∈b.A,IG b p){in_:Ck}{s:AE}{y z}:∀(n:Nat) (i:Int){o:List (List Int)}{c out:List Int}{ms:List AJ}{d:List AM}{r},VT b c→ET N b in_ s y z (EU N s y z) n i o c out ms d=some r→VT b r.1.M∧r.1.O=z.2.2.1
 |0,_,_,_,_,_,_,_,_,e=>by cases e
 |n+1,i,o,c,out,ms,d,r,l,e=>by
  simp only[ET] at e;cases j:decide (i<(b.A.length:Int))<;>rw[j] at e
  ·rw[Aa0] at e;unfold EU at e;obtain⟨_,e⟩:=LQ e;cases e;exact⟨l,rfl⟩
  ·rw[Aax] at e;obtain⟨x,k,e⟩:=bd e;exact V1 g a n _ (XP g (w:=(⟨b,in_,(⟨s.B,o,c,z.2.1,z.2.2.1,y.2.1,out⟩:AE),ms,z.2.2.2,d⟩:AN)) a l k) e
def iS {N:Nat}(u:18446744073709551616<N){b:AF}(m:IP b) (c:∀p∈b.A,IG b p) (v:Tf b){s:AE}(d:Vk b s){in_:Ck}{r}(e:GR N b s in_=some r):VT b r.1.M∧OI b r.1.O:=by
 have C:=m.pl;have J:=m.li;have K:=m.own;have a:=d.rg.x;have D:OI b s.O:=⟨a.gates,λk l g n o=>⟨(d.rg.gts k l g n o).1,(d.rg.gts k l g n o).2,d.opn k l g n o⟩⟩
 unfold GR at e;rw[Uc (by omega) (by have:=a.own.len;omega) (λx q=>by have:=(a.own.all x q).len;omega) (by have:=a.rem;omega) (by have:=a.gates;omega) (by have:=a.inn;omega) (by have:=a.out;omega),Aav] at e;obtain⟨_,e⟩:=LQ e;obtain⟨t,i,e⟩:=bd e;obtain⟨Q,_,e⟩:=bd e;obtain⟨y,_,e⟩:=bd e;obtain⟨z,j,e⟩:=bd e;have F:OI b t:=by
  unfold Gk at i;exact Rb (w:=(⟨b,in_,s,([]:List AJ),(List.replicate ((b.A.length:Int)).toNat (0:Int)),([]:List AM)⟩:AN)) v N 0 D i
 have G:OI b z.2.2.1:=by
  unfold Eu at j;obtain⟨_,_,j⟩:=bd j;exact Yc (w:=(⟨b,in_,(⟨s.B,y.1,s.M,s.E,t,y.2.1,s.L⟩:AE),y.2.2,(List.replicate ((b.A.length:Int)).toNat (0:Int)),([]:List AM)⟩:AN)) N 0 F j
 obtain⟨H,I⟩:=V1 u c N 0 ⟨a.rem,d.rem⟩ e;exact⟨H,by rw[I];exact G⟩
def UL (H:Int) (p:Nat):List AD→List Int→List AJ
 |[],_=>[]
 |e::es,x=>match e.take x with
  |some y=>(if y.1.sum≤0 then [] else [(⟨H,(p:Int),e.to_,e.way,y.1⟩:AJ)])++UL H p es y.2
  |none=>UL H p es x
def Zw:List AD→List Int→List Int
 |[],x=>x
 |e::es,x=>match e.take x with
  |some y=>Zw es y.2
  |none=>Zw es x
def SU (H:Int) (p:Nat):∀(a b:List AD) (x:List Int),UL H p (a++b) x=UL H p a x++UL H p b (Zw a x)
 |[],b,x=>rfl
 |e::a,b,x=>by
  simp only[Abw,UL,Zw];cases e.take x with
  |none=>exact SU H p a b x
  |some y=>simp only;rw[SU H p a b y.2,Adz]
def U6:∀(a b:List AD) (x:List Int),Zw (a++b) x=Zw b (Zw a x)
 |[],b,x=>rfl
 |e::a,b,x=>by
  simp only[Abw,Zw];cases e.take x with
  |none=>exact U6 a b x
  |some y=>exact U6 a b y.2
def ST {H:Int}{p:Nat}:∀{es:List AD}{x:List Int}(m:AJ),m∈UL H p es x→∃e∈es,m.Bd=e.way∧m.I=(p:Int)
 |[],x,m,a=>by cases a
 |e::es,x,m,a=>by
  simp only[UL] at a;cases g:e.take x with
  |none=>
   rw[g] at a;obtain⟨b,c,d⟩:=ST (es:=es) m a;exact⟨b,.tail _ c,d⟩
  |some y=>
   rw[g] at a;rcases Ab3.1 a with a|a
   ·split at a
    ·cases a
    ·rw[Ace.1 a];exact⟨e,.head _,rfl,rfl⟩
   ·obtain⟨b,c,d⟩:=ST (es:=es) m a;exact⟨b,.tail _ c,d⟩
def M6 (b:AF) (p:Nat) (t:Hi):Bool:=decide (t.Aq=(p:Int))&&(decide (0≤t.Bg)&&decide (t.Bg<(b.F.length:Int)))&&decide (0<t.Bc)&&(decide (t.C= -1)||((decide (0≤t.C)&&decide (t.C<(b.A.length:Int)))&&decide ((b.A.getD t.C.toNat default).Ao=(b.A.getD p default).Ao)))
def Xr (N:Nat) (t:Hi):AD:=⟨t.C,0, -3,λy=>DY N t y⟩
def Mc (N:Nat) (b:AF) (p:Nat) (a:List Hi):List AD:=(a.filter (M6 b p)).map (Xr N)
def W0 (N:Nat) (b:AF) (p:Nat){a:List Hi}{k:Nat}(c:k<a.length):Mc N b p (a.take (k+1))=Mc N b p (a.take k)++if M6 b p a[k] then [Xr N a[k]] else []:=by
 unfold Mc;rw[Acv c,Adt,Ack];congr 1;cases d:M6 b p a[k]<;>simp [d]
def UA (N:Nat) (b:AF) (p:Nat) (a:List Hi):(Mc N b p a).length≤a.length:=by
 unfold Mc;rw[Ac1];exact List.length_filter_le _ _
def bA {N:Nat}(Q:18446744073709551616<N){w:AN}(U:w.in_.Ab.length≤1000){p:Nat}(v:p<w.b.A.length):Ib N w (p:Int)=some (Mc N w.b p w.in_.Ab):=by
 unfold Ib;obtain⟨l,D,e⟩:=Da w.in_.Ab.length (λn i l=>CH N w (p:Int) (DE N) n l i) (DE N) (λk l=>l=Mc N w.b p (w.in_.Ab.take k)) (λn k l q=>by
  simp only[CH];rw[ES q];rfl) (λn k l G q=>by
  have H:=UA N w.b p (w.in_.Ab.take k);rw[←G,Aca] at H;rw[W0 N w.b p q,←G];simp only[CH,GN];rw[ER q,Aax,BI q,BF (by omega)];simp only[Aav,Nb,F6];generalize w.in_.Ab[k]=x
  have s:w.b.A.getD p default=w.b.A[p]:=by simp [Abg,v]
  have c:∀B:Bool,M6 w.b p x=B→∃s',s'=(l++if M6 w.b p x then [Xr N x] else [])∧cond B (chk (Ih (l.length+1) 32) (CH N w (p:Int) (DE N) n (l++([(⟨x.C,0,(-3),(λy=>DY N x y)⟩:AD)]:List AD)) ((k+1:Nat):Int))) (CH N w (p:Int) (DE N) n l ((k+1:Nat):Int))=CH N w (p:Int) (DE N) n s' ((k+1:Nat):Int):=λB I=>by
   refine⟨_,rfl,?_⟩;rw[I];cases B
   ·simp
   ·rw[Aax,IM (by omega)];rfl
  unfold M6 at c;by_cases d:x.Aq=(p:Int)
  ·cases m:(decide (0≤x.Bg)&&decide (x.Bg<(w.b.F.length:Int)))
   ·simp [d,M6,m]
   ·by_cases z:0<x.Bc
    ·by_cases a:x.C= -1
     ·have:=c true (by rw[m];simp [d,z,a]);simpa [d,M6,m,a,show ¬x.Bc≤0 by omega] using this
     ·cases o:(decide (0≤x.C)&&decide (x.C<(w.b.A.length:Int)))
      ·simp [d,M6,m,a,o,show ¬x.Bc≤0 by omega]
      ·obtain⟨J,K⟩:=Nh.1 o;obtain⟨y,t⟩:=Df.ix (l:=w.b.A) J (by omega);have u:w.b.A.getD x.C.toNat default=y:=by
        obtain⟨j,M⟩:∃j:Nat,x.C=(j:Int):=⟨x.C.toNat,by omega⟩
        rw[M] at t K ⊢;rw[BI (by omega)] at t;rw[Ab0];simpa [Abg,show j<w.b.A.length by omega] using t
       by_cases g:y.Ao=(w.b.A[p]).Ao
       ·have:=c true (by rw[o,m,u,s];simp [d,z,g]);simpa [d,M6,m,a,o,t,BI v,g,show ¬x.Bc≤0 by omega] using this
       ·have:=c false (by rw[o,u,s];simp [a,g]);simpa [d,M6,m,a,o,t,BI v,g,show ¬x.Bc≤0 by omega] using this
    ·simp [d,M6,m,z,show x.Bc≤0 by omega]
  ·simp [d,M6]) N 0 [] rfl (by omega) (Aa4 _)
 rw[Abo] at D;rw[←D];exact e
def bC {N:Nat}(j:18446744073709551616<N){b:AF}{W:Nat}(c:W≤64) (p:Nat) (d:List Hi):XL b W p (Mc N b p d):=λe g=>by
 obtain⟨t,i,rfl⟩:=Ab1.1 g;have a:=(Ach.1 i).2;refine⟨jU (by omega) c t,by show(-3:Int)≠ -4;decide,?_,by show(0:Int)=Pu _ _ (-3);unfold Pu;rw[Aaw (by omega),Aay rfl]⟩;show t.C= -1∨(0≤t.C∧t.C<b.A.length)
 unfold M6 at a;simp only[Aa3,Abq,Abh] at a;omega
def XF (b:AF) (W p:Nat) (l:List AD):Prop:=∀e∈l,uF b W p e∧0≤e.way
def XF.snoc {b:AF}{W p:Nat}{l:List AD}(g:XF b W p l){e:AD}(c:uF b W p e) (d:0≤e.way):XF b W p (l++[e]):=λx a=>by
 rcases Ab3.1 a with a|a
 ·exact g x a
 ·rw[Ace.1 a];exact⟨c,d⟩
def eA {N:Nat}(u:18446744073709551616<N){w:AN}{W:Nat}(Y:W≤64) (hL:w.b.G.length≤1000) (D:∀l∈w.b.G,J8 w.b l) (hg:w.s.O.length=w.b.G.length) (Z:w.peaks.length=w.b.A.length){p:Nat}(hp:p<w.b.A.length):∃l,Ic N w (p:Int)=some l∧l.length≤w.b.G.length∧XF w.b W p l:=by
 unfold Ic;obtain⟨l,⟨V,z⟩,e⟩:=Da w.b.G.length (λn i l=>Bz N w (p:Int) (DG N) n l i) (DG N) (λk l=>l.length≤k∧XF w.b W p l) (λn k l q=>by
  simp only[Bz];rw[ES q];rfl) (λn k l hi q=>by
  obtain⟨V,z⟩:=hi;have g:=D _ (Abc q);have F:k<w.s.O.length:=by omega
  have J:p<w.peaks.length:=by omega
  have v:Pu w.b p (k:Int)=(w.b.G[k]).S:=by
   unfold Pu;rw[Aay ⟨by omega,by omega⟩,Ab0,TJ q]
  simp only[Bz,HV,Dc,HN];rw[ER q,Aax,BI q,Aav,BF (by omega)];simp only[BI F,BI J,Aav];generalize w.b.G[k]=x at g v
  have d:∀(B:Int) (to:Int),(to= -1∨(0≤to∧to<w.b.A.length))→∃s',(s'.length≤k+1∧XF w.b W p s')∧chk (Ih (l.length+([(⟨to,x.S,(k:Int),(λx=>AL N B x)⟩:AD)]:List AD).length) 32) (Bz N w (p:Int) (DG N) n (l++([(⟨to,x.S,(k:Int),(λx=>AL N B x)⟩:AD)]:List AD)) ((k+1:Nat):Int))=Bz N w (p:Int) (DG N) n s' ((k+1:Nat):Int):=λB to c=>by
   rw[IM (by simp;omega)];exact⟨_,⟨by simp;omega,z.snoc ⟨λy hy=>by obtain⟨t,e,h,_⟩:=Qi u Y B y hy;exact⟨t,e,h⟩,by show(k:Int)≠ -4;omega,c,v.symm⟩ (by show 0≤(k:Int);omega)⟩,rfl⟩
  have j:∀i:Int,0≤i→i<w.b.A.length→∃y,ix w.peaks i=some y:=λi h0 h1=>Df.ix h0 (by omega);obtain⟨f0,K⟩:=j x.I g.fr.1 g.fr.2;cases X:(decide (x.I=(p:Int))&&decide (x.H≠4))
  ·rw[Aa0];cases M:decide (x.I=(p:Int))
   ·rw[Aa0];cases hC:(decide (x.C=(p:Int))&&decide (x.H=4))
    ·exact⟨l,⟨by omega,z⟩,rfl⟩
    ·obtain⟨a,m⟩:=X2 u x f0 w.peaks[p];obtain⟨b,hb⟩:=Sq N 0 a;rw[Aax];simp only[K,Aav];rw[m,Aav,hb,Aav];exact d _ _ (.inr g.fr)
   ·have M:=Adf M;have h4:x.H=4:=by
     rw[Abs M,Bool.true_and] at X;simpa using X
    obtain⟨_,_,_,_,_,c⟩:=g.seep h4;have c:=g.to.resolve_left c;obtain⟨Q,o⟩:=j x.C c.1 c.2;obtain⟨a,m⟩:=X2 u x w.peaks[p] Q;rw[Aax];simp only[o,Aav];rw[m,Aav];exact d _ _ g.to
  ·rw[Aax];cases U:decide (x.C≠ -1)
   ·obtain⟨a,m⟩:=YS u x w.s.O[k] w.peaks[p] 0;rw[Aa0,m,Aav];exact d _ _ g.to
   ·have U:=Adf U;have c:=g.to.resolve_left U;obtain⟨Q,o⟩:=j x.C c.1 c.2;obtain⟨a,m⟩:=YS u x w.s.O[k] w.peaks[p] Q;rw[Aax];simp only[o,Aav];rw[m,Aav];exact d _ _ g.to) N 0 [] ⟨Abd _,λe he=>by cases he⟩ (by omega) (Aa4 _)
 exact⟨l,e,V,z⟩
end Go.Proofs.YtedgiljmffngoaaGreat
