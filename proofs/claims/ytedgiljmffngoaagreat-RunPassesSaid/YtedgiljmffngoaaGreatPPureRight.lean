import Derived.Test.YtedgiljmffngoaaGreatPPureDiv
namespace Go.Proofs.YtedgiljmffngoaaGreat
set_option linter.all false
open Go.RowKit
def TJ {Y b d q r:Nat}(g:q*(Y/4294967296)+r=b):q*(Y%4294967296)≤4294967296*r+d↔q*Y≤b*4294967296+d:=by
 have e:q*Y=4294967296*(q*(Y/4294967296))+q*(Y%4294967296):=by
  conv=>lhs;rw[←Adg Y 4294967296,Nat.mul_add,Nat.mul_left_comm]
 rw[e,←g];generalize q*(Y/4294967296)=a
 generalize q*(Y%4294967296)=c
 omega
def cY {Y a b q:Nat}(d:a<Y) (g:b<4294967296) (c:4294967296≤q):a*4294967296+b<q*Y:=by
 have i:4294967296*Y≤q*Y:=Aby _ c;omega
def cZ {Y a b q r:Nat}(c:q*(Y/4294967296)+r=a) (d:1≤q) (g:q≤4294967297) (i:4294967296≤r+Y/4294967296):(q-1)*Y≤a*4294967296+b:=by
 have e:(q-1)*(Y/4294967296)+(r+Y/4294967296)=a:=by
  obtain⟨p,rfl⟩:∃p,q=p+1:=⟨q-1,by omega⟩
  rw[Abs] at c;simp only[Nat.add_sub_cancel];omega
 refine(TJ e).1 ?_;have j:(q-1)*(Y%4294967296)≤4294967296*(Y%4294967296):=Aby _ (by omega);have k:Y%4294967296<4294967296:=Ab9 _ (by omega);omega
def iR {Y U q:Nat}(c:0<Y) (a:q*Y≤U) (b:U<(q+1)*Y):U/Y=q:=Nat.div_eq_of_lt_le a b
def WL {Y a:Nat}(g:9223372036854775808≤Y) (l:Y<18446744073709551616) (m:a<Y) (d:Nat) (n:d<4294967296):a/(Y/4294967296)≤4294967297∧a/(Y/4294967296)*(Y/4294967296)+a%(Y/4294967296)=a∧a*4294967296+d<(a/(Y/4294967296)+1)*Y∧a%(Y/4294967296)<4294967296:=by
 have i:2147483648≤Y/4294967296:=by omega
 have j:Y/4294967296<4294967296:=by omega
 have b:0<Y/4294967296:=by omega
 have o:a%(Y/4294967296)<Y/4294967296:=Ab9 _ b;have c:a/(Y/4294967296)*(Y/4294967296)+a%(Y/4294967296)=a:=by rw[Acv];exact Adg _ _
 refine⟨?_,c,?_,by omega⟩
 ·refine Acn ((Adv b).2 ?_);omega
 ·have k:(a/(Y/4294967296)+1)*(4294967296*(Y/4294967296))≤(a/(Y/4294967296)+1)*Y:=Nat.mul_le_mul_left _ (by omega);rw[Nat.mul_left_comm,Abs,Nat.one_mul] at k;omega
def UV (N:Nat) (p y:Int) (g i:Nat) (Y a b:Nat) (B:Dh .u64 y g=(Y:Int)) (C:Dh .u64 p i=(a:Int)) (s:9223372036854775808≤Y) (d:Y<18446744073709551616) (k:a<18446744073709551616) (D:b<Y) (kj:Int→Option (Int×Int)):
  ∀(n q r:Nat),q<n→q≤4294967297→r<4294967296→q*(Y/4294967296)+r=b→b*4294967296+a/4294967296<(q+1)*Y→
  DC N p y g i kj n (q:Int) (r:Int)=kj (((b*4294967296+a/4294967296)/Y:Nat):Int)
 |0,q,r,U,_,_,_,_=>by omega
 |n+1,q,r,K,F,M,t,G=>by
  have H:Y/4294967296<4294967296:=by omega
  have l:Y%4294967296<4294967296:=Ab9 _ (by omega);have u:a/4294967296<4294967296:=by omega
  simp only[DC];rw[B,C,On,On,TH Y d,Qq,show(4294967296:Int)=((4294967296:Nat):Int) from rfl,Qq,Ee _ (show 4294967296*r<18446744073709551616 by omega),Ua,Ee _ (show 4294967296*r+a/4294967296<18446744073709551616 by omega),Ua,Ee (r+Y/4294967296) (by omega)];cases o:(decide (((4294967296:Nat):Int)≤(q:Int))||decide (((4294967296*r+a/4294967296:Nat):Int)<IntKind.u64.wrap ((q*(Y%4294967296):Nat):Int)))
  ·simp only[Aa2,Aat] at o;obtain⟨Q,I⟩:=o;have c:q<4294967296:=by omega
   have v:q*(Y%4294967296)<18446744073709551616:=Adh (Ac9 (Acn c) (Acn l)) (by decide);rw[Ee _ v] at I;rw[zX,iR (by omega) ((TJ t).1 (by omega)) G]
  ·rw[zV];have j:b*4294967296+a/4294967296<q*Y:=by
    rcases Aar q 4294967296 with c|c
    ·have v:q*(Y%4294967296)<18446744073709551616:=Adh (Ac9 (Acn c) (Acn l)) (by decide);rw[Ee _ v] at o;simp only[Aay,Aam] at o;refine Nat.lt_of_not_le λw=>?_;have:=(TJ t).2 w;omega
    ·exact cY D u c
   have x:1≤q:=by
    rcases Adw q with e|e
    ·rw[e,Nat.zero_mul] at j;omega
    ·exact e
   have z:IntKind.u64.wrap ((q:Int)-1)=((q-1:Nat):Int):=by rw[show (q:Int)-1=((q-1:Nat):Int) by omega];exact Ee _ (by omega)
   rw[z];have A:q-1+1=q:=by omega
   cases m:decide (((4294967296:Nat):Int)≤((r+Y/4294967296:Nat):Int))
   ·rw[zX];have J:(q-1)*(Y/4294967296)+(r+Y/4294967296)=b:=by
     have:q*(Y/4294967296)=(q-1)*(Y/4294967296)+Y/4294967296:=by
      conv=>lhs;rw[←A,Abs,Nat.one_mul]
     omega
    simp only[Aat] at m;exact UV N p y g i Y a b B C s d k D kj n (q-1) (r+Y/4294967296) (by omega) (by omega) (by omega) J (by rw[A];exact j)
   ·rw[zV];simp only[Aam] at m;rw[iR (by omega) (cZ t x F (by omega)) (by rw[A];exact j)]
def UU (N:Nat) (p y:Int) (i j:Nat) (Y a b:Nat) (B:Dh .u64 y i=(Y:Int)) (C:Dh .u64 p j=(a:Int)) (s:9223372036854775808≤Y) (d:Y<18446744073709551616) (g:a<18446744073709551616) (D:b<Y) (kj:Int→Option (Int×Int)):
  ∀(n q r:Nat),q<n→q≤4294967297→r<4294967296→q*(Y/4294967296)+r=b→b*4294967296+a%4294967296<(q+1)*Y→
  DX N p y i j kj n (r:Int) (q:Int)=kj (((b*4294967296+a%4294967296)/Y:Nat):Int)
 |0,q,r,U,_,_,_,_=>by omega
 |n+1,q,r,K,F,M,t,G=>by
  have H:Y/4294967296<4294967296:=by omega
  have l:Y%4294967296<4294967296:=Ab9 _ (by omega);have u:a%4294967296<4294967296:=Ab9 _ (by omega);simp only[DX];rw[B,C,On,TH a g,TH Y d,Qq,show(4294967296:Int)=((4294967296:Nat):Int) from rfl,Qq,Ee _ (show 4294967296*r<18446744073709551616 by omega),Ua,Ee _ (show 4294967296*r+a%4294967296<18446744073709551616 by omega),Ua,Ee (r+Y/4294967296) (by omega)];cases o:(decide (((4294967296:Nat):Int)≤(q:Int))||decide (((4294967296*r+a%4294967296:Nat):Int)<IntKind.u64.wrap ((q*(Y%4294967296):Nat):Int)))
  ·simp only[Aa2,Aat] at o;obtain⟨Q,I⟩:=o;have c:q<4294967296:=by omega
   have v:q*(Y%4294967296)<18446744073709551616:=Adh (Ac9 (Acn c) (Acn l)) (by decide);rw[Ee _ v] at I;rw[zX,iR (by omega) ((TJ t).1 (by omega)) G]
  ·rw[zV];have k:b*4294967296+a%4294967296<q*Y:=by
    rcases Aar q 4294967296 with c|c
    ·have v:q*(Y%4294967296)<18446744073709551616:=Adh (Ac9 (Acn c) (Acn l)) (by decide);rw[Ee _ v] at o;simp only[Aay,Aam] at o;refine Nat.lt_of_not_le λw=>?_;have:=(TJ t).2 w;omega
    ·exact cY D u c
   have x:1≤q:=by
    rcases Adw q with e|e
    ·rw[e,Nat.zero_mul] at k;omega
    ·exact e
   have z:IntKind.u64.wrap ((q:Int)-1)=((q-1:Nat):Int):=by rw[show (q:Int)-1=((q-1:Nat):Int) by omega];exact Ee _ (by omega)
   rw[z];have A:q-1+1=q:=by omega
   cases m:decide (((4294967296:Nat):Int)≤((r+Y/4294967296:Nat):Int))
   ·rw[zX];have J:(q-1)*(Y/4294967296)+(r+Y/4294967296)=b:=by
     have:q*(Y/4294967296)=(q-1)*(Y/4294967296)+Y/4294967296:=by
      conv=>lhs;rw[←A,Abs,Nat.one_mul]
     omega
    simp only[Aat] at m;exact UU N p y i j Y a b B C s d g D kj n (q-1) (r+Y/4294967296) (by omega) (by omega) (by omega) J (by rw[A];exact k)
   ·rw[zV];simp only[Aam] at m;rw[iR (by omega) (cZ t x F (by omega)) (by rw[A];exact k)]
def oG (a b:Nat) (d:b≠0) (c:a<18446744073709551616):SO .u64 (a:Int) (b:Int)=some ((a/b:Nat):Int):=by
 unfold SO;rw[zY (by omega)];have e:(a:Int).tdiv (b:Int)=((a/b:Nat):Int):=rfl;have:a/b≤a:=Nat.div_le_self _ _;rw[e,Ee _ (by omega)]
def xV (a b:Nat) (c:b≠0):Uq (a:Int) (b:Int)=some ((a%b:Nat):Int):=by
 unfold Uq;rw[zY (by omega)];rfl
def oA (a s:Nat) (d:s≤64):Dh .u64 (a:Int) s=((a*2^s%18446744073709551616:Nat):Int):=by
 unfold Dh;have b:min s IntKind.u64.bits=s:=by simp [IntKind.bits];omega
 have c:((a:Int)*2^s)=((a*2^s:Nat):Int):=by simp
 rw[b,c];exact lI _
def orN (a b:Nat) (g:a<18446744073709551616) (i:b<18446744073709551616):FJ .or .u64 (a:Int) (b:Int)=((a|||b:Nat):Int):=by
 have c:(BitVec.ofInt 64 (a:Int)).toNat=a:=by rw[BitVec.ofInt_natCast,BitVec.toNat_ofNat];exact Ac5 (by omega)
 have d:(BitVec.ofInt 64 (b:Int)).toNat=b:=by rw[BitVec.ofInt_natCast,BitVec.toNat_ofNat];exact Ac5 (by omega)
 have j:a|||b<2^64:=Nat.or_lt_two_pow (by omega) (by omega)
 show IntKind.u64.wrap (((BitVec.ofInt 64 (a:Int))|||(BitVec.ofInt 64 (b:Int))).toNat:Int)=_
 rw[BitVec.toNat_or,c,d,Ee _ (by omega)]
def YQ (a b:Nat):a=a/b*b+a%b:=by rw[Acv];exact(Adg a b).symm
def aU {Y A B u:Nat}(a:0<Y):(A*B+u)/Y=A/Y*B+(A%Y*B+u)/Y∧(A*B+u)%Y=(A%Y*B+u)%Y:=by
 have b:=Adg A Y;have e:A*B+u=Y*(A/Y*B)+(A%Y*B+u):=by
  conv=>lhs;rw[←b,Abs,Nat.mul_assoc,Ac2]
 rw[e];exact⟨by rw[Nat.mul_add_div a],by rw[Nat.mul_add_mod]⟩
def Nt {a b q Y R:Nat}(g:a=q*Y+R) (c:R<18446744073709551616) (d:b=a%18446744073709551616):IntKind.u64.wrap ((b:Int)-IntKind.u64.wrap ((q*Y:Nat):Int))=(R:Int):=by
 rw[NP,NP];generalize q*Y=t at g
 omega
def Zd {N:Nat}(X:18446744073709551616<N) (w l y:Int) (s:Nat) (Z:s≤63) (m n:Nat) (Y c g k d:Nat) (p:Dh .u64 y s=(Y:Int)) (q:Dh .u64 l s=(c:Int)) (x:FJ .or .u64 (Dh .u64 w m) (EJ .u64 l n)=(g:Int))
  (o:9223372036854775808≤Y) (i:Y<18446744073709551616) (j:c<18446744073709551616) (hu:g<Y) (D:(g*4294967296+c/4294967296)=k*Y+d) (A:d<Y) (F:k<4294967296):
  DY N w l y (s:Int) s m n s (k:Int)=some (((k*4294967296+(d*4294967296+c%4294967296)/Y:Nat):Int),(((d*4294967296+c%4294967296)%Y/2^s:Nat):Int)):=by
 have G:0<Y/4294967296:=by omega
 have H:Y/4294967296<4294967296:=by omega
 have u:c%4294967296<4294967296:=Ab9 _ (by omega);have B:IntKind.u64.wrap (IntKind.u64.wrap (IntKind.u64.wrap ((g:Int)*4294967296)+EJ .u64 (Dh .u64 l s) 32)-IntKind.u64.wrap ((k:Int)*(Y:Int)))=(d:Int):=by
  rw[q,On,Qq];refine(zW (λz=>IntKind.u64.wrap (z-_)) ?_).trans (Nt (b:=(g*4294967296+c/4294967296)%18446744073709551616) D (by omega) rfl);rw[NP,NP];omega
 obtain⟨I,C,J,K⟩:=WL o i A (c%4294967296) u;unfold DY;rw[x,p,B,On,oG _ _ (by omega) (by omega)];simp only[zU];have M:IntKind.u64.wrap ((d:Int)-IntKind.u64.wrap (((d/(Y/4294967296):Nat):Int)*((Y/4294967296:Nat):Int)))=((d%(Y/4294967296):Nat):Int):=by
  rw[Qq];exact Nt (a:=d) C.symm (by omega) (by omega)
 rw[M,UU N l y s s Y c d p q o i j A _ N _ _ (by omega) I K C J];unfold Ep;have Q:QK (IntKind.u64.wrap (s:Int))=some s:=by
  rw[Ee s (by omega)];unfold QK;rw[zY (by omega)];simp
 rw[x,p,Q,B,q,TH c j];simp only[zU];have hd:=Adg (d*4294967296+c%4294967296) Y;have v:(d*4294967296+c%4294967296)/Y<4294967296:=(Adv (by omega)).2 (by omega);have U:(d*4294967296+c%4294967296)%Y<Y:=Ab9 _ (by omega);have V:IntKind.u64.wrap (IntKind.u64.wrap (IntKind.u64.wrap ((d:Int)*4294967296)+((c%4294967296:Nat):Int))-IntKind.u64.wrap (((((d*4294967296+c%4294967296)/Y:Nat)):Int)*(Y:Int)))=(((d*4294967296+c%4294967296)%Y:Nat):Int):=by
  rw[Qq];refine(zW (λz=>IntKind.u64.wrap (z-_)) ?_).trans (Nt (a:=d*4294967296+c%4294967296) (b:=(d*4294967296+c%4294967296)%18446744073709551616) (YQ _ _) (by omega) rfl);rw[NP,NP];omega
 have W:IntKind.u64.wrap (IntKind.u64.wrap ((k:Int)*4294967296)+((((d*4294967296+c%4294967296)/Y:Nat)):Int))=((k*4294967296+(d*4294967296+c%4294967296)/Y:Nat):Int):=by
  rw[NP,NP];generalize (d*4294967296+c%4294967296)/Y=t at v
  omega
 rw[V,W,Wy _ s (by omega)]
def iU (a u:Nat):(a*4294967296+u/4294967296)*4294967296+u%4294967296=a*18446744073709551616+u:=by omega
def dP {N:Nat}(D:18446744073709551616<N) (o m y:Int) (s:Nat) (F:s≤63) (g i:Nat) (Y c b:Nat) (p:Dh .u64 y s=(Y:Int)) (w:Dh .u64 m s=(c:Int)) (x:FJ .or .u64 (Dh .u64 o g) (EJ .u64 m i)=(b:Int))
  (l:9223372036854775808≤Y) (j:Y<18446744073709551616) (k:c<18446744073709551616) (q:b<Y):
  ((SO .u64 (FJ .or .u64 (Dh .u64 o g) (EJ .u64 m i)) (EJ .u64 (Dh .u64 y s) 32)).bind λn=>
   DC N m y s s (DY N o m y (s:Int) s g i s) N n (IntKind.wrap .u64 ((FJ .or .u64 (Dh .u64 o g) (EJ .u64 m i))-(IntKind.wrap .u64 (n*(EJ .u64 (Dh .u64 y s) 32))))))=
  some ((((b*18446744073709551616+c)/Y:Nat):Int),(((b*18446744073709551616+c)%Y/2^s:Nat):Int)):=by
 have d:0<Y:=by omega
 have t:c/4294967296<4294967296:=by omega
 obtain⟨G,z,H,I⟩:=WL l j q (c/4294967296) t;obtain⟨C,t2⟩:=aU (Y:=Y) (A:=b*4294967296+c/4294967296) (B:=4294967296) (u:=c%4294967296) d;rw[iU] at C t2;rw[C,t2,x,p,On,oG _ _ (by omega) (by omega)];simp only[zU];have J:IntKind.u64.wrap ((b:Int)-IntKind.u64.wrap (((b/(Y/4294967296):Nat):Int)*((Y/4294967296:Nat):Int)))=((b%(Y/4294967296):Nat):Int):=by
  rw[Qq];exact Nt (a:=b) z.symm (by omega) (by omega)
 have v:(b*4294967296+c/4294967296)/Y<4294967296:=(Adv d).2 (by omega);rw[J,UV N _ _ s s Y c b p w l j k q _ N _ _ (by omega) G I z H];exact Zd D _ _ _ s F g i Y c b _ _ p w x l j k q (YQ _ _) (Ab9 _ d) v
def bO {g l s M:Nat}(b:M=2^64) (d:s≤63):(g*2^s+l/2^(64-s))*M+l*2^s%M=(g*M+l)*2^s:=by
 have e:(2:Nat)^64=2^(64-s)*2^s:=by rw[←Nat.pow_add];congr 1;omega
 have c:l*2^s/M=l/2^(64-s):=by
  rw[b,e,Nat.mul_div_mul_right _ _ (Adf s)]
 have a:=Adg (l*2^s) M;rw[c] at a;rw[Abs,Abs,Nat.mul_right_comm g,Ac2,Acv (l/2^(64-s)) M];exact zW _ a
def dS {N:Nat}(o:18446744073709551616<N) (B l y:Nat) (c:l<18446744073709551616) (p:y<18446744073709551616) (k:B<y):
  FZ N (B:Int) (l:Int) (y:Int)=some ((((B*18446744073709551616+l)/y:Nat):Int),(((B*18446744073709551616+l)%y:Nat):Int)):=by
 unfold FZ;rw[show decide ((y:Int)=0)=false by simp;omega,show decide ((y:Int)≤(B:Int))=false by simp;omega,zX,zX];rcases Adw B with e|hp
 ·subst e;rw[show decide (((0:Nat):Int)=0)=true by simp,zV,oG _ _ (by omega) c,xV _ _ (by omega),Nat.zero_mul,Aa7];rfl
 ·rw[show decide ((B:Int)=0)=false by simp;omega,zX];obtain⟨s,q,m,u,d⟩:=lU N (show 0<y by omega) p;have n:∀t:Nat,t≤64→QK (IntKind.u64.wrap (t:Int))=some t:=λt A=>by
   rw[Ee t (by omega)];unfold QK;rw[zY (by omega)];simp
  have g:(64:Int)-IntKind.u64.wrap (s:Int)=((64-s:Nat):Int):=by rw[Ee s (by omega)];omega
  rw[q,zU,g,n s (by omega),n (64-s) (by omega),zU,zU,zU,zU];have a:B*2^s<18446744073709551616:=Adh (Aby _ (Nat.le_of_lt k)) d;have b:l/2^(64-s)<2^s:=by
   refine(Adv (Adf _)).2 ?_;rw[←Nat.pow_add,show s+(64-s)=64 by omega];exact c
  have i:l/2^(64-s)<18446744073709551616:=Adh (Nat.div_le_self _ _) c;have j:B*2^s|||l/2^(64-s)=B*2^s+l/2^(64-s):=by
   rw[Acv B];exact(Nat.two_pow_add_eq_or_of_lt b B).symm
  have v:Dh .u64 (y:Int) s=((y*2^s:Nat):Int):=by rw[oA _ _ (by omega),Ac5 d]
  have w:Dh .u64 (l:Int) s=((l*2^s%18446744073709551616:Nat):Int):=oA _ _ (by omega);have x:FJ .or .u64 (Dh .u64 (B:Int) s) (EJ .u64 (l:Int) (64-s))=((B*2^s+l/2^(64-s):Nat):Int):=by
   rw[oA _ _ (by omega),Wy _ _ (by omega),Ac5 a,orN _ _ a i,j]
  have z:B*2^s+l/2^(64-s)<y*2^s:=by
   have:(B+1)*2^s≤y*2^s:=Aby _ k;rw[Abs,Nat.one_mul] at this;exact Aak (Nat.add_lt_add_left b _) this
  have hd:=dP o (B:Int) (l:Int) (y:Int) s m s (64-s) _ _ _ v w x u d (Ab9 _ (by omega)) z;rw[bO (M:=18446744073709551616) rfl m,Nat.mul_div_mul_right _ _ (Adf s),Nat.mul_mod_mul_right,Nat.mul_div_cancel _ (Adf s)] at hd;exact hd
def uF (a n d:Int):Int×Int×Bool:=if (0≤a∧a≤1125899906842624)∧(0≤n∧n≤1125899906842624)∧(1≤d∧d≤1125899906842624)∧a*n/d≤1125899906842624 then (a*n/d,a*n%d,true) else (0,0,false)
def oB {t d:Nat}(hd:0<d) (a:d≤t/18446744073709551616):18446744073709551616≤t/d:=by
 refine(Nat.le_div_iff_mul_le hd).2 ?_;omega
def Oo {N:Nat}(t:18446744073709551616<N) (a n d:Int):Fk N a n d=some (uF a n d):=by
 unfold Fk uF;cases m:(((((decide (a<0)||decide (1125899906842624<a))||decide (n<0))||decide (1125899906842624<n))||decide (d<1))||decide (1125899906842624<d))
 ·simp only[Aa2,Aat] at m;obtain⟨⟨⟨⟨⟨y,z⟩,A⟩,B⟩,C⟩,D⟩:=m;obtain⟨b,rfl⟩:∃k:Nat,a=k:=⟨a.toNat,by omega⟩
  obtain⟨c,rfl⟩:∃k:Nat,n=k:=⟨n.toNat,by omega⟩
  obtain⟨g,rfl⟩:∃k:Nat,d=k:=⟨d.toNat,by omega⟩
  rw[zX,Ee b (by omega),Ee c (by omega),Ee g (by omega),TG N b c (by omega) (by omega)];simp only[zU];have u:(b:Int)*(c:Int)/(g:Int)=((b*c/g:Nat):Int):=by rw[Int.natCast_ediv,Int.natCast_mul]
  have v:(b:Int)*(c:Int)%(g:Int)=((b*c%g:Nat):Int):=by rw[Int.natCast_emod,Int.natCast_mul]
  rw[u,v];have o:b*c/18446744073709551616*18446744073709551616+b*c%18446744073709551616=b*c:=(YQ _ _).symm;have j:0<g:=by omega
  by_cases l:g≤b*c/18446744073709551616
  ·rw[show decide ((g:Int)≤((b*c/18446744073709551616:Nat):Int))=true from Aaq (Int.ofNat_le.2 l),zV,zY];intro F;have p:=F.2.2.2;have w:=oB j l;generalize b*c/g=q at p w
   omega
  ·have s:¬(g:Int)≤((b*c/18446744073709551616:Nat):Int):=λF=>l (Int.ofNat_le.1 F);rw[Aan s,zX,dS t _ _ _ (Ab9 _ (by omega)) (by omega) (Nat.lt_of_not_le l),o];simp only[zU];have x:b*c%g<g:=Ab9 _ j;generalize b*c/g=q
   generalize b*c%g=r at x
   by_cases p:q≤1125899906842624
   ·have i:¬(1125899906842624:Int)<(q:Int):=by omega
    rw[Aan i,zX,Aab ⟨by omega,by omega,by omega,by omega⟩,C7 (by omega) (by omega),C7 (by omega) (by omega)]
   ·have i:(1125899906842624:Int)<(q:Int):=by omega
    rw[Aaq i,zV,zY (λF=>p (by have:=F.2.2.2;omega))]
 ·rw[zV,zY];intro F;simp only[Aay,Aam] at m;omega
def LP (b x:Bool):cond b true x=(b||x):=by cases b<;>rfl
def QI (b x:Bool):cond b x false=(b&&x):=by cases b<;>rfl
def BK {k:Nat}(a:k<4611686018427387904):A9 ((k:Int)+1)=((k+1:Nat):Int):=by rw[C7 (by omega) (by omega)];rfl
def Ef {k L:Nat}(a:k<L):decide ((k:Int)<(L:Int))=true:=by simp;omega
def E5 {k L:Nat}(a:L≤k):decide ((k:Int)<(L:Int))=false:=by simp;omega
def I3 (L:Nat) (f:Nat→Int→Option Bool) (kj:Option Bool) (P:Nat→Prop) (a:∀n (k:Nat),L≤k→f (n+1) (k:Int)=kj) (b:∀n (k:Nat),k<L→f (n+1) (k:Int)=some false∨(P k∧f (n+1) (k:Int)=f n ((k+1:Nat):Int))):
  ∀n (k:Nat),L<n+k→k≤L→f n (k:Int)=some false∨((∀i,k≤i→i<L→P i)∧f n (k:Int)=kj)
 |0,k,o,l=>by omega
 |n+1,k,o,l=>by
  rcases Aar k L with d|d
  ·rcases b n k d with g|⟨g,h2⟩
   ·exact .inl g
   ·rcases I3 L f kj P a b n (k+1) (by omega) (by omega) with j|⟨j,h4⟩
    ·exact .inl (h2.trans j)
    ·refine .inr ⟨λi m c=>?_,h2.trans h4⟩;by_cases e:i=k
     ·subst e;exact g
     ·exact j i (by omega) c
  ·exact .inr ⟨λi m c=>by omega,a n k d⟩
def X8 {σ q:Type}(L:Nat) (f:Nat→Int→σ→Option q) (kj:σ→Option q) (I:σ→Prop) (a:∀n (k:Nat) s,L≤k→f (n+1) (k:Int) s=kj s) (b:∀n (k:Nat) s,I s→k<L→∃s',I s'∧f (n+1) (k:Int) s=f n ((k+1:Nat):Int) s'):
  ∀n (k:Nat) s,I s→L<n+k→k≤L→∃s',I s'∧f n (k:Int) s=kj s'
 |0,k,s,_,t,g=>by omega
 |n+1,k,s,d,t,g=>by
  rcases Aar k L with c|c
  ·obtain⟨i,j,l⟩:=b n k s d c;obtain⟨m,o,p⟩:=X8 L f kj I a b n (k+1) i j (by omega) (by omega);exact⟨m,o,l.trans p⟩
  ·exact⟨s,d,a n k s c⟩
def Uf (n:Int):Bool:=decide (0≤n)&&decide (n≤1125899906842624)
def LH {n:Int}(a:Uf n=true):JD n:=by simpa [Uf,JD] using a
def MT (N:Nat) (n:Int):CS N n=some (Uf n):=rfl
def Zp (n a b:Int):Bool:=decide (a≤n)&&decide (n≤b)
def NA (N:Nat) (n a b:Int):Cc N n a b=some (Zp n a b):=rfl
def Kf {n a b:Int}(c:Zp n a b=true):a≤n∧n≤b:=by simpa [Zp] using c
def UP (a b:Int):Bool:=(Uf a&&Uf b)&&(decide (b≠0)||decide (a=0))
def Qu (N:Nat) (a b:Int):G9 N a b=some (UP a b):=by
 simp only[G9,MT,zU,Fo,QI,UP]
def Pe {a b:Int}(c:UP a b=true):JD a∧JD b:=by
 simp only[UP,Aaa] at c;exact⟨LH c.1.1,LH c.1.2⟩
def Qs (N:Nat) (n:Int) {L:Nat}(a:L<4611686018427387904):E2 N n (L:Int)=some (Zp n 0 ((L:Int)-1)):=by
 simp only[E2,NA,zU];rw[C7 (by omega) (by omega)]
def Vm (L:Nat) (fr to:Int):Bool:=decide (to= -1)||(Zp to 0 ((L:Int)-1)&&decide (to≠fr))
def RK (N:Nat) (b:AE) (fr to:Int) (a:b.A.length<4611686018427387904):Iv N b fr to=some (Vm b.A.length fr to):=by
 simp only[Iv,Qs N _ a,zU,Fo,LP,Vm]
def Xk {L:Nat}{fr to:Int}(a:Vm L fr to=true):to= -1∨(0≤to∧to<L):=by
 simp only[Vm,Aay,Aaa,Aam] at a;rcases a with a|a
 ·exact .inl a
 ·have:=Kf a.1;exact .inr ⟨this.1,by omega⟩
structure II (b:AE):Prop where
 own:b.I.length≤16
 cells:0≤b.P∧b.P≤64
 pl:b.A.length≤64
 li:b.F.length≤96
 to:b.Ab.length≤40
 ga:b.Ae.length≤128
 ro:b.Af.length≤128
 sh:b.Ai.length≤40
 own1:1≤b.I.length
def VC {s:ByteArray}{k:Nat}(a:k<s.size):∃z,VD s (k:Int)=some z:=by
 unfold VD;rw[zY (by omega)];simp only[Abh];exact⟨_,by rw[getElem?_pos s k a];rfl⟩
def iS {N:Nat}(q:1000<N) (b:AE):∃v,IU N b=some v∧(v=true→II b):=by
 unfold IU;simp only[NA,zU,Fo,LP];generalize d:(_|| !Zp b.S 0 1099511627776)=B
 cases B
 ·simp only[Aa2,Aat,Ach] at d;obtain⟨⟨⟨⟨⟨⟨⟨⟨⟨⟨s,g⟩,i⟩,j⟩,t⟩,u⟩,w⟩,x⟩,y⟩,l⟩,m⟩:=d;have A:=Kf g;have C:=Kf i;have D:=Kf j;have c:II b:=⟨by omega,by omega,by omega,by omega,by omega,by omega,by omega,by omega,by omega⟩
  simp only[zX];have a:∃v,D7 N b=some v:=by
   unfold D7;rcases I3 b.Al.length (D5 N b (GU N)) (GU N) (λ_=>True) (λn k F=>by
    simp only[D5];rw[E5 F];rfl) (λn k F=>by
    simp only[D5];rw[Ef F,zV,BM F];simp only[zU,MT,BK (show k<4611686018427387904 by omega)];cases Uf b.Al[k]
    ·exact .inl rfl
    ·exact .inr ⟨trivial,rfl⟩) N 0 (by omega) (Aad _) with F|⟨_,F⟩
   ·exact⟨_,F⟩
   ·exact⟨true,F⟩
  rcases I3 b.J.size (D6 N b (D7 N b)) (D7 N b) (λ_=>True) (λn k F=>by
    simp only[D6];rw[E5 F];rfl) (λn k F=>by
    simp only[D6];obtain⟨z,o⟩:=VC F;rw[Ef F,zV,o];simp only[zU,BK (show k<4611686018427387904 by omega)];cases (decide (z<32)||decide (126<z)||decide (z=34)||decide (z=92))
    ·exact .inr ⟨trivial,rfl⟩
    ·exact .inl rfl) N 0 (by omega) (Aad _) with F|⟨_,F⟩
  ·exact⟨false,F,λF=>by cases F⟩
  ·obtain⟨v,p⟩:=a;exact⟨v,F.trans p,λ_=>c⟩
 ·exact⟨false,rfl,λF=>by cases F⟩
def ZY {N:Nat}(d:1000<N) (s:ByteArray):Df (Je N s):=by
 unfold Je;cases c:(decide ((s.size:Int)<1)||decide (24<(s.size:Int))||s==ByteArray.mk #[111,117,116])
 ·simp only[Aa2,Aat] at c;obtain⟨z,a⟩:=VC (s:=s) (k:=0) (by omega);have b:VD s 0=some z:=a;simp only[zX,b,zU,Fo,LP];refine Df.cond (λ_=>Df.mk _) λ_=>?_;rcases I3 s.size (Fa N s (HU N)) (HU N) (λ_=>True) (λn k g=>by
    simp only[Fa];rw[E5 g];rfl) (λn k g=>by
    simp only[Fa];obtain⟨z,a⟩:=VC g;rw[Ef g,zV,a];simp only[zU,BK (show k<4611686018427387904 by omega)];cases (((decide (z<97)||decide (122<z))&&(decide (z<48)||decide (57<z)))&&decide (z≠95))
    ·exact .inr ⟨trivial,rfl⟩
    ·exact .inl rfl) N 1 (by omega) (by omega) with g|⟨_,g⟩
  ·exact⟨_,g⟩
  ·exact⟨_,g⟩
 ·simp only[zV,zU];exact Df.mk _
def dG {N:Nat}(d:1000<N) (m:List (AH×Bool)) (a b:ByteArray):Df (KF N m a b):=by
 have c:∀s,Df (Hv N m b s):=λs=>by
  unfold Hv;exact Df.bind (ZY d b) λ_ _=>Df.cond (λ_=>Df.mk _) λ_=>Df.mk _
 unfold KF;exact Df.cond (λ_=>c _) λ_=>c _
def Mk {N:Nat}(d:1000<N) (m:List (AH×Bool)) (c:Bool) (a b:ByteArray):∃v,Cz N m c a b=some v:=by
 unfold Cz;exact Df.bind (dG d m a b) λ_ _=>Df.mk _
def cL {N:Nat}(c:1000<N) {b:AE}(m:II b):Df (I8 N b):=by
 obtain⟨u,w,x,y,z,B,C,D⟩:=m;have d:∀{σ} (L:Nat) (f:Nat→Int→σ→Option Bool) (kj:σ→Option Bool),L≤128→(∀n (k:Nat) s,L≤k→f (n+1) (k:Int) s=kj s)→(∀n (k:Nat) s,k<L→∃s',f (n+1) (k:Int) s=f n ((k+1:Nat):Int) s')→(∀s,Df (kj s))→∀s,Df (f N 0 s):=λL f kj G g o i s=>by
  obtain⟨s',_,e⟩:=X8 L f kj (λ_=>True) g (λn k s _ H=>by obtain⟨s',h'⟩:=o n k s H;exact⟨s',trivial,h'⟩) N 0 s trivial (by omega) (Aad _);obtain⟨v,a⟩:=i s';exact⟨v,e.trans a⟩
 have j:∀s:Bool×List (AH×Bool),Df (C8 N b (EA N) N 0 s.1 s.2):=d (σ:=Bool×List (AH×Bool)) b.Af.length (λn k s=>C8 N b (EA N) n k s.1 s.2) (λs=>EA N s.1) (by omega) (λn k s H=>by simp only[C8];rw[E5 H];rfl)
  (λn k s H=>by
   simp only[C8];rw[Ef H,zV,BM H];simp only[zU];obtain⟨v,a⟩:=Mk c s.2 s.1 (ByteArray.mk #[114,111,97,100]) (b.Af[k]).J;rw[a];simp only[zU,BK (show k<4611686018427387904 by omega)];exact⟨(v.2,v.1),rfl⟩) (λs=>Df.mk _)
 have l:∀s:Bool×List (AH×Bool),Df (C9 N b (EB N b) N 0 s.1 s.2):=d (σ:=Bool×List (AH×Bool)) b.Ae.length (λn k s=>C9 N b (EB N b) n k s.1 s.2) (λs=>EB N b s.1 s.2) (by omega) (λn k s H=>by simp only[C9];rw[E5 H];rfl)
  (λn k s H=>by
   simp only[C9];rw[Ef H,zV,BM H];simp only[zU];obtain⟨v,a⟩:=Mk c s.2 s.1 (ByteArray.mk #[103,97,117,103,101]) (b.Ae[k]).J;rw[a];simp only[zU,BK (show k<4611686018427387904 by omega)];exact⟨(v.2,v.1),rfl⟩) (λs=>j s)
 have p:∀s:Bool×List (AH×Bool),Df (DH N b (EU N b) N 0 s.1 s.2):=d (σ:=Bool×List (AH×Bool)) b.Ai.length (λn k s=>DH N b (EU N b) n k s.1 s.2) (λs=>EU N b s.1 s.2) (by omega) (λn k s H=>by simp only[DH];rw[E5 H];rfl)
  (λn k s H=>by
   simp only[DH];rw[Ef H,zV,BM H];simp only[zU];obtain⟨v,a⟩:=Mk c s.2 s.1 (ByteArray.mk #[115,104,101,108,116,101,114]) (b.Ai[k]).J;rw[a];simp only[zU,BK (show k<4611686018427387904 by omega)];exact⟨(v.2,v.1),rfl⟩) (λs=>l s)
 have q:∀s:Bool×List (AH×Bool),Df (DI N b (EV N b) N 0 s.1 s.2):=d (σ:=Bool×List (AH×Bool)) b.Ab.length (λn k s=>DI N b (EV N b) n k s.1 s.2) (λs=>EV N b s.1 s.2) (by omega) (λn k s H=>by simp only[DI];rw[E5 H];rfl)
  (λn k s H=>by
   simp only[DI];rw[Ef H,zV,BM H];simp only[zU];obtain⟨v,a⟩:=Mk c s.2 s.1 (ByteArray.mk #[116,111,119,110]) (b.Ab[k]).J;rw[a];simp only[zU,BK (show k<4611686018427387904 by omega)];exact⟨(v.2,v.1),rfl⟩) (λs=>p s)
 have t:∀s:Bool×List (AH×Bool),Df (DJ N b (EW N b) N 0 s.1 s.2):=d (σ:=Bool×List (AH×Bool)) b.F.length (λn k s=>DJ N b (EW N b) n k s.1 s.2) (λs=>EW N b s.1 s.2) (by omega) (λn k s H=>by simp only[DJ];rw[E5 H];rfl)
  (λn k s H=>by
   simp only[DJ];rw[Ef H,zV,BM H];simp only[zU];obtain⟨v,a⟩:=Mk c s.2 s.1 (ByteArray.mk #[108,105,110,107]) (b.F[k]).J;rw[a];simp only[zU,BK (show k<4611686018427387904 by omega)];exact⟨(v.2,v.1),rfl⟩) (λs=>q s)
 have i:∀s:Bool×List (AH×Bool),Df (DK N b (EY N b) N 0 s.1 s.2):=d (σ:=Bool×List (AH×Bool)) b.A.length (λn k s=>DK N b (EY N b) n k s.1 s.2) (λs=>EY N b s.1 s.2) (by omega) (λn k s H=>by simp only[DK];rw[E5 H];rfl)
  (λn k s H=>by
   simp only[DK];rw[Ef H,zV,BM H];simp only[zU];obtain⟨v,a⟩:=Mk c s.2 s.1 (ByteArray.mk #[112,108,97,99,101]) (b.A[k]).J;rw[a];simp only[zU,BK (show k<4611686018427387904 by omega)];exact⟨(v.2,v.1),rfl⟩) (λs=>t s)
 have g:∀s:Bool×List (AH×Bool),Df (DL N b (EZ N b) N 0 s.1 s.2):=d (σ:=Bool×List (AH×Bool)) b.I.length (λn k s=>DL N b (EZ N b) n k s.1 s.2) (λs=>EZ N b s.1 s.2) (by omega) (λn k s H=>by simp only[DL];rw[E5 H];rfl)
  (λn k s H=>by
   simp only[DL];rw[Ef H,zV,BM H];simp only[zU];obtain⟨v,a⟩:=Mk c s.2 s.1 (ByteArray.mk #[111,119,110,101,114]) (b.I[k]);rw[a];simp only[zU,BK (show k<4611686018427387904 by omega)];exact⟨(v.2,v.1),rfl⟩) (λs=>i s)
 exact g (true,[])
end Go.Proofs.YtedgiljmffngoaaGreat
