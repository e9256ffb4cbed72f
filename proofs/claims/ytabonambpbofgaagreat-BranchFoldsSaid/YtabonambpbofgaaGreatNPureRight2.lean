import Derived.Test.YtabonambpbofgaaGreatNPureDiv
namespace Go.Proofs.YtabonambpbofgaaGreat
set_option linter.all false
open Go.RowKit
def TV {Y b d q r:Nat}(g:q*(Y/4294967296)+r=b):q*(Y%4294967296)≤4294967296*r+d↔q*Y≤b*4294967296+d:=by
 have e:q*Y=4294967296*(q*(Y/4294967296))+q*(Y%4294967296):=by
  conv=>lhs;rw[←Afp Y 4294967296,Nat.mul_add,Nat.mul_left_comm]
 rw[e,←g];generalize q*(Y/4294967296)=a
 generalize q*(Y%4294967296)=c
 omega
def dS {Y a b q:Nat}(d:a<Y) (g:b<4294967296) (c:4294967296≤q):a*4294967296+b<q*Y:=by
 have i:4294967296*Y≤q*Y:=Ady _ c;omega
def dT {Y a b q r:Nat}(c:q*(Y/4294967296)+r=a) (d:1≤q) (g:q≤4294967297) (i:4294967296≤r+Y/4294967296):(q-1)*Y≤a*4294967296+b:=by
 have e:(q-1)*(Y/4294967296)+(r+Y/4294967296)=a:=by
  obtain⟨p,rfl⟩:∃p,q=p+1:=⟨q-1,by omega⟩
  rw[Adz] at c;simp only[Nat.add_sub_cancel];omega
 refine(TV e).1 ?_;have j:(q-1)*(Y%4294967296)≤4294967296*(Y%4294967296):=Ady _ (by omega);have k:Y%4294967296<4294967296:=Aeg _ (by omega);omega
def jV {Y U q:Nat}(c:0<Y) (a:q*Y≤U) (b:U<(q+1)*Y):U/Y=q:=Nat.div_eq_of_lt_le a b
def WZ {Y a:Nat}(g:9223372036854775808≤Y) (l:Y<18446744073709551616) (m:a<Y) (d:Nat) (n:d<4294967296):a/(Y/4294967296)≤4294967297∧a/(Y/4294967296)*(Y/4294967296)+a%(Y/4294967296)=a∧a*4294967296+d<(a/(Y/4294967296)+1)*Y∧a%(Y/4294967296)<4294967296:=by
 have i:2147483648≤Y/4294967296:=by omega
 have j:Y/4294967296<4294967296:=by omega
 have b:0<Y/4294967296:=by omega
 have o:a%(Y/4294967296)<Y/4294967296:=Aeg _ b;have c:a/(Y/4294967296)*(Y/4294967296)+a%(Y/4294967296)=a:=by rw[Ae1];exact Afp _ _
 refine⟨?_,c,?_,by omega⟩
 ·refine Aev ((Af2 b).2 ?_);omega
 ·have k:(a/(Y/4294967296)+1)*(4294967296*(Y/4294967296))≤(a/(Y/4294967296)+1)*Y:=Nat.mul_le_mul_left _ (by omega);rw[Nat.mul_left_comm,Adz,Nat.one_mul] at k;omega
def Uf (N:Nat) (p y:Int) (g i:Nat) (Y a b:Nat) (B:Ec .u64 y g=(Y:Int)) (C:Ec .u64 p i=(a:Int)) (s:9223372036854775808≤Y) (d:Y<18446744073709551616) (k:a<18446744073709551616) (D:b<Y) (kj:Int→Option (Int×Int)):
  ∀(n q r:Nat),q<n→q≤4294967297→r<4294967296→q*(Y/4294967296)+r=b→b*4294967296+a/4294967296<(q+1)*Y→
  D3 N p y g i kj n (q:Int) (r:Int)=kj (((b*4294967296+a/4294967296)/Y:Nat):Int)
 |0,q,r,U,_,_,_,_=>by omega
 |n+1,q,r,K,F,M,t,G=>by
  have H:Y/4294967296<4294967296:=by omega
  have l:Y%4294967296<4294967296:=Aeg _ (by omega);have u:a/4294967296<4294967296:=by omega
  simp only[D3];rw[B,C,O4,O4,TR Y d,Q4,show(4294967296:Int)=((4294967296:Nat):Int) from rfl,Q4,Fx _ (show 4294967296*r<18446744073709551616 by omega),Um,Fx _ (show 4294967296*r+a/4294967296<18446744073709551616 by omega),Um,Fx (r+Y/4294967296) (by omega)];cases o:(decide (((4294967296:Nat):Int)≤(q:Int))||decide (((4294967296*r+a/4294967296:Nat):Int)<IntKind.u64.wrap ((q*(Y%4294967296):Nat):Int)))
  ·simp only[Ac9,Ac2] at o;obtain⟨Q,I⟩:=o;have c:q<4294967296:=by omega
   have v:q*(Y%4294967296)<18446744073709551616:=Afq (Afd (Aev c) (Aev l)) (by decide);rw[Fx _ v] at I;rw[Acd,jV (by omega) ((TV t).1 (by omega)) G]
  ·rw[Acc];have j:b*4294967296+a/4294967296<q*Y:=by
    rcases Acy q 4294967296 with c|c
    ·have v:q*(Y%4294967296)<18446744073709551616:=Afq (Afd (Aev c) (Aev l)) (by decide);rw[Fx _ v] at o;simp only[Ac5,Ac1] at o;refine Nat.lt_of_not_le λw=>?_;have:=(TV t).2 w;omega
    ·exact dS D u c
   have x:1≤q:=by
    rcases Af3 q with e|e
    ·rw[e,Nat.zero_mul] at j;omega
    ·exact e
   have z:IntKind.u64.wrap ((q:Int)-1)=((q-1:Nat):Int):=by rw[show (q:Int)-1=((q-1:Nat):Int) by omega];exact Fx _ (by omega)
   rw[z];have A:q-1+1=q:=by omega
   cases m:decide (((4294967296:Nat):Int)≤((r+Y/4294967296:Nat):Int))
   ·rw[Acd];have J:(q-1)*(Y/4294967296)+(r+Y/4294967296)=b:=by
     have:q*(Y/4294967296)=(q-1)*(Y/4294967296)+Y/4294967296:=by
      conv=>lhs;rw[←A,Adz,Nat.one_mul]
     omega
    simp only[Ac2] at m;exact Uf N p y g i Y a b B C s d k D kj n (q-1) (r+Y/4294967296) (by omega) (by omega) (by omega) J (by rw[A];exact j)
   ·rw[Acc];simp only[Ac1] at m;rw[jV (by omega) (dT t x F (by omega)) (by rw[A];exact j)]
def Ue (N:Nat) (p y:Int) (i j:Nat) (Y a b:Nat) (B:Ec .u64 y i=(Y:Int)) (C:Ec .u64 p j=(a:Int)) (s:9223372036854775808≤Y) (d:Y<18446744073709551616) (g:a<18446744073709551616) (D:b<Y) (kj:Int→Option (Int×Int)):
  ∀(n q r:Nat),q<n→q≤4294967297→r<4294967296→q*(Y/4294967296)+r=b→b*4294967296+a%4294967296<(q+1)*Y→
  EO N p y i j kj n (r:Int) (q:Int)=kj (((b*4294967296+a%4294967296)/Y:Nat):Int)
 |0,q,r,U,_,_,_,_=>by omega
 |n+1,q,r,K,F,M,t,G=>by
  have H:Y/4294967296<4294967296:=by omega
  have l:Y%4294967296<4294967296:=Aeg _ (by omega);have u:a%4294967296<4294967296:=Aeg _ (by omega);simp only[EO];rw[B,C,O4,TR a g,TR Y d,Q4,show(4294967296:Int)=((4294967296:Nat):Int) from rfl,Q4,Fx _ (show 4294967296*r<18446744073709551616 by omega),Um,Fx _ (show 4294967296*r+a%4294967296<18446744073709551616 by omega),Um,Fx (r+Y/4294967296) (by omega)];cases o:(decide (((4294967296:Nat):Int)≤(q:Int))||decide (((4294967296*r+a%4294967296:Nat):Int)<IntKind.u64.wrap ((q*(Y%4294967296):Nat):Int)))
  ·simp only[Ac9,Ac2] at o;obtain⟨Q,I⟩:=o;have c:q<4294967296:=by omega
   have v:q*(Y%4294967296)<18446744073709551616:=Afq (Afd (Aev c) (Aev l)) (by decide);rw[Fx _ v] at I;rw[Acd,jV (by omega) ((TV t).1 (by omega)) G]
  ·rw[Acc];have k:b*4294967296+a%4294967296<q*Y:=by
    rcases Acy q 4294967296 with c|c
    ·have v:q*(Y%4294967296)<18446744073709551616:=Afq (Afd (Aev c) (Aev l)) (by decide);rw[Fx _ v] at o;simp only[Ac5,Ac1] at o;refine Nat.lt_of_not_le λw=>?_;have:=(TV t).2 w;omega
    ·exact dS D u c
   have x:1≤q:=by
    rcases Af3 q with e|e
    ·rw[e,Nat.zero_mul] at k;omega
    ·exact e
   have z:IntKind.u64.wrap ((q:Int)-1)=((q-1:Nat):Int):=by rw[show (q:Int)-1=((q-1:Nat):Int) by omega];exact Fx _ (by omega)
   rw[z];have A:q-1+1=q:=by omega
   cases m:decide (((4294967296:Nat):Int)≤((r+Y/4294967296:Nat):Int))
   ·rw[Acd];have J:(q-1)*(Y/4294967296)+(r+Y/4294967296)=b:=by
     have:q*(Y/4294967296)=(q-1)*(Y/4294967296)+Y/4294967296:=by
      conv=>lhs;rw[←A,Adz,Nat.one_mul]
     omega
    simp only[Ac2] at m;exact Ue N p y i j Y a b B C s d g D kj n (q-1) (r+Y/4294967296) (by omega) (by omega) (by omega) J (by rw[A];exact k)
   ·rw[Acc];simp only[Ac1] at m;rw[jV (by omega) (dT t x F (by omega)) (by rw[A];exact k)]
def qX (a b:Nat) (d:b≠0) (c:a<18446744073709551616):ST .u64 (a:Int) (b:Int)=some ((a/b:Nat):Int):=by
 unfold ST;rw[Ace (by omega)];have e:(a:Int).tdiv (b:Int)=((a/b:Nat):Int):=rfl;have:a/b≤a:=Nat.div_le_self _ _;rw[e,Fx _ (by omega)]
def Aax (a b:Nat) (c:b≠0):Uz (a:Int) (b:Int)=some ((a%b:Nat):Int):=by
 unfold Uz;rw[Ace (by omega)];rfl
def qR (a s:Nat) (d:s≤64):Ec .u64 (a:Int) s=((a*2^s%18446744073709551616:Nat):Int):=by
 unfold Ec;have b:min s IntKind.u64.bits=s:=by simp [IntKind.bits];omega
 have c:((a:Int)*2^s)=((a*2^s:Nat):Int):=by simp
 rw[b,c];exact mV _
def orN (a b:Nat) (g:a<18446744073709551616) (i:b<18446744073709551616):IU .or .u64 (a:Int) (b:Int)=((a|||b:Nat):Int):=by
 have c:(BitVec.ofInt 64 (a:Int)).toNat=a:=by rw[BitVec.ofInt_natCast,BitVec.toNat_ofNat];exact Ae8 (by omega)
 have d:(BitVec.ofInt 64 (b:Int)).toNat=b:=by rw[BitVec.ofInt_natCast,BitVec.toNat_ofNat];exact Ae8 (by omega)
 have j:a|||b<2^64:=Nat.or_lt_two_pow (by omega) (by omega)
 show IntKind.u64.wrap (((BitVec.ofInt 64 (a:Int))|||(BitVec.ofInt 64 (b:Int))).toNat:Int)=_
 rw[BitVec.toNat_or,c,d,Fx _ (by omega)]
def Yp (a b:Nat):a=a/b*b+a%b:=by rw[Ae1];exact(Afp a b).symm
def bJ {Y A B u:Nat}(a:0<Y):(A*B+u)/Y=A/Y*B+(A%Y*B+u)/Y∧(A*B+u)%Y=(A%Y*B+u)%Y:=by
 have b:=Afp A Y;have e:A*B+u=Y*(A/Y*B)+(A%Y*B+u):=by
  conv=>lhs;rw[←b,Adz,Nat.mul_assoc,Nat.add_assoc]
 rw[e];exact⟨by rw[Nat.mul_add_div a],by rw[Nat.mul_add_mod]⟩
def OD {a b q Y R:Nat}(g:a=q*Y+R) (c:R<18446744073709551616) (d:b=a%18446744073709551616):IntKind.u64.wrap ((b:Int)-IntKind.u64.wrap ((q*Y:Nat):Int))=(R:Int):=by
 rw[Ns,Ns];generalize q*Y=t at g
 omega
def Zw {N:Nat}(X:18446744073709551616<N) (w l y:Int) (s:Nat) (Z:s≤63) (m n:Nat) (Y c g k d:Nat) (p:Ec .u64 y s=(Y:Int)) (q:Ec .u64 l s=(c:Int)) (x:IU .or .u64 (Ec .u64 w m) (Fu .u64 l n)=(g:Int))
  (o:9223372036854775808≤Y) (i:Y<18446744073709551616) (j:c<18446744073709551616) (hu:g<Y) (D:(g*4294967296+c/4294967296)=k*Y+d) (A:d<Y) (F:k<4294967296):
  EQ N w l y (s:Int) s m n s (k:Int)=some (((k*4294967296+(d*4294967296+c%4294967296)/Y:Nat):Int),(((d*4294967296+c%4294967296)%Y/2^s:Nat):Int)):=by
 have G:0<Y/4294967296:=by omega
 have H:Y/4294967296<4294967296:=by omega
 have u:c%4294967296<4294967296:=Aeg _ (by omega);have B:IntKind.u64.wrap (IntKind.u64.wrap (IntKind.u64.wrap ((g:Int)*4294967296)+Fu .u64 (Ec .u64 l s) 32)-IntKind.u64.wrap ((k:Int)*(Y:Int)))=(d:Int):=by
  rw[q,O4,Q4];refine(Ach (λz=>IntKind.u64.wrap (z-_)) ?_).trans (OD (b:=(g*4294967296+c/4294967296)%18446744073709551616) D (by omega) rfl);rw[Ns,Ns];omega
 obtain⟨I,C,J,K⟩:=WZ o i A (c%4294967296) u;unfold EQ;rw[x,p,B,O4,qX _ _ (by omega) (by omega)];simp only[Acb];have M:IntKind.u64.wrap ((d:Int)-IntKind.u64.wrap (((d/(Y/4294967296):Nat):Int)*((Y/4294967296:Nat):Int)))=((d%(Y/4294967296):Nat):Int):=by
  rw[Q4];exact OD (a:=d) C.symm (by omega) (by omega)
 rw[M,Ue N l y s s Y c d p q o i j A _ N _ _ (by omega) I K C J];unfold GC;have Q:Qa (IntKind.u64.wrap (s:Int))=some s:=by
  rw[Fx s (by omega)];unfold Qa;rw[Ace (by omega)];simp
 rw[x,p,Q,B,q,TR c j];simp only[Acb];have hd:=Afp (d*4294967296+c%4294967296) Y;have v:(d*4294967296+c%4294967296)/Y<4294967296:=(Af2 (by omega)).2 (by omega);have U:(d*4294967296+c%4294967296)%Y<Y:=Aeg _ (by omega);have V:IntKind.u64.wrap (IntKind.u64.wrap (IntKind.u64.wrap ((d:Int)*4294967296)+((c%4294967296:Nat):Int))-IntKind.u64.wrap (((((d*4294967296+c%4294967296)/Y:Nat)):Int)*(Y:Int)))=(((d*4294967296+c%4294967296)%Y:Nat):Int):=by
  rw[Q4];refine(Ach (λz=>IntKind.u64.wrap (z-_)) ?_).trans (OD (a:=d*4294967296+c%4294967296) (b:=(d*4294967296+c%4294967296)%18446744073709551616) (Yp _ _) (by omega) rfl);rw[Ns,Ns];omega
 have W:IntKind.u64.wrap (IntKind.u64.wrap ((k:Int)*4294967296)+((((d*4294967296+c%4294967296)/Y:Nat)):Int))=((k*4294967296+(d*4294967296+c%4294967296)/Y:Nat):Int):=by
  rw[Ns,Ns];generalize (d*4294967296+c%4294967296)/Y=t at v
  omega
 rw[V,W,XJ _ s (by omega)]
def jY (a u:Nat):(a*4294967296+u/4294967296)*4294967296+u%4294967296=a*18446744073709551616+u:=by omega
def fI {N:Nat}(D:18446744073709551616<N) (o m y:Int) (s:Nat) (F:s≤63) (g i:Nat) (Y c b:Nat) (p:Ec .u64 y s=(Y:Int)) (w:Ec .u64 m s=(c:Int)) (x:IU .or .u64 (Ec .u64 o g) (Fu .u64 m i)=(b:Int))
  (l:9223372036854775808≤Y) (j:Y<18446744073709551616) (k:c<18446744073709551616) (q:b<Y):
  ((ST .u64 (IU .or .u64 (Ec .u64 o g) (Fu .u64 m i)) (Fu .u64 (Ec .u64 y s) 32)).bind λn=>
   D3 N m y s s (EQ N o m y (s:Int) s g i s) N n (IntKind.wrap .u64 ((IU .or .u64 (Ec .u64 o g) (Fu .u64 m i))-(IntKind.wrap .u64 (n*(Fu .u64 (Ec .u64 y s) 32))))))=
  some ((((b*18446744073709551616+c)/Y:Nat):Int),(((b*18446744073709551616+c)%Y/2^s:Nat):Int)):=by
 have d:0<Y:=by omega
 have t:c/4294967296<4294967296:=by omega
 obtain⟨G,z,H,I⟩:=WZ l j q (c/4294967296) t;obtain⟨C,t2⟩:=bJ (Y:=Y) (A:=b*4294967296+c/4294967296) (B:=4294967296) (u:=c%4294967296) d;rw[jY] at C t2;rw[C,t2,x,p,O4,qX _ _ (by omega) (by omega)];simp only[Acb];have J:IntKind.u64.wrap ((b:Int)-IntKind.u64.wrap (((b/(Y/4294967296):Nat):Int)*((Y/4294967296:Nat):Int)))=((b%(Y/4294967296):Nat):Int):=by
  rw[Q4];exact OD (a:=b) z.symm (by omega) (by omega)
 have v:(b*4294967296+c/4294967296)/Y<4294967296:=(Af2 d).2 (by omega);rw[J,Uf N _ _ s s Y c b p w l j k q _ N _ _ (by omega) G I z H];exact Zw D _ _ _ s F g i Y c b _ _ p w x l j k q (Yp _ _) (Aeg _ d) v
def cL {g l s M:Nat}(b:M=2^64) (d:s≤63):(g*2^s+l/2^(64-s))*M+l*2^s%M=(g*M+l)*2^s:=by
 have e:(2:Nat)^64=2^(64-s)*2^s:=by rw[←Nat.pow_add];congr 1;omega
 have c:l*2^s/M=l/2^(64-s):=by
  rw[b,e,Nat.mul_div_mul_right _ _ (Afo s)]
 have a:=Afp (l*2^s) M;rw[c] at a;rw[Adz,Adz,Nat.mul_right_comm g,Nat.add_assoc,Ae1 (l/2^(64-s)) M];exact Ach _ a
def fL {N:Nat}(o:18446744073709551616<N) (B l y:Nat) (c:l<18446744073709551616) (p:y<18446744073709551616) (k:B<y):
  Gi N (B:Int) (l:Int) (y:Int)=some ((((B*18446744073709551616+l)/y:Nat):Int),(((B*18446744073709551616+l)%y:Nat):Int)):=by
 unfold Gi;rw[show decide ((y:Int)=0)=false by simp;omega,show decide ((y:Int)≤(B:Int))=false by simp;omega,Acd,Acd];rcases Af3 B with e|hp
 ·subst e;rw[show decide (((0:Nat):Int)=0)=true by simp,Acc,qX _ _ (by omega) c,Aax _ _ (by omega),Nat.zero_mul,Adj];rfl
 ·rw[show decide ((B:Int)=0)=false by simp;omega,Acd];obtain⟨s,q,m,u,d⟩:=nT N (show 0<y by omega) p;have n:∀t:Nat,t≤64→Qa (IntKind.u64.wrap (t:Int))=some t:=λt A=>by
   rw[Fx t (by omega)];unfold Qa;rw[Ace (by omega)];simp
  have g:(64:Int)-IntKind.u64.wrap (s:Int)=((64-s:Nat):Int):=by rw[Fx s (by omega)];omega
  rw[q,Acb,g,n s (by omega),n (64-s) (by omega),Acb,Acb,Acb,Acb];have a:B*2^s<18446744073709551616:=Afq (Ady _ (Nat.le_of_lt k)) d;have b:l/2^(64-s)<2^s:=by
   refine(Af2 (Afo _)).2 ?_;rw[←Nat.pow_add,show s+(64-s)=64 by omega];exact c
  have i:l/2^(64-s)<18446744073709551616:=Afq (Nat.div_le_self _ _) c;have j:B*2^s|||l/2^(64-s)=B*2^s+l/2^(64-s):=by
   rw[Ae1 B];exact(Nat.two_pow_add_eq_or_of_lt b B).symm
  have v:Ec .u64 (y:Int) s=((y*2^s:Nat):Int):=by rw[qR _ _ (by omega),Ae8 d]
  have w:Ec .u64 (l:Int) s=((l*2^s%18446744073709551616:Nat):Int):=qR _ _ (by omega);have x:IU .or .u64 (Ec .u64 (B:Int) s) (Fu .u64 (l:Int) (64-s))=((B*2^s+l/2^(64-s):Nat):Int):=by
   rw[qR _ _ (by omega),XJ _ _ (by omega),Ae8 a,orN _ _ a i,j]
  have z:B*2^s+l/2^(64-s)<y*2^s:=by
   have:(B+1)*2^s≤y*2^s:=Ady _ k;rw[Adz,Nat.one_mul] at this;exact Acv (Nat.add_lt_add_left b _) this
  have hd:=fI o (B:Int) (l:Int) (y:Int) s m s (64-s) _ _ _ v w x u d (Aeg _ (by omega)) z;rw[cL (M:=18446744073709551616) rfl m,Nat.mul_div_mul_right _ _ (Afo s),Nat.mul_mod_mul_right,Nat.mul_div_cancel _ (Afo s)] at hd;exact hd
def vM (a n d:Int):Int×Int×Bool:=if (0≤a∧a≤1125899906842624)∧(0≤n∧n≤1125899906842624)∧(1≤d∧d≤1125899906842624)∧a*n/d≤1125899906842624 then (a*n/d,a*n%d,true) else (0,0,false)
def qS {t d:Nat}(hd:0<d) (a:d≤t/18446744073709551616):18446744073709551616≤t/d:=by
 refine(Nat.le_div_iff_mul_le hd).2 ?_;omega
def O5 {N:Nat}(t:18446744073709551616<N) (a n d:Int):Gt N a n d=some (vM a n d):=by
 unfold Gt vM;cases m:(((((decide (a<0)||decide (1125899906842624<a))||decide (n<0))||decide (1125899906842624<n))||decide (d<1))||decide (1125899906842624<d))
 ·simp only[Ac9,Ac2] at m;obtain⟨⟨⟨⟨⟨y,z⟩,A⟩,B⟩,C⟩,D⟩:=m;obtain⟨b,rfl⟩:∃k:Nat,a=k:=⟨a.toNat,by omega⟩
  obtain⟨c,rfl⟩:∃k:Nat,n=k:=⟨n.toNat,by omega⟩
  obtain⟨g,rfl⟩:∃k:Nat,d=k:=⟨d.toNat,by omega⟩
  rw[Acd,Fx b (by omega),Fx c (by omega),Fx g (by omega),TQ N b c (by omega) (by omega)];simp only[Acb];have u:(b:Int)*(c:Int)/(g:Int)=((b*c/g:Nat):Int):=by rw[Int.natCast_ediv,Int.natCast_mul]
  have v:(b:Int)*(c:Int)%(g:Int)=((b*c%g:Nat):Int):=by rw[Int.natCast_emod,Int.natCast_mul]
  rw[u,v];have o:b*c/18446744073709551616*18446744073709551616+b*c%18446744073709551616=b*c:=(Yp _ _).symm;have j:0<g:=by omega
  by_cases l:g≤b*c/18446744073709551616
  ·rw[show decide ((g:Int)≤((b*c/18446744073709551616:Nat):Int))=true from Acx (Int.ofNat_le.2 l),Acc,Ace];intro F;have p:=F.2.2.2;have w:=qS j l;generalize b*c/g=q at p w
   omega
  ·have s:¬(g:Int)≤((b*c/18446744073709551616:Nat):Int):=λF=>l (Int.ofNat_le.1 F);rw[Ack s,Acd,fL t _ _ _ (Aeg _ (by omega)) (by omega) (Nat.lt_of_not_le l),o];simp only[Acb];have x:b*c%g<g:=Aeg _ j;generalize b*c/g=q
   generalize b*c%g=r at x
   by_cases p:q≤1125899906842624
   ·have i:¬(1125899906842624:Int)<(q:Int):=by omega
    rw[Ack i,Acd,Acf ⟨by omega,by omega,by omega,by omega⟩,EM (by omega) (by omega),EM (by omega) (by omega)]
   ·have i:(1125899906842624:Int)<(q:Int):=by omega
    rw[Acx i,Acc,Ace (λF=>p (by have:=F.2.2.2;omega))]
 ·rw[Acc,Ace];intro F;simp only[Ac5,Ac1] at m;omega
def L3 (b x:Bool):cond b true x=(b||x):=by cases b<;>rfl
def QZ (b x:Bool):cond b x false=(b&&x):=by cases b<;>rfl
def BA {k:Nat}(a:k<4611686018427387904):BT ((k:Int)+1)=((k+1:Nat):Int):=by rw[EM (by omega) (by omega)];rfl
def FA {k L:Nat}(a:k<L):decide ((k:Int)<(L:Int))=true:=by simp;omega
def Fj {k L:Nat}(a:L≤k):decide ((k:Int)<(L:Int))=false:=by simp;omega
def J1 (L:Nat) (f:Nat→Int→Option Bool) (kj:Option Bool) (P:Nat→Prop) (a:∀n (k:Nat),L≤k→f (n+1) (k:Int)=kj) (b:∀n (k:Nat),k<L→f (n+1) (k:Int)=some false∨(P k∧f (n+1) (k:Int)=f n ((k+1:Nat):Int))):
  ∀n (k:Nat),L<n+k→k≤L→f n (k:Int)=some false∨((∀i,k≤i→i<L→P i)∧f n (k:Int)=kj)
 |0,k,o,l=>by omega
 |n+1,k,o,l=>by
  rcases Acy k L with d|d
  ·rcases b n k d with g|⟨g,h2⟩
   ·exact .inl g
   ·rcases J1 L f kj P a b n (k+1) (by omega) (by omega) with j|⟨j,h4⟩
    ·exact .inl (h2.trans j)
    ·refine .inr ⟨λi m c=>?_,h2.trans h4⟩;by_cases e:i=k
     ·subst e;exact g
     ·exact j i (by omega) c
  ·exact .inr ⟨λi m c=>by omega,a n k d⟩
def YS {σ q:Type}(L:Nat) (f:Nat→Int→σ→Option q) (kj:σ→Option q) (I:σ→Prop) (a:∀n (k:Nat) s,L≤k→f (n+1) (k:Int) s=kj s) (b:∀n (k:Nat) s,I s→k<L→∃s',I s'∧f (n+1) (k:Int) s=f n ((k+1:Nat):Int) s'):
  ∀n (k:Nat) s,I s→L<n+k→k≤L→∃s',I s'∧f n (k:Int) s=kj s'
 |0,k,s,_,t,g=>by omega
 |n+1,k,s,d,t,g=>by
  rcases Acy k L with c|c
  ·obtain⟨i,j,l⟩:=b n k s d c;obtain⟨m,o,p⟩:=YS L f kj I a b n (k+1) i j (by omega) (by omega);exact⟨m,o,l.trans p⟩
  ·exact⟨s,d,a n k s c⟩
def Tv (n:Int):Bool:=decide (0≤n)&&decide (n≤1125899906842624)
def LP {n:Int}(a:Tv n=true):J0 n:=by simpa [Tv,J0] using a
def Mi (N:Nat) (n:Int):C2 N n=some (Tv n):=rfl
def dX (n a b:Int):Bool:=decide (a≤n)&&decide (n≤b)
def N1 (N:Nat) (n a b:Int):DE N n a b=some (dX n a b):=rfl
def LN {n a b:Int}(c:dX n a b=true):a≤n∧n≤b:=by simpa [dX] using c
def UY (a b:Int):Bool:=(Tv a&&Tv b)&&(decide (b≠0)||decide (a=0))
def Q9 (N:Nat) (a b:Int):Hv N a b=some (UY a b):=by
 simp only[Hv,Mi,Acb,Gw,QZ,UY]
def Pq {a b:Int}(c:UY a b=true):J0 a∧J0 b:=by
 simp only[UY,Acj] at c;exact⟨LP c.1.1,LP c.1.2⟩
def Q7 (N:Nat) (n:Int) {L:Nat}(a:L<4611686018427387904):GF N n (L:Int)=some (dX n 0 ((L:Int)-1)):=by
 simp only[GF,N1,Acb];rw[EM (by omega) (by omega)]
def V6 (L:Nat) (fr to:Int):Bool:=decide (to= -1)||(dX to 0 ((L:Int)-1)&&decide (to≠fr))
def Ra (N:Nat) (b:AF) (fr to:Int) (a:b.A.length<4611686018427387904):Ju N b fr to=some (V6 b.A.length fr to):=by
 simp only[Ju,Q7 N _ a,Acb,Gw,L3,V6]
def YA {L:Nat}{fr to:Int}(a:V6 L fr to=true):to= -1∨(0≤to∧to<L):=by
 simp only[V6,Ac5,Acj,Ac1] at a;rcases a with a|a
 ·exact .inl a
 ·have:=LN a.1;exact .inr ⟨this.1,by omega⟩
structure II (b:AF):Prop where
 own:b.J.length≤16
 cells:0≤b.K∧b.K≤64
 pl:b.A.length≤64
 li:b.C.length≤96
 to:b.Af.length≤40
 ga:b.Ah.length≤128
 ro:b.Ai.length≤128
 sh:b.Ak.length≤40
 own1:1≤b.J.length
def VP {s:ByteArray}{k:Nat}(a:k<s.size):∃z,Ys s (k:Int)=some z:=by
 unfold Ys;rw[Ace (by omega)];simp only[Adm];exact⟨_,by rw[getElem?_pos s k a];rfl⟩
def jW {N:Nat}(q:1000<N) (b:AF):∃v,IB N b=some v∧(v=true→II b):=by
 unfold IB;simp only[N1,Acb,Gw,L3];generalize d:(_|| !dX b.L 0 1099511627776)=B
 cases B
 ·simp only[Ac9,Ac2,Aeu] at d;obtain⟨⟨⟨⟨⟨⟨⟨⟨⟨⟨s,g⟩,i⟩,j⟩,t⟩,u⟩,w⟩,x⟩,y⟩,l⟩,m⟩:=d;have A:=LN g;have C:=LN i;have D:=LN j;have c:II b:=⟨by omega,by omega,by omega,by omega,by omega,by omega,by omega,by omega,by omega⟩
  simp only[Acd];have a:∃v,E8 N b=some v:=by
   unfold E8;rcases J1 b.Aj.length (E6 N b (HL N)) (HL N) (λ_=>True) (λn k G=>by
    simp only[E6];rw[Fj G];rfl) (λn k G=>by
    simp only[E6];rw[FA G,Acc,BG G];simp only[Acb,Mi,BA (show k<4611686018427387904 by omega)];cases Tv b.Aj[k]
    ·exact .inl rfl
    ·exact .inr ⟨trivial,rfl⟩) N 0 (by omega) (Aci _) with G|⟨_,G⟩
   ·exact⟨_,G⟩
   ·exact⟨true,G⟩
  rcases J1 b.F.size (E7 N b (E8 N b)) (E8 N b) (λ_=>True) (λn k G=>by
    simp only[E7];rw[Fj G];rfl) (λn k G=>by
    simp only[E7];obtain⟨z,o⟩:=VP G;rw[FA G,Acc,o];simp only[Acb,BA (show k<4611686018427387904 by omega)];cases (decide (z<32)||decide (126<z)||decide (z=34)||decide (z=92))
    ·exact .inr ⟨trivial,rfl⟩
    ·exact .inl rfl) N 0 (by omega) (Aci _) with G|⟨_,G⟩
  ·exact⟨false,G,λG=>by cases G⟩
  ·obtain⟨v,p⟩:=a;exact⟨v,G.trans p,λ_=>c⟩
 ·exact⟨false,rfl,λG=>by cases G⟩
def Zr {N:Nat}(d:1000<N) (s:ByteArray):Df (KT N s):=by
 unfold KT;cases c:(decide ((s.size:Int)<1)||decide (24<(s.size:Int))||s==ByteArray.mk #[111,117,116])
 ·simp only[Ac9,Ac2] at c;obtain⟨z,a⟩:=VP (s:=s) (k:=0) (by omega);have b:Ys s 0=some z:=a;simp only[Acd,b,Acb,Gw,L3];refine Df.cond (λ_=>Df.mk _) λ_=>?_;rcases J1 s.size (Gj N s (IC N)) (IC N) (λ_=>True) (λn k g=>by
    simp only[Gj];rw[Fj g];rfl) (λn k g=>by
    simp only[Gj];obtain⟨z,a⟩:=VP g;rw[FA g,Acc,a];simp only[Acb,BA (show k<4611686018427387904 by omega)];cases (((decide (z<97)||decide (122<z))&&(decide (z<48)||decide (57<z)))&&decide (z≠95))
    ·exact .inr ⟨trivial,rfl⟩
    ·exact .inl rfl) N 1 (by omega) (by omega) with g|⟨_,g⟩
  ·exact⟨_,g⟩
  ·exact⟨_,g⟩
 ·simp only[Acc,Acb];exact Df.mk _
def eI {N:Nat}(d:1000<N) (m:List (AG×Bool)) (a b:ByteArray):Df (Kq N m a b):=by
 have c:∀s,Df (Ii N m b s):=λs=>by
  unfold Ii;exact Df.bind (Zr d b) λ_ _=>Df.cond (λ_=>Df.mk _) λ_=>Df.mk _
 unfold Kq;exact Df.cond (λ_=>c _) λ_=>c _
def NM {N:Nat}(d:1000<N) (m:List (AG×Bool)) (c:Bool) (a b:ByteArray):∃v,Di N m c a b=some v:=by
 unfold Di;exact Df.bind (eI d m a b) λ_ _=>Df.mk _
def dF {N:Nat}(c:1000<N) {b:AF}(m:II b):Df (J4 N b):=by
 obtain⟨u,w,x,y,z,B,D,G⟩:=m;have d:∀{σ} (L:Nat) (f:Nat→Int→σ→Option Bool) (kj:σ→Option Bool),L≤128→(∀n (k:Nat) s,L≤k→f (n+1) (k:Int) s=kj s)→(∀n (k:Nat) s,k<L→∃s',f (n+1) (k:Int) s=f n ((k+1:Nat):Int) s')→(∀s,Df (kj s))→∀s,Df (f N 0 s):=λL f kj H g o i s=>by
  obtain⟨s',_,e⟩:=YS L f kj (λ_=>True) g (λn k s _ I=>by obtain⟨s',h'⟩:=o n k s I;exact⟨s',trivial,h'⟩) N 0 s trivial (by omega) (Aci _);obtain⟨v,a⟩:=i s';exact⟨v,e.trans a⟩
 have j:∀s:Bool×List (AG×Bool),Df (Dy N b (FE N) N 0 s.1 s.2):=d (σ:=Bool×List (AG×Bool)) b.Ai.length (λn k s=>Dy N b (FE N) n k s.1 s.2) (λs=>FE N s.1) (by omega) (λn k s I=>by simp only[Dy];rw[Fj I];rfl)
  (λn k s I=>by
   simp only[Dy];rw[FA I,Acc,BG I];simp only[Acb];obtain⟨v,a⟩:=NM c s.2 s.1 (ByteArray.mk #[114,111,97,100]) (b.Ai[k]).F;rw[a];simp only[Acb,BA (show k<4611686018427387904 by omega)];exact⟨(v.2,v.1),rfl⟩) (λs=>Df.mk _)
 have l:∀s:Bool×List (AG×Bool),Df (Dz N b (FG N b) N 0 s.1 s.2):=d (σ:=Bool×List (AG×Bool)) b.Ah.length (λn k s=>Dz N b (FG N b) n k s.1 s.2) (λs=>FG N b s.1 s.2) (by omega) (λn k s I=>by simp only[Dz];rw[Fj I];rfl)
  (λn k s I=>by
   simp only[Dz];rw[FA I,Acc,BG I];simp only[Acb];obtain⟨v,a⟩:=NM c s.2 s.1 (ByteArray.mk #[103,97,117,103,101]) (b.Ah[k]).F;rw[a];simp only[Acb,BA (show k<4611686018427387904 by omega)];exact⟨(v.2,v.1),rfl⟩) (λs=>j s)
 have p:∀s:Bool×List (AG×Bool),Df (EA N b (Fk N b) N 0 s.1 s.2):=d (σ:=Bool×List (AG×Bool)) b.Ak.length (λn k s=>EA N b (Fk N b) n k s.1 s.2) (λs=>Fk N b s.1 s.2) (by omega) (λn k s I=>by simp only[EA];rw[Fj I];rfl)
  (λn k s I=>by
   simp only[EA];rw[FA I,Acc,BG I];simp only[Acb];obtain⟨v,a⟩:=NM c s.2 s.1 (ByteArray.mk #[115,104,101,108,116,101,114]) (b.Ak[k]).F;rw[a];simp only[Acb,BA (show k<4611686018427387904 by omega)];exact⟨(v.2,v.1),rfl⟩) (λs=>l s)
 have q:∀s:Bool×List (AG×Bool),Df (EB N b (Fl N b) N 0 s.1 s.2):=d (σ:=Bool×List (AG×Bool)) b.Af.length (λn k s=>EB N b (Fl N b) n k s.1 s.2) (λs=>Fl N b s.1 s.2) (by omega) (λn k s I=>by simp only[EB];rw[Fj I];rfl)
  (λn k s I=>by
   simp only[EB];rw[FA I,Acc,BG I];simp only[Acb];obtain⟨v,a⟩:=NM c s.2 s.1 (ByteArray.mk #[116,111,119,110]) (b.Af[k]).F;rw[a];simp only[Acb,BA (show k<4611686018427387904 by omega)];exact⟨(v.2,v.1),rfl⟩) (λs=>p s)
 have t:∀s:Bool×List (AG×Bool),Df (EC N b (Fm N b) N 0 s.1 s.2):=d (σ:=Bool×List (AG×Bool)) b.C.length (λn k s=>EC N b (Fm N b) n k s.1 s.2) (λs=>Fm N b s.1 s.2) (by omega) (λn k s I=>by simp only[EC];rw[Fj I];rfl)
  (λn k s I=>by
   simp only[EC];rw[FA I,Acc,BG I];simp only[Acb];obtain⟨v,a⟩:=NM c s.2 s.1 (ByteArray.mk #[108,105,110,107]) (b.C[k]).F;rw[a];simp only[Acb,BA (show k<4611686018427387904 by omega)];exact⟨(v.2,v.1),rfl⟩) (λs=>q s)
 have i:∀s:Bool×List (AG×Bool),Df (ED N b (Fo N b) N 0 s.1 s.2):=d (σ:=Bool×List (AG×Bool)) b.A.length (λn k s=>ED N b (Fo N b) n k s.1 s.2) (λs=>Fo N b s.1 s.2) (by omega) (λn k s I=>by simp only[ED];rw[Fj I];rfl)
  (λn k s I=>by
   simp only[ED];rw[FA I,Acc,BG I];simp only[Acb];obtain⟨v,a⟩:=NM c s.2 s.1 (ByteArray.mk #[112,108,97,99,101]) (b.A[k]).F;rw[a];simp only[Acb,BA (show k<4611686018427387904 by omega)];exact⟨(v.2,v.1),rfl⟩) (λs=>t s)
 have g:∀s:Bool×List (AG×Bool),Df (EE N b (Fp N b) N 0 s.1 s.2):=d (σ:=Bool×List (AG×Bool)) b.J.length (λn k s=>EE N b (Fp N b) n k s.1 s.2) (λs=>Fp N b s.1 s.2) (by omega) (λn k s I=>by simp only[EE];rw[Fj I];rfl)
  (λn k s I=>by
   simp only[EE];rw[FA I,Acc,BG I];simp only[Acb];obtain⟨v,a⟩:=NM c s.2 s.1 (ByteArray.mk #[111,119,110,101,114]) (b.J[k]);rw[a];simp only[Acb,BA (show k<4611686018427387904 by omega)];exact⟨(v.2,v.1),rfl⟩) (λs=>i s)
 exact g (true,[])
structure I2 (b:AF) (p:Cj):Prop where
 lev:I4 p.Bm
 num:J0 p.Aa
 den:J0 p.T
 down:p.Ao= -1∨(0≤p.Ao∧p.Ao<b.A.length)
 cap:J0 p.Av
 delay:0≤p.R∧p.R≤240
def WB {N:Nat}(p:Cj) (kj:Int→Option Bool) (b:p.An.length≤16):∀(n:Nat) (s:Int) (k:Nat),p.An.length<n+k→k≤p.An.length→DH N p kj n s (k:Int)=some false∨∃s',DH N p kj n s (k:Int)=kj s'
 |0,s,k,d,c=>by omega
 |n+1,s,k,d,c=>by
  simp only[DH];rcases Acy k p.An.length with a|a
  ·rw[FA a,Acc,BG a];simp only[Acb,Mi,BA (show k<4611686018427387904 by omega)];cases Tv p.An[k]
   ·exact .inl rfl
   ·exact WB (N:=N) p kj b n _ (k+1) (by omega) (by omega)
  ·rw[Fj a];exact .inr ⟨s,rfl⟩
def YK {N:Nat}(b:AF) (p:Cj) (a:Int) (kj:Int→Option Bool) (g:0≤b.K∧b.K≤64):∀(n:Nat) (s:Int) (k:Nat), -1≤s→s≤64→65<n+s→k<100→(k:Int)≤s+1→Ch N b p a kj n s (k:Int)=some false∨Ch N b p a kj n s (k:Int)=kj a
 |0,s,k,i,j,l,m,o=>by omega
 |n+1,s,k,i,j,l,m,o=>by
  simp only[Ch];rcases Acy k p.S.length with c|c
  ·rw[FA c,Acc,BG c];simp only[Acb,Mi,Gw,L3,BA (show k<4611686018427387904 by omega)];cases d:(decide ((p.S[k]).Bg≤s)||decide (b.K≤(p.S[k]).Bg)|| !Tv (p.S[k]).Br)
   ·simp only[Ac9,Ac2] at d;obtain⟨⟨q,t⟩,u⟩:=d;exact YK (N:=N) b p a kj g n _ (k+1) (by omega) (by omega) (by omega) (by omega) (by omega)
   ·exact .inl rfl
  ·rw[Fj c];exact .inr rfl
def UN {N:Nat}(o:1000<N) (b:AF) (a:II b):∀(n:Nat) (s:Int) (k:Nat),b.A.length<n+k→k≤b.A.length→∃v,B6 N b (CT N) n s (k:Int)=some v∧(v=true→∀(i:Nat) p,k≤i→b.A[i]? =some p→I2 b p)
 |0,s,k,Y,q=>by omega
 |n+1,s,k,Y,q=>by
  have Q:=a.pl;simp only[B6];rcases Acy k b.A.length with c|c
  ·rw[FA c,Acc,BG c];obtain⟨U,g,j⟩:=KU (N:=N) (by omega) (b.A[k]).Bm;simp only[Acb,N1,Mi,Q9,g,Ra N b _ _ (show b.A.length<4611686018427387904 by omega),Gw,L3];generalize l:(_|| !V6 b.A.length (k:Int) (b.A[k]).Ao)=B
   cases B
   ·simp only[Ac9,Ac2,Aeu] at l;obtain⟨⟨⟨⟨⟨⟨⟨⟨V,W⟩,t⟩,u⟩,X⟩,w⟩,x⟩,m⟩,y⟩:=l;have z:(b.A[k]).An.length=b.J.length:=by
     have:((b.A[k]).An.length:Int)=(b.J.length:Int):=by simpa using x
     omega
    have C:I2 b b.A[k]:=⟨j w,(Pq m).1,(Pq m).2,YA y,LP u,LN t⟩
    simp only[Acd];rcases WB (N:=N) b.A[k] (FD N b b.A[k] (C5 N (k:Int) (B6 N b (CT N) n))) (by have:=a.own;omega) N s 0 (by have:=a.own;omega) (Aci _) with e|⟨s',e⟩
    ·exact⟨false,e,λY=>by cases Y⟩
    ·have D:DH N b.A[k] (FD N b b.A[k] (C5 N (k:Int) (B6 N b (CT N) n))) N s 0=_:=e;rw[D];unfold FD;rcases YK (N:=N) b b.A[k] s' (C5 N (k:Int) (B6 N b (CT N) n)) a.cells N (-1) 0 (by omega) (by omega) (by omega) (by omega) (by omega) with e|e
     ·exact⟨false,e,λY=>by cases Y⟩
     ·have F:Ch N b b.A[k] s' (C5 N (k:Int) (B6 N b (CT N) n)) N (-1) 0=_:=e;rw[F];unfold C5;rw[BA (show k<4611686018427387904 by omega)];obtain⟨v,G,H⟩:=UN o b a n s' (k+1) (by omega) (by omega);refine⟨v,G,λI i p K d=>?_⟩;by_cases M:i=k
      ·subst M;have:p=b.A[i]:=by simpa [c] using d.symm
       rw[this];exact C
      ·exact H I i p (by omega) d
   ·exact⟨false,rfl,λY=>by cases Y⟩
  ·rw[Fj c];refine⟨_,rfl,λ_ i p K d=>?_⟩;have:=(Acq.1 d).1;omega
def Zi {N:Nat}(c:1000<N) (b:AF) (a:II b):∃v,Hb N b=some v∧(v=true→∀p∈b.A,I2 b p):=by
 obtain⟨v,d,g⟩:=UN c b a N 0 0 (by have:=a.pl;omega) (Aci _);refine⟨v,d,λj p k=>?_⟩;obtain⟨i,l,rfl⟩:=Af4.1 k;exact g j i _ (Aci _) (by simp [l])
structure KY (b:AF) (l:BC):Prop where
 kind:0≤l.G∧l.G≤5
 fr:0≤l.M∧l.M<b.A.length
 to:l.E= -1∨(0≤l.E∧l.E<b.A.length)
 delay:0≤l.R∧l.R≤240
 gate:l.G=0→I4 l.As∧I4 l.Ae.Aw∧I4 l.Ae.Ax∧J0 l.Aq∧J0 l.Al
 part:l.G=1∨l.G=5∨l.G=3→J0 l.Aa∧1≤l.T∧l.T≤1125899906842624
 seep:l.G=4→J0 l.Aa∧1≤l.T∧l.T≤1125899906842624∧J0 l.Aq∧J0 l.Al∧l.E≠ -1
def bA {N:Nat}(d:18446744073709551616<N) (a b:List Bz) (g:1≤a.length) (c:a.length≤32) (i:b.length≤32):Df (HJ N a b):=by
 unfold HJ;rcases J1 b.length (HH N a b (Ih N)) (Ih N) (λ_=>True) (λn k l=>by
  simp only[HH];rw[Fj l];rfl) (λn k l=>by
  simp only[HH];obtain⟨v,j⟩:=Sq d g c (b[k]).Q;rw[FA l,Acc,BG l];simp only[Acb,j,BA (show k<4611686018427387904 by omega)];cases (decide ((b[k]).Z<v.1)||decide (v.1=(b[k]).Z)&&v.2)
  ·exact .inr ⟨trivial,rfl⟩
  ·exact .inl rfl) N 0 (by omega) (Aci _) with l|⟨_,l⟩
 ·exact⟨_,l⟩
 ·exact⟨true,l⟩
def Ql {N:Nat}(d:18446744073709551616<N) (a b:List Bz):Df (Id N a b):=by
 unfold Id;obtain⟨s,i,j⟩:=KU (N:=N) (by omega) a;obtain⟨t,l,m⟩:=KU (N:=N) (by omega) b;simp only[i,l,Acb,Gw,L3];refine Df.cond (λ_=>Df.mk _) λu=>?_;simp only[Ac9,Aeu] at u;obtain⟨o,p,_⟩:=j u.1;obtain⟨q,g,_⟩:=m u.2;rcases J1 a.length (HI N a b (HJ N a b)) (HJ N a b) (λ_=>True) (λn k u=>by
  simp only[HI];rw[Fj u];rfl) (λn k u=>by
  simp only[HI];obtain⟨v,c⟩:=Sq d q g (a[k]).Q;rw[FA u,Acc,BG u];simp only[Acb,c,BA (show k<4611686018427387904 by omega)];cases decide (v.1<(a[k]).Z)
  ·exact .inr ⟨trivial,rfl⟩
  ·exact .inl rfl) N 0 (by omega) (Aci _) with u|⟨_,u⟩
 ·exact⟨_,u⟩
 ·obtain⟨v,c⟩:=bA d a b o p g;exact⟨v,u.trans c⟩
def Uc {N:Nat}(m:18446744073709551616<N) (l:BC):∃v,Gd N l=some v∧(v=true→
  (l.G=0→I4 l.As∧I4 l.Ae.Aw∧I4 l.Ae.Ax∧J0 l.Aq∧J0 l.Al)∧(l.G=1∨l.G=5∨l.G=3→J0 l.Aa∧1≤l.T∧l.T≤1125899906842624)∧
  (¬(l.G=0∨l.G=1∨l.G=5∨l.G=2∨l.G=3)→J0 l.Aa∧1≤l.T∧l.T≤1125899906842624∧J0 l.Aq∧J0 l.Al∧l.E≠ -1)):=by
 obtain⟨v1,q,s⟩:=KU (N:=N) (by omega) l.As;obtain⟨C,t,u⟩:=KU (N:=N) (by omega) l.Ae.Aw;obtain⟨D,w,x⟩:=KU (N:=N) (by omega) l.Ae.Ax;obtain⟨F,y⟩:=Ql m l.Ae.Aw l.As;obtain⟨H,z⟩:=Ql m l.As l.Ae.Ax;unfold Gd;by_cases k0:l.G=0
 ·rw[show decide (l.G=0)=true by simp [k0],Acc];simp only[q,t,w,y,z,N1,Mi,Q9,Acb,Gw,QZ];refine⟨_,rfl,λU=>?_⟩;simp only[Acj] at U;obtain⟨⟨⟨⟨⟨⟨⟨⟨⟨d,a⟩,b⟩,i⟩,A⟩,I⟩,J⟩,K⟩,n⟩,B⟩:=U;exact⟨λ_=>⟨s d,u a,x b,(Pq n).1,(Pq n).2⟩,λU=>by omega,λU=>absurd (.inl k0) U⟩
 ·rw[show decide (l.G=0)=false by simp [k0],Acd];have o:∀c:Bool,(c=true↔l.G=1∨l.G=5)→∃v,EW N l c=some v∧(v=true→
    (l.G=0→I4 l.As∧I4 l.Ae.Aw∧I4 l.Ae.Ax∧J0 l.Aq∧J0 l.Al)∧(l.G=1∨l.G=5∨l.G=3→J0 l.Aa∧1≤l.T∧l.T≤1125899906842624)∧
    (¬(l.G=0∨l.G=1∨l.G=5∨l.G=2∨l.G=3)→J0 l.Aa∧1≤l.T∧l.T≤1125899906842624∧J0 l.Aq∧J0 l.Al∧l.E≠ -1)):=λc p=>by
   unfold EW;simp only[N1,Mi,Q9,Acb,Gw,QZ];cases c
   ·have M:¬(l.G=1∨l.G=5):=λU=>by have:=p.2 U;cases this
    rw[Acd];by_cases j:l.G=2
    ·rw[show decide (l.G=2)=true by simp [j],Acc];exact⟨_,rfl,λ_=>⟨λU=>absurd U k0,λU=>by omega,λU=>absurd (.inr (.inr (.inr (.inl j)))) U⟩⟩
    ·rw[show decide (l.G=2)=false by simp [j],Acd];by_cases k:l.G=3
     ·rw[show decide (l.G=3)=true by simp [k],Acc];refine⟨_,rfl,λU=>?_⟩;simp only[Acj] at U;obtain⟨⟨⟨⟨d,a⟩,b⟩,i⟩,A⟩:=U;exact⟨λU=>absurd U k0,λ_=>⟨LP d,LN a⟩,λU=>absurd (.inr (.inr (.inr (.inr k)))) U⟩
     ·rw[show decide (l.G=3)=false by simp [k],Acd];refine⟨_,rfl,λU=>?_⟩;simp only[Acj,Ac1] at U;obtain⟨⟨⟨d,a⟩,b⟩,i⟩:=U;exact⟨λU=>absurd U k0,λU=>by omega,λ_=>⟨LP d,(LN a).1,(LN a).2,(Pq b).1,(Pq b).2,i⟩⟩
   ·have Q:=p.1 rfl;rw[Acc];refine⟨_,rfl,λU=>?_⟩;simp only[Acj] at U;obtain⟨⟨d,a⟩,b⟩:=U;exact⟨λU=>absurd U k0,λ_=>⟨LP a,LN b⟩,λU=>by omega⟩
  by_cases g:l.G=1
  ·rw[show decide (l.G=1)=true by simp [g],Acc];exact o true (by simp [g])
  ·rw[show decide (l.G=1)=false by simp [g],Acd];exact o _ (by simp [g])
def UE (N:Nat) (l:BC):Df (Fh N l):=by
 unfold Fh;exact Df.cond (λ_=>Df.mk _) λ_=>Df.cond (λ_=>Df.mk _) λ_=>Df.cond (λ_=>Df.mk _) λ_=>Df.cond (λ_=>Df.mk _) λ_=>Df.cond (λ_=>Df.mk _) λ_=>Df.mk _
def dK {N:Nat}(m:18446744073709551616<N) (b:AF) (c:II b):∃v,FH N b=some v∧(v=true→∀l∈b.C,KY b l):=by
 have H:=c.pl;have I:=c.li;unfold FH;rcases J1 b.C.length (Cc N b (Dr N)) (Dr N) (λi=>∀l,b.C[i]? =some l→KY b l) (λn k M=>by
  simp only[Cc];rw[Fj M];rfl) (λn k M=>by
  simp only[Cc];obtain⟨J,o,p⟩:=Uc m b.C[k];obtain⟨q,s⟩:=UE N b.C[k];rw[FA M,Acc,BG M];simp only[Acb,N1,Q7 N _ (show b.A.length<4611686018427387904 by omega),Ra N b _ _ (show b.A.length<4611686018427387904 by omega),o,s,Gw,L3,BA (show k<4611686018427387904 by omega)];generalize d:(_|| !q)=B
  cases B
  ·simp only[Ac9,Aeu] at d;obtain⟨⟨⟨⟨⟨t,u⟩,w⟩,g⟩,x⟩,K⟩:=d;have y:=LN t;have z:=LN u;obtain⟨D,F,G⟩:=p x;refine .inr ⟨λl a=>?_,rfl⟩;have:l=b.C[k]:=by simpa [M] using a.symm
   rw[this];exact⟨y,⟨z.1,by omega⟩,YA w,LN g,D,F,λg=>G (by omega)⟩
  ·exact .inl rfl) N 0 (by omega) (Aci _) with M|⟨hp,M⟩
 ·exact⟨false,M,λM=>by cases M⟩
 ·refine⟨true,M,λ_ l a=>?_⟩;obtain⟨i,j,rfl⟩:=Af4.1 a;exact hp i (Aci _) j _ (by simp [j])
def YQ (N:Nat) (b:AF) (o to:Int) (c:to= -1∨(0≤to∧to<b.A.length)):Df (Ke N b o to):=by
 unfold Ke;refine Df.cond (λ_=>Df.mk _) λa=>?_;simp only[Ac2] at a;exact Df.bind (Df.ix (by omega) (by omega)) λ_ _=>Df.mk _
def XU {N:Nat}(w:1000<N) (b:AF) (m:II b) (o:∀p∈b.A,I2 b p) (q:∀l∈b.C,KY b l):Df (H5 N b):=by
 have y:=m.pl;have B:=m.li;have s:Df (EH N b):=by
  unfold EH;rcases J1 b.C.length (EF N b (F6 N)) (F6 N) (λ_=>True) (λn k D=>by
   simp only[EF];rw[Fj D];rfl) (λn k D=>by
   simp only[EF];have a:=q b.C[k] (Acw D);obtain⟨x,t⟩:=Df.ix (l:=b.A) a.fr.1 a.fr.2;obtain⟨v,c⟩:=YQ N b x.Au (b.C[k]).E a.to;rw[FA D,Acc,BG D];simp only[Acb,t,c,BA (show k<4611686018427387904 by omega)];have i:∃z,(cond (!v) (some true) ((cond (decide ((b.C[k]).G=4)) ((ix b.A (b.C[k]).E).bind λd=>some (decide (d.Au≠x.Au))) (some false)).bind λg=>some g))=some z:=by
    refine Df.cond (λ_=>Df.mk _) λ_=>Df.bind (Df.cond (λu=>?_) λ_=>Df.mk _) λ_ _=>Df.mk _;have j:(b.C[k]).G=4:=by simpa using u
    have:=(a.seep j).2.2.2.2.2;have:=a.to;exact Df.bind (Df.ix (by omega) (by omega)) λ_ _=>Df.mk _
   obtain⟨z,i⟩:=i;rw[i];simp only[Acb];cases z
   ·exact .inr ⟨trivial,rfl⟩
   ·exact .inl rfl) N 0 (by omega) (Aci _) with D|⟨_,D⟩
  ·exact⟨_,D⟩
  ·exact⟨true,D⟩
 unfold H5;rcases J1 b.A.length (EG N b (EH N b)) (EH N b) (λ_=>True) (λn k D=>by
   simp only[EG];rw[Fj D];rfl) (λn k D=>by
   simp only[EG];have a:=o b.A[k] (Acw D);obtain⟨v,c⟩:=YQ N b (b.A[k]).Au (b.A[k]).Ao a.down;rw[FA D,Acc,BG D];simp only[Acb,c,BA (show k<4611686018427387904 by omega)];cases v
   ·exact .inl rfl
   ·exact .inr ⟨trivial,rfl⟩) N 0 (by omega) (Aci _) with D|⟨_,D⟩
 ·exact⟨_,D⟩
 ·obtain⟨v,c⟩:=s;exact⟨v,D.trans c⟩
def WA {N:Nat}(d:18446744073709551616<N) (c:List Bz) (g:I4 c) (kj:Int→Option Int):∀(n:Nat) (s:Int) (k:Nat),c.length<n+k→1≤k→k≤c.length→∃s',Fg N c kj n s (k:Int)=kj s'
 |0,s,k,A,i,j=>by omega
 |n+1,s,k,A,i,j=>by
  obtain⟨l,m,b⟩:=g;simp only[Fg];rcases Acy k c.length with a|a
  ·have o:BT ((k:Int)-1)=((k-1:Nat):Int):=by rw[EM (by omega) (by omega)];omega
   rw[FA a,Acc,o,BG a,BG (show k-1<c.length by omega)];simp only[Acb,BA (show k<4611686018427387904 by omega)];obtain⟨p,q,t⟩:=b k c[k] (by simp [a]);obtain⟨u,w,_⟩:=b (k-1) c[k-1] (by simp [show k-1<c.length by omega]);obtain⟨y,z⟩:=t c[k-1] (by omega) (by simp [show k-1<c.length by omega]);unfold J0 at p q u w;obtain⟨v,x⟩:=Nu d (num:=BT ((c[k]).Z-(c[k-1]).Z)) (den:=BT ((c[k]).Q-(c[k-1]).Q)) (by rw[EM (by omega) (by omega)];omega) (by rw[EM (by omega) (by omega)];omega) (by rw[EM (by omega) (by omega)];omega);rw[x];exact WA d c ⟨l,m,b⟩ kj n _ (k+1) (by omega) (by omega) (by omega)
  ·rw[Fj a];exact⟨s,rfl⟩
def bY {N:Nat}(d:18446744073709551616<N) (cs:List (List Bz)) (m:cs.length≤3) (g:∀c∈cs,I4 c):Df (Jv N cs):=by
 unfold Jv;have:∀(n:Nat) (s:Int) (k:Nat),cs.length<n+k→k≤cs.length→Df (Dw N cs (Er N) n s (k:Int)):=by
  intro n
  induction n with
  |zero=>intro s k o i;omega
  |succ n j=>
   intro s k o i;simp only[Dw];rcases Acy k cs.length with a|a
   ·rw[FA a,Acc,BG a];simp only[Acb];have b:=g cs[k] (Acw a);obtain⟨s',e⟩:=WA d cs[k] b (Gc N (k:Int) (Dw N cs (Er N) n)) N s 1 (by have:=b.2.1;omega) (by omega) b.1;have l:Fg N cs[k] (Gc N (k:Int) (Dw N cs (Er N) n)) N s 1=_:=e;rw[l];unfold Gc;rw[BA (show k<4611686018427387904 by omega)];exact j s' (k+1) (by omega) (by omega)
   ·rw[Fj a];exact Df.mk _
 exact this N 0 0 (by omega) (Aci _)
def L6 {α}(l:List α) (i:Int) (x:α):(upd l i x).length=l.length:=by simp [upd]
def wM {N:Nat}(a:1000<N) (l:List Int) (b:l.length≤64):Df (DG N l):=by
 unfold DG;rcases J1 l.length (ER N l (GU N)) (GU N) (λ_=>True) (λn k c=>by
  simp only[ER];rw[Fj c];rfl) (λn k c=>by
  simp only[ER];rw[FA c,Acc,BG c];simp only[Acb,BA (show k<4611686018427387904 by omega)];cases decide (1099511627776<l[k])
  ·exact .inr ⟨trivial,rfl⟩
  ·exact .inl rfl) N 0 (by omega) (Aci _) with c|⟨_,c⟩
 ·exact⟨_,c⟩
 ·exact⟨true,c⟩
def nL {N:Nat}(o:18446744073709551616<N) (b:AF) (t:II b) (H:∀l∈b.C,KY b l) (kj:List Int→Option Bool):∀(n:Nat) (k:Nat) (s:List Int),s.length=b.A.length→b.C.length<n+k→k≤b.C.length→∃s',s'.length=b.A.length∧B5 N b kj n (k:Int) s=kj s'
 |0,k,s,a,h,Q=>by omega
 |n+1,k,s,a,h,Q=>by
  have q3:=t.pl;have q4:=t.li;simp only[B5];rcases Acy k b.C.length with g|g
  ·rw[FA g,Acc,BG g];simp only[Acb];have d:=H b.C[k] (Acw g);generalize b.C[k]=l at d
   have p:∀s:List Int,s.length=b.A.length→∃s',s'.length=b.A.length∧C4 N (k:Int) (B5 N b kj n) s=kj s':=λs a=>by
    unfold C4;rw[BA (show k<4611686018427387904 by omega)];exact nL o b t H kj n (k+1) s a (by omega) (by omega)
   obtain⟨x,u⟩:=Df.ix (l:=s) d.fr.1 (by rw[a];exact d.fr.2);have w:∀c:Bool,(c=true→l.G=1∨l.G=5∨l.G=3)→∃s',s'.length=b.A.length∧ET N s l (C4 N (k:Int) (B5 N b kj n)) c=kj s':=λc g=>by
    unfold ET;cases c
    ·rw[Acd];by_cases y:l.G=4
     ·rw[show decide (l.G=4)=true by simp [y],Acc];obtain⟨z,U,V,W,I,h6⟩:=d.seep y;obtain⟨v,q⟩:=Nu o z.1 (show 0≤l.T by omega) (by omega);obtain⟨X,j⟩:=Nu o W.1 I.1 (show l.Al≤_ by have:=I.2;omega);have B:=d.to;obtain⟨Y,m⟩:=Df.ix (l:=upd s l.M (BT (x+BT (2*v)))) (i:=l.E) (by omega) (by rw[L6,a];omega);simp only[u,q,m,j,Acb];exact p _ (by rw[L6,L6,a])
     ·rw[show decide (l.G=4)=false by simp [y],Acd];exact p s a
    ·rw[Acc];obtain⟨z,U,V⟩:=d.part (g rfl);obtain⟨v,q⟩:=Nu o z.1 (show 0≤l.T by omega) (by omega);simp only[u,q,Acb];exact p _ (by rw[L6,a])
   by_cases k0:l.G=0
   ·rw[show decide (l.G=0)=true by simp [k0],Acc];obtain⟨Z,c2,c3,c4,J⟩:=d.gate k0;obtain⟨v,q⟩:=bY o [l.As,l.Ae.Aw,l.Ae.Ax] (by simp) (by simp [Z,c2,c3]);simp only[u,q,Acb];by_cases K:l.E= -1
    ·rw[show decide (l.E≠ -1)=false by simp [K],Acd];exact p _ (by rw[L6,a])
    ·rw[show decide (l.E≠ -1)=true by simp [K],Acc];have B:=d.to;obtain⟨Y,m⟩:=Df.ix (l:=upd s l.M (BT (x+v))) (i:=l.E) (by omega) (by rw[L6,a];omega);obtain⟨X,j⟩:=Nu o c4.1 J.1 (show l.Al≤_ by have:=J.2;omega);simp only[m,j,Acb];exact p _ (by rw[L6,L6,a])
   ·rw[show decide (l.G=0)=false by simp [k0],Acd];by_cases D:l.G=1
    ·rw[show decide (l.G=1)=true by simp [D],Acc];exact w true λ_=> .inl D
    ·rw[show decide (l.G=1)=false by simp [D],Acd];by_cases F:l.G=5
     ·rw[show decide (l.G=5)=true by simp [F],Acc];exact w true λ_=> .inr (.inl F)
     ·rw[show decide (l.G=5)=false by simp [F],Acd];exact w _ λh=> .inr (.inr (by simpa using h))
  ·rw[Fj g];exact⟨s,a,rfl⟩
def ZX {N:Nat}(m:18446744073709551616<N) (b:AF) (c:II b) (q:∀p∈b.A,I2 b p) (t:∀l∈b.C,KY b l):Df (IM N b):=by
 have G:=c.pl;have H:=c.li;unfold IM;rw[show LU (b.A.length:Int) (b.A.length:Int) 8=true by simp [LU];omega];simp only[chk,Acc];have u:∀(n:Nat) (k:Nat) (s:List Int),s.length=b.A.length→b.A.length<n+k→k≤b.A.length→∃s',s'.length=b.A.length∧ES N b (EU N b) n (k:Int) s=EU N b s':=by
  intro n
  induction n with
  |zero=>intro k s d J w;omega
  |succ n x=>
   intro k s d J w;simp only[ES];rcases Acy k b.A.length with a|a
   ·have g:=q b.A[k] (Acw a);obtain⟨v,y⟩:=Nu m g.num.1 g.den.1 (by have:=g.den.2;omega);rw[FA a,Acc,BG a,BG (show k<s.length by omega)];simp only[Acb,y,BA (show k<4611686018427387904 by omega)];exact x (k+1) _ (by rw[L6,d]) (by omega) (by omega)
   ·rw[Fj a];exact⟨s,d,rfl⟩
 obtain⟨o,z,B⟩:=u N 0 (List.replicate ((b.A.length:Int):Int).toNat 0) (by simp) (by omega) (Aci _);have i:ES N b (EU N b) N 0 (List.replicate ((b.A.length:Int):Int).toNat 0)=_:=B;rw[i];unfold EU;obtain⟨D,I,F⟩:=nL m b c t (DG N) N 0 o z (by omega) (Aci _);have j:B5 N b (DG N) N 0 o=_:=F;rw[j];exact wM (by omega) D (by omega)
end Go.Proofs.YtabonambpbofgaaGreat
