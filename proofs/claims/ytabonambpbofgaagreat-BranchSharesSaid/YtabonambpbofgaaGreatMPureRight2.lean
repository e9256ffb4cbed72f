import Derived.Test.YtabonambpbofgaaGreatMPureDiv
namespace Go.Proofs.YtabonambpbofgaaGreat
set_option linter.all false
open Go.RowKit
def Sr {Y b d q r:Nat}(g:q*(Y/4294967296)+r=b):q*(Y%4294967296)≤4294967296*r+d↔q*Y≤b*4294967296+d:=by
 have e:q*Y=4294967296*(q*(Y/4294967296))+q*(Y%4294967296):=by
  conv=>lhs;rw[←Ad3 Y 4294967296,Nat.mul_add,Nat.mul_left_comm]
 rw[e,←g];generalize q*(Y/4294967296)=a
 generalize q*(Y%4294967296)=c
 omega
def cJ {Y a b q:Nat}(d:a<Y) (g:b<4294967296) (c:4294967296≤q):a*4294967296+b<q*Y:=by
 have i:4294967296*Y≤q*Y:=Aca _ c;omega
def cK {Y a b q r:Nat}(c:q*(Y/4294967296)+r=a) (d:1≤q) (g:q≤4294967297) (i:4294967296≤r+Y/4294967296):(q-1)*Y≤a*4294967296+b:=by
 have e:(q-1)*(Y/4294967296)+(r+Y/4294967296)=a:=by
  obtain⟨p,rfl⟩:∃p,q=p+1:=⟨q-1,by omega⟩
  rw[Acb] at c;simp only[Nat.add_sub_cancel];omega
 refine(Sr e).1 ?_;have j:(q-1)*(Y%4294967296)≤4294967296*(Y%4294967296):=Aca _ (by omega);have k:Y%4294967296<4294967296:=Acq _ (by omega);omega
def iC {Y U q:Nat}(c:0<Y) (a:q*Y≤U) (b:U<(q+1)*Y):U/Y=q:=Nat.div_eq_of_lt_le a b
def Vy {Y a:Nat}(g:9223372036854775808≤Y) (l:Y<18446744073709551616) (m:a<Y) (d:Nat) (n:d<4294967296):a/(Y/4294967296)≤4294967297∧a/(Y/4294967296)*(Y/4294967296)+a%(Y/4294967296)=a∧a*4294967296+d<(a/(Y/4294967296)+1)*Y∧a%(Y/4294967296)<4294967296:=by
 have i:2147483648≤Y/4294967296:=by omega
 have j:Y/4294967296<4294967296:=by omega
 have b:0<Y/4294967296:=by omega
 have o:a%(Y/4294967296)<Y/4294967296:=Acq _ b;have c:a/(Y/4294967296)*(Y/4294967296)+a%(Y/4294967296)=a:=by rw[Add];exact Ad3 _ _
 refine⟨?_,c,?_,by omega⟩
 ·refine Ac7 ((Aed b).2 ?_);omega
 ·have k:(a/(Y/4294967296)+1)*(4294967296*(Y/4294967296))≤(a/(Y/4294967296)+1)*Y:=Nat.mul_le_mul_left _ (by omega);rw[Nat.mul_left_comm,Acb,Nat.one_mul] at k;omega
def UC (N:Nat) (p y:Int) (g i:Nat) (Y a b:Nat) (B:EL .u64 y g=(Y:Int)) (C:EL .u64 p i=(a:Int)) (s:9223372036854775808≤Y) (d:Y<18446744073709551616) (k:a<18446744073709551616) (D:b<Y) (kj:Int→Option (Int×Int)):
  ∀(n q r:Nat),q<n→q≤4294967297→r<4294967296→q*(Y/4294967296)+r=b→b*4294967296+a/4294967296<(q+1)*Y→
  Do N p y g i kj n (q:Int) (r:Int)=kj (((b*4294967296+a/4294967296)/Y:Nat):Int)
 |0,q,r,U,_,_,_,_=>by omega
 |n+1,q,r,K,F,M,t,G=>by
  have H:Y/4294967296<4294967296:=by omega
  have l:Y%4294967296<4294967296:=Acq _ (by omega);have u:a/4294967296<4294967296:=by omega
  simp only[Do];rw[B,C,OU,OU,Sn Y d,QU,show(4294967296:Int)=((4294967296:Nat):Int) from rfl,QU,Fa _ (show 4294967296*r<18446744073709551616 by omega),UG,Fa _ (show 4294967296*r+a/4294967296<18446744073709551616 by omega),UG,Fa (r+Y/4294967296) (by omega)];cases o:(decide (((4294967296:Nat):Int)≤(q:Int))||decide (((4294967296*r+a/4294967296:Nat):Int)<IntKind.u64.wrap ((q*(Y%4294967296):Nat):Int)))
  ·simp only[Abk,Abe] at o;obtain⟨Q,I⟩:=o;have c:q<4294967296:=by omega
   have v:q*(Y%4294967296)<18446744073709551616:=Ad4 (Adp (Ac7 c) (Ac7 l)) (by decide);rw[Fa _ v] at I;rw[Aar,iC (by omega) ((Sr t).1 (by omega)) G]
  ·rw[Aaq];have j:b*4294967296+a/4294967296<q*Y:=by
    rcases Abb q 4294967296 with c|c
    ·have v:q*(Y%4294967296)<18446744073709551616:=Ad4 (Adp (Ac7 c) (Ac7 l)) (by decide);rw[Fa _ v] at o;simp only[Abh,Abd] at o;refine Nat.lt_of_not_le λw=>?_;have:=(Sr t).2 w;omega
    ·exact cJ D u c
   have x:1≤q:=by
    rcases Aee q with e|e
    ·rw[e,Nat.zero_mul] at j;omega
    ·exact e
   have z:IntKind.u64.wrap ((q:Int)-1)=((q-1:Nat):Int):=by rw[show (q:Int)-1=((q-1:Nat):Int) by omega];exact Fa _ (by omega)
   rw[z];have A:q-1+1=q:=by omega
   cases m:decide (((4294967296:Nat):Int)≤((r+Y/4294967296:Nat):Int))
   ·rw[Aar];have J:(q-1)*(Y/4294967296)+(r+Y/4294967296)=b:=by
     have:q*(Y/4294967296)=(q-1)*(Y/4294967296)+Y/4294967296:=by
      conv=>lhs;rw[←A,Acb,Nat.one_mul]
     omega
    simp only[Abe] at m;exact UC N p y g i Y a b B C s d k D kj n (q-1) (r+Y/4294967296) (by omega) (by omega) (by omega) J (by rw[A];exact j)
   ·rw[Aaq];simp only[Abd] at m;rw[iC (by omega) (cK t x F (by omega)) (by rw[A];exact j)]
def UB (N:Nat) (p y:Int) (i j:Nat) (Y a b:Nat) (B:EL .u64 y i=(Y:Int)) (C:EL .u64 p j=(a:Int)) (s:9223372036854775808≤Y) (d:Y<18446744073709551616) (g:a<18446744073709551616) (D:b<Y) (kj:Int→Option (Int×Int)):
  ∀(n q r:Nat),q<n→q≤4294967297→r<4294967296→q*(Y/4294967296)+r=b→b*4294967296+a%4294967296<(q+1)*Y→
  EB N p y i j kj n (r:Int) (q:Int)=kj (((b*4294967296+a%4294967296)/Y:Nat):Int)
 |0,q,r,U,_,_,_,_=>by omega
 |n+1,q,r,K,F,M,t,G=>by
  have H:Y/4294967296<4294967296:=by omega
  have l:Y%4294967296<4294967296:=Acq _ (by omega);have u:a%4294967296<4294967296:=Acq _ (by omega);simp only[EB];rw[B,C,OU,Sn a g,Sn Y d,QU,show(4294967296:Int)=((4294967296:Nat):Int) from rfl,QU,Fa _ (show 4294967296*r<18446744073709551616 by omega),UG,Fa _ (show 4294967296*r+a%4294967296<18446744073709551616 by omega),UG,Fa (r+Y/4294967296) (by omega)];cases o:(decide (((4294967296:Nat):Int)≤(q:Int))||decide (((4294967296*r+a%4294967296:Nat):Int)<IntKind.u64.wrap ((q*(Y%4294967296):Nat):Int)))
  ·simp only[Abk,Abe] at o;obtain⟨Q,I⟩:=o;have c:q<4294967296:=by omega
   have v:q*(Y%4294967296)<18446744073709551616:=Ad4 (Adp (Ac7 c) (Ac7 l)) (by decide);rw[Fa _ v] at I;rw[Aar,iC (by omega) ((Sr t).1 (by omega)) G]
  ·rw[Aaq];have k:b*4294967296+a%4294967296<q*Y:=by
    rcases Abb q 4294967296 with c|c
    ·have v:q*(Y%4294967296)<18446744073709551616:=Ad4 (Adp (Ac7 c) (Ac7 l)) (by decide);rw[Fa _ v] at o;simp only[Abh,Abd] at o;refine Nat.lt_of_not_le λw=>?_;have:=(Sr t).2 w;omega
    ·exact cJ D u c
   have x:1≤q:=by
    rcases Aee q with e|e
    ·rw[e,Nat.zero_mul] at k;omega
    ·exact e
   have z:IntKind.u64.wrap ((q:Int)-1)=((q-1:Nat):Int):=by rw[show (q:Int)-1=((q-1:Nat):Int) by omega];exact Fa _ (by omega)
   rw[z];have A:q-1+1=q:=by omega
   cases m:decide (((4294967296:Nat):Int)≤((r+Y/4294967296:Nat):Int))
   ·rw[Aar];have J:(q-1)*(Y/4294967296)+(r+Y/4294967296)=b:=by
     have:q*(Y/4294967296)=(q-1)*(Y/4294967296)+Y/4294967296:=by
      conv=>lhs;rw[←A,Acb,Nat.one_mul]
     omega
    simp only[Abe] at m;exact UB N p y i j Y a b B C s d g D kj n (q-1) (r+Y/4294967296) (by omega) (by omega) (by omega) J (by rw[A];exact k)
   ·rw[Aaq];simp only[Abd] at m;rw[iC (by omega) (cK t x F (by omega)) (by rw[A];exact k)]
def oR (a b:Nat) (d:b≠0) (c:a<18446744073709551616):Rr .u64 (a:Int) (b:Int)=some ((a/b:Nat):Int):=by
 unfold Rr;rw[Aas (by omega)];have e:(a:Int).tdiv (b:Int)=((a/b:Nat):Int):=rfl;have:a/b≤a:=Nat.div_le_self _ _;rw[e,Fa _ (by omega)]
def yO (a b:Nat) (c:b≠0):UT (a:Int) (b:Int)=some ((a%b:Nat):Int):=by
 unfold UT;rw[Aas (by omega)];rfl
def oL (a s:Nat) (d:s≤64):EL .u64 (a:Int) s=((a*2^s%18446744073709551616:Nat):Int):=by
 unfold EL;have b:min s IntKind.u64.bits=s:=by simp [IntKind.bits];omega
 have c:((a:Int)*2^s)=((a*2^s:Nat):Int):=by simp
 rw[b,c];exact kX _
def orN (a b:Nat) (g:a<18446744073709551616) (i:b<18446744073709551616):JA .or .u64 (a:Int) (b:Int)=((a|||b:Nat):Int):=by
 have c:(BitVec.ofInt 64 (a:Int)).toNat=a:=by rw[BitVec.ofInt_natCast,BitVec.toNat_ofNat];exact Adk (by omega)
 have d:(BitVec.ofInt 64 (b:Int)).toNat=b:=by rw[BitVec.ofInt_natCast,BitVec.toNat_ofNat];exact Adk (by omega)
 have j:a|||b<2^64:=Nat.or_lt_two_pow (by omega) (by omega)
 show IntKind.u64.wrap (((BitVec.ofInt 64 (a:Int))|||(BitVec.ofInt 64 (b:Int))).toNat:Int)=_
 rw[BitVec.toNat_or,c,d,Fa _ (by omega)]
def YE (a b:Nat):a=a/b*b+a%b:=by rw[Add];exact(Ad3 a b).symm
def aC {Y A B u:Nat}(a:0<Y):(A*B+u)/Y=A/Y*B+(A%Y*B+u)/Y∧(A*B+u)%Y=(A%Y*B+u)%Y:=by
 have b:=Ad3 A Y;have e:A*B+u=Y*(A/Y*B)+(A%Y*B+u):=by
  conv=>lhs;rw[←b,Acb,Nat.mul_assoc,Nat.add_assoc]
 rw[e];exact⟨by rw[Nat.mul_add_div a],by rw[Nat.mul_add_mod]⟩
def Ni {a b q Y R:Nat}(g:a=q*Y+R) (c:R<18446744073709551616) (d:b=a%18446744073709551616):IntKind.u64.wrap ((b:Int)-IntKind.u64.wrap ((q*Y:Nat):Int))=(R:Int):=by
 rw[NJ,NJ];generalize q*Y=t at g
 omega
def ZN {N:Nat}(X:18446744073709551616<N) (w l y:Int) (s:Nat) (Z:s≤63) (m n:Nat) (Y c g k d:Nat) (p:EL .u64 y s=(Y:Int)) (q:EL .u64 l s=(c:Int)) (x:JA .or .u64 (EL .u64 w m) (FV .u64 l n)=(g:Int))
  (o:9223372036854775808≤Y) (i:Y<18446744073709551616) (j:c<18446744073709551616) (hu:g<Y) (D:(g*4294967296+c/4294967296)=k*Y+d) (A:d<Y) (F:k<4294967296):
  EC N w l y (s:Int) s m n s (k:Int)=some (((k*4294967296+(d*4294967296+c%4294967296)/Y:Nat):Int),(((d*4294967296+c%4294967296)%Y/2^s:Nat):Int)):=by
 have G:0<Y/4294967296:=by omega
 have H:Y/4294967296<4294967296:=by omega
 have u:c%4294967296<4294967296:=Acq _ (by omega);have B:IntKind.u64.wrap (IntKind.u64.wrap (IntKind.u64.wrap ((g:Int)*4294967296)+FV .u64 (EL .u64 l s) 32)-IntKind.u64.wrap ((k:Int)*(Y:Int)))=(d:Int):=by
  rw[q,OU,QU];refine(Aau (λz=>IntKind.u64.wrap (z-_)) ?_).trans (Ni (b:=(g*4294967296+c/4294967296)%18446744073709551616) D (by omega) rfl);rw[NJ,NJ];omega
 obtain⟨I,C,J,K⟩:=Vy o i A (c%4294967296) u;unfold EC;rw[x,p,B,OU,oR _ _ (by omega) (by omega)];simp only[Aap];have M:IntKind.u64.wrap ((d:Int)-IntKind.u64.wrap (((d/(Y/4294967296):Nat):Int)*((Y/4294967296:Nat):Int)))=((d%(Y/4294967296):Nat):Int):=by
  rw[QU];exact Ni (a:=d) C.symm (by omega) (by omega)
 rw[M,UB N l y s s Y c d p q o i j A _ N _ _ (by omega) I K C J];unfold Fl;have Q:P0 (IntKind.u64.wrap (s:Int))=some s:=by
  rw[Fa s (by omega)];unfold P0;rw[Aas (by omega)];simp
 rw[x,p,Q,B,q,Sn c j];simp only[Aap];have hd:=Ad3 (d*4294967296+c%4294967296) Y;have v:(d*4294967296+c%4294967296)/Y<4294967296:=(Aed (by omega)).2 (by omega);have U:(d*4294967296+c%4294967296)%Y<Y:=Acq _ (by omega);have V:IntKind.u64.wrap (IntKind.u64.wrap (IntKind.u64.wrap ((d:Int)*4294967296)+((c%4294967296:Nat):Int))-IntKind.u64.wrap (((((d*4294967296+c%4294967296)/Y:Nat)):Int)*(Y:Int)))=(((d*4294967296+c%4294967296)%Y:Nat):Int):=by
  rw[QU];refine(Aau (λz=>IntKind.u64.wrap (z-_)) ?_).trans (Ni (a:=d*4294967296+c%4294967296) (b:=(d*4294967296+c%4294967296)%18446744073709551616) (YE _ _) (by omega) rfl);rw[NJ,NJ];omega
 have W:IntKind.u64.wrap (IntKind.u64.wrap ((k:Int)*4294967296)+((((d*4294967296+c%4294967296)/Y:Nat)):Int))=((k*4294967296+(d*4294967296+c%4294967296)/Y:Nat):Int):=by
  rw[NJ,NJ];generalize (d*4294967296+c%4294967296)/Y=t at v
  omega
 rw[V,W,Wi _ s (by omega)]
def iG (a u:Nat):(a*4294967296+u/4294967296)*4294967296+u%4294967296=a*18446744073709551616+u:=by omega
def dJ {N:Nat}(D:18446744073709551616<N) (o m y:Int) (s:Nat) (F:s≤63) (g i:Nat) (Y c b:Nat) (p:EL .u64 y s=(Y:Int)) (w:EL .u64 m s=(c:Int)) (x:JA .or .u64 (EL .u64 o g) (FV .u64 m i)=(b:Int))
  (l:9223372036854775808≤Y) (j:Y<18446744073709551616) (k:c<18446744073709551616) (q:b<Y):
  ((Rr .u64 (JA .or .u64 (EL .u64 o g) (FV .u64 m i)) (FV .u64 (EL .u64 y s) 32)).bind λn=>
   Do N m y s s (EC N o m y (s:Int) s g i s) N n (IntKind.wrap .u64 ((JA .or .u64 (EL .u64 o g) (FV .u64 m i))-(IntKind.wrap .u64 (n*(FV .u64 (EL .u64 y s) 32))))))=
  some ((((b*18446744073709551616+c)/Y:Nat):Int),(((b*18446744073709551616+c)%Y/2^s:Nat):Int)):=by
 have d:0<Y:=by omega
 have t:c/4294967296<4294967296:=by omega
 obtain⟨G,z,H,I⟩:=Vy l j q (c/4294967296) t;obtain⟨C,t2⟩:=aC (Y:=Y) (A:=b*4294967296+c/4294967296) (B:=4294967296) (u:=c%4294967296) d;rw[iG] at C t2;rw[C,t2,x,p,OU,oR _ _ (by omega) (by omega)];simp only[Aap];have J:IntKind.u64.wrap ((b:Int)-IntKind.u64.wrap (((b/(Y/4294967296):Nat):Int)*((Y/4294967296:Nat):Int)))=((b%(Y/4294967296):Nat):Int):=by
  rw[QU];exact Ni (a:=b) z.symm (by omega) (by omega)
 have v:(b*4294967296+c/4294967296)/Y<4294967296:=(Aed d).2 (by omega);rw[J,UC N _ _ s s Y c b p w l j k q _ N _ _ (by omega) G I z H];exact ZN D _ _ _ s F g i Y c b _ _ p w x l j k q (YE _ _) (Acq _ d) v
def bC {g l s M:Nat}(b:M=2^64) (d:s≤63):(g*2^s+l/2^(64-s))*M+l*2^s%M=(g*M+l)*2^s:=by
 have e:(2:Nat)^64=2^(64-s)*2^s:=by rw[←Nat.pow_add];congr 1;omega
 have c:l*2^s/M=l/2^(64-s):=by
  rw[b,e,Nat.mul_div_mul_right _ _ (Ad2 s)]
 have a:=Ad3 (l*2^s) M;rw[c] at a;rw[Acb,Acb,Nat.mul_right_comm g,Nat.add_assoc,Add (l/2^(64-s)) M];exact Aau _ a
def dM {N:Nat}(o:18446744073709551616<N) (B l y:Nat) (c:l<18446744073709551616) (p:y<18446744073709551616) (k:B<y):
  GS N (B:Int) (l:Int) (y:Int)=some ((((B*18446744073709551616+l)/y:Nat):Int),(((B*18446744073709551616+l)%y:Nat):Int)):=by
 unfold GS;rw[show decide ((y:Int)=0)=false by simp;omega,show decide ((y:Int)≤(B:Int))=false by simp;omega,Aar,Aar];rcases Aee B with e|hp
 ·subst e;rw[show decide (((0:Nat):Int)=0)=true by simp,Aaq,oR _ _ (by omega) c,yO _ _ (by omega),Nat.zero_mul,Abt];rfl
 ·rw[show decide ((B:Int)=0)=false by simp;omega,Aar];obtain⟨s,q,m,u,d⟩:=lU N (show 0<y by omega) p;have n:∀t:Nat,t≤64→P0 (IntKind.u64.wrap (t:Int))=some t:=λt A=>by
   rw[Fa t (by omega)];unfold P0;rw[Aas (by omega)];simp
  have g:(64:Int)-IntKind.u64.wrap (s:Int)=((64-s:Nat):Int):=by rw[Fa s (by omega)];omega
  rw[q,Aap,g,n s (by omega),n (64-s) (by omega),Aap,Aap,Aap,Aap];have a:B*2^s<18446744073709551616:=Ad4 (Aca _ (Nat.le_of_lt k)) d;have b:l/2^(64-s)<2^s:=by
   refine(Aed (Ad2 _)).2 ?_;rw[←Nat.pow_add,show s+(64-s)=64 by omega];exact c
  have i:l/2^(64-s)<18446744073709551616:=Ad4 (Nat.div_le_self _ _) c;have j:B*2^s|||l/2^(64-s)=B*2^s+l/2^(64-s):=by
   rw[Add B];exact(Nat.two_pow_add_eq_or_of_lt b B).symm
  have v:EL .u64 (y:Int) s=((y*2^s:Nat):Int):=by rw[oL _ _ (by omega),Adk d]
  have w:EL .u64 (l:Int) s=((l*2^s%18446744073709551616:Nat):Int):=oL _ _ (by omega);have x:JA .or .u64 (EL .u64 (B:Int) s) (FV .u64 (l:Int) (64-s))=((B*2^s+l/2^(64-s):Nat):Int):=by
   rw[oL _ _ (by omega),Wi _ _ (by omega),Adk a,orN _ _ a i,j]
  have z:B*2^s+l/2^(64-s)<y*2^s:=by
   have:(B+1)*2^s≤y*2^s:=Aca _ k;rw[Acb,Nat.one_mul] at this;exact Aa8 (Nat.add_lt_add_left b _) this
  have hd:=dJ o (B:Int) (l:Int) (y:Int) s m s (64-s) _ _ _ v w x u d (Acq _ (by omega)) z;rw[bC (M:=18446744073709551616) rfl m,Nat.mul_div_mul_right _ _ (Ad2 s),Nat.mul_mod_mul_right,Nat.mul_div_cancel _ (Ad2 s)] at hd;exact hd
def uD (a n d:Int):Int×Int×Bool:=if (0≤a∧a≤1125899906842624)∧(0≤n∧n≤1125899906842624)∧(1≤d∧d≤1125899906842624)∧a*n/d≤1125899906842624 then (a*n/d,a*n%d,true) else (0,0,false)
def oM {t d:Nat}(hd:0<d) (a:d≤t/18446744073709551616):18446744073709551616≤t/d:=by
 refine(Nat.le_div_iff_mul_le hd).2 ?_;omega
def OV {N:Nat}(t:18446744073709551616<N) (a n d:Int):Gd N a n d=some (uD a n d):=by
 unfold Gd uD;cases m:(((((decide (a<0)||decide (1125899906842624<a))||decide (n<0))||decide (1125899906842624<n))||decide (d<1))||decide (1125899906842624<d))
 ·simp only[Abk,Abe] at m;obtain⟨⟨⟨⟨⟨y,z⟩,A⟩,B⟩,C⟩,D⟩:=m;obtain⟨b,rfl⟩:∃k:Nat,a=k:=⟨a.toNat,by omega⟩
  obtain⟨c,rfl⟩:∃k:Nat,n=k:=⟨n.toNat,by omega⟩
  obtain⟨g,rfl⟩:∃k:Nat,d=k:=⟨d.toNat,by omega⟩
  rw[Aar,Fa b (by omega),Fa c (by omega),Fa g (by omega),Sm N b c (by omega) (by omega)];simp only[Aap];have u:(b:Int)*(c:Int)/(g:Int)=((b*c/g:Nat):Int):=by rw[Int.natCast_ediv,Int.natCast_mul]
  have v:(b:Int)*(c:Int)%(g:Int)=((b*c%g:Nat):Int):=by rw[Int.natCast_emod,Int.natCast_mul]
  rw[u,v];have o:b*c/18446744073709551616*18446744073709551616+b*c%18446744073709551616=b*c:=(YE _ _).symm;have j:0<g:=by omega
  by_cases l:g≤b*c/18446744073709551616
  ·rw[show decide ((g:Int)≤((b*c/18446744073709551616:Nat):Int))=true from Aba (Int.ofNat_le.2 l),Aaq,Aas];intro F;have p:=F.2.2.2;have w:=oM j l;generalize b*c/g=q at p w
   omega
  ·have s:¬(g:Int)≤((b*c/18446744073709551616:Nat):Int):=λF=>l (Int.ofNat_le.1 F);rw[Aaz s,Aar,dM t _ _ _ (Acq _ (by omega)) (by omega) (Nat.lt_of_not_le l),o];simp only[Aap];have x:b*c%g<g:=Acq _ j;generalize b*c/g=q
   generalize b*c%g=r at x
   by_cases p:q≤1125899906842624
   ·have i:¬(1125899906842624:Int)<(q:Int):=by omega
    rw[Aaz i,Aar,Aav ⟨by omega,by omega,by omega,by omega⟩,D5 (by omega) (by omega),D5 (by omega) (by omega)]
   ·have i:(1125899906842624:Int)<(q:Int):=by omega
    rw[Aba i,Aaq,Aas (λF=>p (by have:=F.2.2.2;omega))]
 ·rw[Aaq,Aas];intro F;simp only[Abh,Abd] at m;omega
def LW (b x:Bool):cond b true x=(b||x):=by cases b<;>rfl
def Pz (b x:Bool):cond b x false=(b&&x):=by cases b<;>rfl
def A9 {k:Nat}(a:k<4611686018427387904):BO ((k:Int)+1)=((k+1:Nat):Int):=by rw[D5 (by omega) (by omega)];rfl
def FW {k L:Nat}(a:k<L):decide ((k:Int)<(L:Int))=true:=by simp;omega
def Ft {k L:Nat}(a:L≤k):decide ((k:Int)<(L:Int))=false:=by simp;omega
def Jd (L:Nat) (f:Nat→Int→Option Bool) (kj:Option Bool) (P:Nat→Prop) (a:∀n (k:Nat),L≤k→f (n+1) (k:Int)=kj) (b:∀n (k:Nat),k<L→f (n+1) (k:Int)=some false∨(P k∧f (n+1) (k:Int)=f n ((k+1:Nat):Int))):
  ∀n (k:Nat),L<n+k→k≤L→f n (k:Int)=some false∨((∀i,k≤i→i<L→P i)∧f n (k:Int)=kj)
 |0,k,o,l=>by omega
 |n+1,k,o,l=>by
  rcases Abb k L with d|d
  ·rcases b n k d with g|⟨g,h2⟩
   ·exact .inl g
   ·rcases Jd L f kj P a b n (k+1) (by omega) (by omega) with j|⟨j,h4⟩
    ·exact .inl (h2.trans j)
    ·refine .inr ⟨λi m c=>?_,h2.trans h4⟩;by_cases e:i=k
     ·subst e;exact g
     ·exact j i (by omega) c
  ·exact .inr ⟨λi m c=>by omega,a n k d⟩
def Xr {σ q:Type}(L:Nat) (f:Nat→Int→σ→Option q) (kj:σ→Option q) (I:σ→Prop) (a:∀n (k:Nat) s,L≤k→f (n+1) (k:Int) s=kj s) (b:∀n (k:Nat) s,I s→k<L→∃s',I s'∧f (n+1) (k:Int) s=f n ((k+1:Nat):Int) s'):
  ∀n (k:Nat) s,I s→L<n+k→k≤L→∃s',I s'∧f n (k:Int) s=kj s'
 |0,k,s,_,t,g=>by omega
 |n+1,k,s,d,t,g=>by
  rcases Abb k L with c|c
  ·obtain⟨i,j,l⟩:=b n k s d c;obtain⟨m,o,p⟩:=Xr L f kj I a b n (k+1) i j (by omega) (by omega);exact⟨m,o,l.trans p⟩
  ·exact⟨s,d,a n k s c⟩
def TS (n:Int):Bool:=decide (0≤n)&&decide (n≤1125899906842624)
def Ky {n:Int}(a:TS n=true):Jc n:=by simpa [TS,Jc] using a
def L8 (N:Nat) (n:Int):Ct N n=some (TS n):=rfl
def cO (n a b:Int):Bool:=decide (a≤n)&&decide (n≤b)
def NV (N:Nat) (n a b:Int):C4 N n a b=some (cO n a b):=rfl
def Kw {n a b:Int}(c:cO n a b=true):a≤n∧n≤b:=by simpa [cO] using c
def T5 (a b:Int):Bool:=(TS a&&TS b)&&(decide (b≠0)||decide (a=0))
def Qb (N:Nat) (a b:Int):Hc N a b=some (T5 a b):=by
 simp only[Hc,L8,Aap,Gh,Pz,T5]
def PH {a b:Int}(c:T5 a b=true):Jc a∧Jc b:=by
 simp only[T5,Aax] at c;exact⟨Ky c.1.1,Ky c.1.2⟩
def QZ (N:Nat) (n:Int) {L:Nat}(a:L<4611686018427387904):Fq N n (L:Int)=some (cO n 0 ((L:Int)-1)):=by
 simp only[Fq,NV,Aap];rw[D5 (by omega) (by omega)]
def VV (L:Nat) (fr to:Int):Bool:=decide (to= -1)||(cO to 0 ((L:Int)-1)&&decide (to≠fr))
def Qt (N:Nat) (b:AF) (fr to:Int) (a:b.A.length<4611686018427387904):JV N b fr to=some (VV b.A.length fr to):=by
 simp only[JV,QZ N _ a,Aap,Gh,LW,VV]
def Xb {L:Nat}{fr to:Int}(a:VV L fr to=true):to= -1∨(0≤to∧to<L):=by
 simp only[VV,Abh,Aax,Abd] at a;rcases a with a|a
 ·exact .inl a
 ·have:=Kw a.1;exact .inr ⟨this.1,by omega⟩
structure Ig (b:AF):Prop where
 own:b.H.length≤16
 cells:0≤b.J∧b.J≤64
 pl:b.A.length≤64
 li:b.C.length≤96
 to:b.Af.length≤40
 ga:b.Ah.length≤128
 ro:b.Ai.length≤128
 sh:b.Ak.length≤40
 own1:1≤b.H.length
def Us {s:ByteArray}{k:Nat}(a:k<s.size):∃z,YG s (k:Int)=some z:=by
 unfold YG;rw[Aas (by omega)];simp only[Abx];exact⟨_,by rw[getElem?_pos s k a];rfl⟩
def iE {N:Nat}(q:1000<N) (b:AF):∃v,Hu N b=some v∧(v=true→Ig b):=by
 unfold Hu;simp only[NV,Aap,Gh,LW];generalize d:(_|| !cO b.K 0 1099511627776)=B
 cases B
 ·simp only[Abk,Abe,Ac4] at d;obtain⟨⟨⟨⟨⟨⟨⟨⟨⟨⟨s,g⟩,i⟩,j⟩,t⟩,u⟩,w⟩,x⟩,y⟩,l⟩,m⟩:=d;have A:=Kw g;have C:=Kw i;have F:=Kw j;have c:Ig b:=⟨by omega,by omega,by omega,by omega,by omega,by omega,by omega,by omega,by omega⟩
  simp only[Aar];have a:∃v,Eq N b=some v:=by
   unfold Eq;rcases Jd b.Aj.length (Eo N b (G6 N)) (G6 N) (λ_=>True) (λn k G=>by
    simp only[Eo];rw[Ft G];rfl) (λn k G=>by
    simp only[Eo];rw[FW G,Aaq,BB G];simp only[Aap,L8,A9 (show k<4611686018427387904 by omega)];cases TS b.Aj[k]
    ·exact .inl rfl
    ·exact .inr ⟨trivial,rfl⟩) N 0 (by omega) (Aaw _) with G|⟨_,G⟩
   ·exact⟨_,G⟩
   ·exact⟨true,G⟩
  rcases Jd b.D.size (Ep N b (Eq N b)) (Eq N b) (λ_=>True) (λn k G=>by
    simp only[Ep];rw[Ft G];rfl) (λn k G=>by
    simp only[Ep];obtain⟨z,o⟩:=Us G;rw[FW G,Aaq,o];simp only[Aap,A9 (show k<4611686018427387904 by omega)];cases (decide (z<32)||decide (126<z)||decide (z=34)||decide (z=92))
    ·exact .inr ⟨trivial,rfl⟩
    ·exact .inl rfl) N 0 (by omega) (Aaw _) with G|⟨_,G⟩
  ·exact⟨false,G,λG=>by cases G⟩
  ·obtain⟨v,p⟩:=a;exact⟨v,G.trans p,λ_=>c⟩
 ·exact⟨false,rfl,λG=>by cases G⟩
def ZI {N:Nat}(d:1000<N) (s:ByteArray):Df (J4 N s):=by
 unfold J4;cases c:(decide ((s.size:Int)<1)||decide (24<(s.size:Int))||s==ByteArray.mk #[111,117,116])
 ·simp only[Abk,Abe] at c;obtain⟨z,a⟩:=Us (s:=s) (k:=0) (by omega);have b:YG s 0=some z:=a;simp only[Aar,b,Aap,Gh,LW];refine Df.cond (λ_=>Df.mk _) λ_=>?_;rcases Jd s.size (GT N s (Hv N)) (Hv N) (λ_=>True) (λn k g=>by
    simp only[GT];rw[Ft g];rfl) (λn k g=>by
    simp only[GT];obtain⟨z,a⟩:=Us g;rw[FW g,Aaq,a];simp only[Aap,A9 (show k<4611686018427387904 by omega)];cases (((decide (z<97)||decide (122<z))&&(decide (z<48)||decide (57<z)))&&decide (z≠95))
    ·exact .inr ⟨trivial,rfl⟩
    ·exact .inl rfl) N 1 (by omega) (by omega) with g|⟨_,g⟩
  ·exact⟨_,g⟩
  ·exact⟨_,g⟩
 ·simp only[Aaq,Aap];exact Df.mk _
def cU {N:Nat}(d:1000<N) (m:List (AG×Bool)) (a b:ByteArray):Df (KY N m a b):=by
 have c:∀s,Df (IQ N m b s):=λs=>by
  unfold IQ;exact Df.bind (ZI d b) λ_ _=>Df.cond (λ_=>Df.mk _) λ_=>Df.mk _
 unfold KY;exact Df.cond (λ_=>c _) λ_=>c _
def Mo {N:Nat}(d:1000<N) (m:List (AG×Bool)) (c:Bool) (a b:ByteArray):∃v,DZ N m c a b=some v:=by
 unfold DZ;exact Df.bind (cU d m a b) λ_ _=>Df.mk _
def bV {N:Nat}(c:1000<N) {b:AF}(m:Ig b):Df (Jg N b):=by
 obtain⟨u,w,x,y,z,B,F,G⟩:=m;have d:∀{σ} (L:Nat) (f:Nat→Int→σ→Option Bool) (kj:σ→Option Bool),L≤128→(∀n (k:Nat) s,L≤k→f (n+1) (k:Int) s=kj s)→(∀n (k:Nat) s,k<L→∃s',f (n+1) (k:Int) s=f n ((k+1:Nat):Int) s')→(∀s,Df (kj s))→∀s,Df (f N 0 s):=λL f kj I g o i s=>by
  obtain⟨s',_,e⟩:=Xr L f kj (λ_=>True) g (λn k s _ J=>by obtain⟨s',h'⟩:=o n k s J;exact⟨s',trivial,h'⟩) N 0 s trivial (by omega) (Aaw _);obtain⟨v,a⟩:=i s';exact⟨v,e.trans a⟩
 have j:∀s:Bool×List (AG×Bool),Df (Di N b (Eu N) N 0 s.1 s.2):=d (σ:=Bool×List (AG×Bool)) b.Ai.length (λn k s=>Di N b (Eu N) n k s.1 s.2) (λs=>Eu N s.1) (by omega) (λn k s J=>by simp only[Di];rw[Ft J];rfl)
  (λn k s J=>by
   simp only[Di];rw[FW J,Aaq,BB J];simp only[Aap];obtain⟨v,a⟩:=Mo c s.2 s.1 (ByteArray.mk #[114,111,97,100]) (b.Ai[k]).D;rw[a];simp only[Aap,A9 (show k<4611686018427387904 by omega)];exact⟨(v.2,v.1),rfl⟩) (λs=>Df.mk _)
 have l:∀s:Bool×List (AG×Bool),Df (Dj N b (Ev N b) N 0 s.1 s.2):=d (σ:=Bool×List (AG×Bool)) b.Ah.length (λn k s=>Dj N b (Ev N b) n k s.1 s.2) (λs=>Ev N b s.1 s.2) (by omega) (λn k s J=>by simp only[Dj];rw[Ft J];rfl)
  (λn k s J=>by
   simp only[Dj];rw[FW J,Aaq,BB J];simp only[Aap];obtain⟨v,a⟩:=Mo c s.2 s.1 (ByteArray.mk #[103,97,117,103,101]) (b.Ah[k]).D;rw[a];simp only[Aap,A9 (show k<4611686018427387904 by omega)];exact⟨(v.2,v.1),rfl⟩) (λs=>j s)
 have p:∀s:Bool×List (AG×Bool),Df (Dv N b (FO N b) N 0 s.1 s.2):=d (σ:=Bool×List (AG×Bool)) b.Ak.length (λn k s=>Dv N b (FO N b) n k s.1 s.2) (λs=>FO N b s.1 s.2) (by omega) (λn k s J=>by simp only[Dv];rw[Ft J];rfl)
  (λn k s J=>by
   simp only[Dv];rw[FW J,Aaq,BB J];simp only[Aap];obtain⟨v,a⟩:=Mo c s.2 s.1 (ByteArray.mk #[115,104,101,108,116,101,114]) (b.Ak[k]).D;rw[a];simp only[Aap,A9 (show k<4611686018427387904 by omega)];exact⟨(v.2,v.1),rfl⟩) (λs=>l s)
 have q:∀s:Bool×List (AG×Bool),Df (Dw N b (FP N b) N 0 s.1 s.2):=d (σ:=Bool×List (AG×Bool)) b.Af.length (λn k s=>Dw N b (FP N b) n k s.1 s.2) (λs=>FP N b s.1 s.2) (by omega) (λn k s J=>by simp only[Dw];rw[Ft J];rfl)
  (λn k s J=>by
   simp only[Dw];rw[FW J,Aaq,BB J];simp only[Aap];obtain⟨v,a⟩:=Mo c s.2 s.1 (ByteArray.mk #[116,111,119,110]) (b.Af[k]).D;rw[a];simp only[Aap,A9 (show k<4611686018427387904 by omega)];exact⟨(v.2,v.1),rfl⟩) (λs=>p s)
 have t:∀s:Bool×List (AG×Bool),Df (Dx N b (FQ N b) N 0 s.1 s.2):=d (σ:=Bool×List (AG×Bool)) b.C.length (λn k s=>Dx N b (FQ N b) n k s.1 s.2) (λs=>FQ N b s.1 s.2) (by omega) (λn k s J=>by simp only[Dx];rw[Ft J];rfl)
  (λn k s J=>by
   simp only[Dx];rw[FW J,Aaq,BB J];simp only[Aap];obtain⟨v,a⟩:=Mo c s.2 s.1 (ByteArray.mk #[108,105,110,107]) (b.C[k]).D;rw[a];simp only[Aap,A9 (show k<4611686018427387904 by omega)];exact⟨(v.2,v.1),rfl⟩) (λs=>q s)
 have i:∀s:Bool×List (AG×Bool),Df (Dy N b (FT N b) N 0 s.1 s.2):=d (σ:=Bool×List (AG×Bool)) b.A.length (λn k s=>Dy N b (FT N b) n k s.1 s.2) (λs=>FT N b s.1 s.2) (by omega) (λn k s J=>by simp only[Dy];rw[Ft J];rfl)
  (λn k s J=>by
   simp only[Dy];rw[FW J,Aaq,BB J];simp only[Aap];obtain⟨v,a⟩:=Mo c s.2 s.1 (ByteArray.mk #[112,108,97,99,101]) (b.A[k]).D;rw[a];simp only[Aap,A9 (show k<4611686018427387904 by omega)];exact⟨(v.2,v.1),rfl⟩) (λs=>t s)
 have g:∀s:Bool×List (AG×Bool),Df (Dz N b (FU N b) N 0 s.1 s.2):=d (σ:=Bool×List (AG×Bool)) b.H.length (λn k s=>Dz N b (FU N b) n k s.1 s.2) (λs=>FU N b s.1 s.2) (by omega) (λn k s J=>by simp only[Dz];rw[Ft J];rfl)
  (λn k s J=>by
   simp only[Dz];rw[FW J,Aaq,BB J];simp only[Aap];obtain⟨v,a⟩:=Mo c s.2 s.1 (ByteArray.mk #[111,119,110,101,114]) (b.H[k]);rw[a];simp only[Aap,A9 (show k<4611686018427387904 by omega)];exact⟨(v.2,v.1),rfl⟩) (λs=>i s)
 exact g (true,[])
structure Il (b:AF) (p:Ca):Prop where
 lev:Im p.Bj
 num:Jc p.Y
 den:Jc p.S
 down:p.Ao= -1∨(0≤p.Ao∧p.Ao<b.A.length)
 cap:Jc p.Au
 delay:0≤p.Q∧p.Q≤240
def Va {N:Nat}(p:Ca) (kj:Int→Option Bool) (b:p.An.length≤16):∀(n:Nat) (s:Int) (k:Nat),p.An.length<n+k→k≤p.An.length→DA N p kj n s (k:Int)=some false∨∃s',DA N p kj n s (k:Int)=kj s'
 |0,s,k,d,c=>by omega
 |n+1,s,k,d,c=>by
  simp only[DA];rcases Abb k p.An.length with a|a
  ·rw[FW a,Aaq,BB a];simp only[Aap,L8,A9 (show k<4611686018427387904 by omega)];cases TS p.An[k]
   ·exact .inl rfl
   ·exact Va (N:=N) p kj b n _ (k+1) (by omega) (by omega)
  ·rw[Ft a];exact .inr ⟨s,rfl⟩
def Xj {N:Nat}(b:AF) (p:Ca) (a:Int) (kj:Int→Option Bool) (g:0≤b.J∧b.J≤64):∀(n:Nat) (s:Int) (k:Nat), -1≤s→s≤64→65<n+s→k<100→(k:Int)≤s+1→CX N b p a kj n s (k:Int)=some false∨CX N b p a kj n s (k:Int)=kj a
 |0,s,k,i,j,l,m,o=>by omega
 |n+1,s,k,i,j,l,m,o=>by
  simp only[CX];rcases Abb k p.T.length with c|c
  ·rw[FW c,Aaq,BB c];simp only[Aap,L8,Gh,LW,A9 (show k<4611686018427387904 by omega)];cases d:(decide ((p.T[k]).Bf≤s)||decide (b.J≤(p.T[k]).Bf)|| !TS (p.T[k]).Bo)
   ·simp only[Abk,Abe] at d;obtain⟨⟨q,t⟩,u⟩:=d;exact Xj (N:=N) b p a kj g n _ (k+1) (by omega) (by omega) (by omega) (by omega) (by omega)
   ·exact .inl rfl
  ·rw[Ft c];exact .inr rfl
def Tt {N:Nat}(o:1000<N) (b:AF) (a:Ig b):∀(n:Nat) (s:Int) (k:Nat),b.A.length<n+k→k≤b.A.length→∃v,B1 N b (CN N) n s (k:Int)=some v∧(v=true→∀(i:Nat) p,k≤i→b.A[i]? =some p→Il b p)
 |0,s,k,Y,q=>by omega
 |n+1,s,k,Y,q=>by
  have Q:=a.pl;simp only[B1];rcases Abb k b.A.length with c|c
  ·rw[FW c,Aaq,BB c];obtain⟨U,g,j⟩:=J5 (N:=N) (by omega) (b.A[k]).Bj;simp only[Aap,NV,L8,Qb,g,Qt N b _ _ (show b.A.length<4611686018427387904 by omega),Gh,LW];generalize l:(_|| !VV b.A.length (k:Int) (b.A[k]).Ao)=B
   cases B
   ·simp only[Abk,Abe,Ac4] at l;obtain⟨⟨⟨⟨⟨⟨⟨⟨V,W⟩,t⟩,u⟩,X⟩,w⟩,x⟩,m⟩,y⟩:=l;have z:(b.A[k]).An.length=b.H.length:=by
     have:((b.A[k]).An.length:Int)=(b.H.length:Int):=by simpa using x
     omega
    have C:Il b b.A[k]:=⟨j w,(PH m).1,(PH m).2,Xb y,Ky u,Kw t⟩
    simp only[Aar];rcases Va (N:=N) b.A[k] (Et N b b.A[k] (Cw N (k:Int) (B1 N b (CN N) n))) (by have:=a.own;omega) N s 0 (by have:=a.own;omega) (Aaw _) with e|⟨s',e⟩
    ·exact⟨false,e,λY=>by cases Y⟩
    ·have D:DA N b.A[k] (Et N b b.A[k] (Cw N (k:Int) (B1 N b (CN N) n))) N s 0=_:=e;rw[D];unfold Et;rcases Xj (N:=N) b b.A[k] s' (Cw N (k:Int) (B1 N b (CN N) n)) a.cells N (-1) 0 (by omega) (by omega) (by omega) (by omega) (by omega) with e|e
     ·exact⟨false,e,λY=>by cases Y⟩
     ·have F:CX N b b.A[k] s' (Cw N (k:Int) (B1 N b (CN N) n)) N (-1) 0=_:=e;rw[F];unfold Cw;rw[A9 (show k<4611686018427387904 by omega)];obtain⟨v,G,I⟩:=Tt o b a n s' (k+1) (by omega) (by omega);refine⟨v,G,λJ i p K d=>?_⟩;by_cases M:i=k
      ·subst M;have:p=b.A[i]:=by simpa [c] using d.symm
       rw[this];exact C
      ·exact I J i p (by omega) d
   ·exact⟨false,rfl,λY=>by cases Y⟩
  ·rw[Ft c];refine⟨_,rfl,λ_ i p K d=>?_⟩;have:=(Aa4.1 d).1;omega
def Y8 {N:Nat}(c:1000<N) (b:AF) (a:Ig b):∃v,HI N b=some v∧(v=true→∀p∈b.A,Il b p):=by
 obtain⟨v,d,g⟩:=Tt c b a N 0 0 (by have:=a.pl;omega) (Aaw _);refine⟨v,d,λj p k=>?_⟩;obtain⟨i,l,rfl⟩:=Aef.1 k;exact g j i _ (Aaw _) (by simp [l])
structure KA (b:AF) (l:A8):Prop where
 kind:0≤l.F∧l.F≤5
 fr:0≤l.M∧l.M<b.A.length
 to:l.E= -1∨(0≤l.E∧l.E<b.A.length)
 delay:0≤l.Q∧l.Q≤240
 gate:l.F=0→Im l.As∧Im l.Ad.Av∧Im l.Ad.Aw∧Jc l.Aq∧Jc l.Al
 part:l.F=1∨l.F=5∨l.F=3→Jc l.Y∧1≤l.S∧l.S≤1125899906842624
 seep:l.F=4→Jc l.Y∧1≤l.S∧l.S≤1125899906842624∧Jc l.Aq∧Jc l.Al∧l.E≠ -1
def Z3 {N:Nat}(d:18446744073709551616<N) (a b:List BU) (g:1≤a.length) (c:a.length≤32) (i:b.length≤32):Df (G4 N a b):=by
 unfold G4;rcases Jd b.length (G2 N a b (IP N)) (IP N) (λ_=>True) (λn k l=>by
  simp only[G2];rw[Ft l];rfl) (λn k l=>by
  simp only[G2];obtain⟨v,j⟩:=SF d g c (b[k]).P;rw[FW l,Aaq,BB l];simp only[Aap,j,A9 (show k<4611686018427387904 by omega)];cases (decide ((b[k]).X<v.1)||decide (v.1=(b[k]).X)&&v.2)
  ·exact .inr ⟨trivial,rfl⟩
  ·exact .inl rfl) N 0 (by omega) (Aaw _) with l|⟨_,l⟩
 ·exact⟨_,l⟩
 ·exact⟨true,l⟩
def QE {N:Nat}(d:18446744073709551616<N) (a b:List BU):Df (IJ N a b):=by
 unfold IJ;obtain⟨s,i,j⟩:=J5 (N:=N) (by omega) a;obtain⟨t,l,m⟩:=J5 (N:=N) (by omega) b;simp only[i,l,Aap,Gh,LW];refine Df.cond (λ_=>Df.mk _) λu=>?_;simp only[Abk,Ac4] at u;obtain⟨o,p,_⟩:=j u.1;obtain⟨q,g,_⟩:=m u.2;rcases Jd a.length (G3 N a b (G4 N a b)) (G4 N a b) (λ_=>True) (λn k u=>by
  simp only[G3];rw[Ft u];rfl) (λn k u=>by
  simp only[G3];obtain⟨v,c⟩:=SF d q g (a[k]).P;rw[FW u,Aaq,BB u];simp only[Aap,c,A9 (show k<4611686018427387904 by omega)];cases decide (v.1<(a[k]).X)
  ·exact .inr ⟨trivial,rfl⟩
  ·exact .inl rfl) N 0 (by omega) (Aaw _) with u|⟨_,u⟩
 ·exact⟨_,u⟩
 ·obtain⟨v,c⟩:=Z3 d a b o p g;exact⟨v,u.trans c⟩
def T9 {N:Nat}(m:18446744073709551616<N) (l:A8):∃v,GL N l=some v∧(v=true→
  (l.F=0→Im l.As∧Im l.Ad.Av∧Im l.Ad.Aw∧Jc l.Aq∧Jc l.Al)∧(l.F=1∨l.F=5∨l.F=3→Jc l.Y∧1≤l.S∧l.S≤1125899906842624)∧
  (¬(l.F=0∨l.F=1∨l.F=5∨l.F=2∨l.F=3)→Jc l.Y∧1≤l.S∧l.S≤1125899906842624∧Jc l.Aq∧Jc l.Al∧l.E≠ -1)):=by
 obtain⟨v1,q,s⟩:=J5 (N:=N) (by omega) l.As;obtain⟨C,t,u⟩:=J5 (N:=N) (by omega) l.Ad.Av;obtain⟨D,w,x⟩:=J5 (N:=N) (by omega) l.Ad.Aw;obtain⟨G,y⟩:=QE m l.Ad.Av l.As;obtain⟨H,z⟩:=QE m l.As l.Ad.Aw;unfold GL;by_cases k0:l.F=0
 ·rw[show decide (l.F=0)=true by simp [k0],Aaq];simp only[q,t,w,y,z,NV,L8,Qb,Aap,Gh,Pz];refine⟨_,rfl,λU=>?_⟩;simp only[Aax] at U;obtain⟨⟨⟨⟨⟨⟨⟨⟨⟨d,a⟩,b⟩,i⟩,A⟩,I⟩,J⟩,K⟩,n⟩,B⟩:=U;exact⟨λ_=>⟨s d,u a,x b,(PH n).1,(PH n).2⟩,λU=>by omega,λU=>absurd (.inl k0) U⟩
 ·rw[show decide (l.F=0)=false by simp [k0],Aar];have o:∀c:Bool,(c=true↔l.F=1∨l.F=5)→∃v,EI N l c=some v∧(v=true→
    (l.F=0→Im l.As∧Im l.Ad.Av∧Im l.Ad.Aw∧Jc l.Aq∧Jc l.Al)∧(l.F=1∨l.F=5∨l.F=3→Jc l.Y∧1≤l.S∧l.S≤1125899906842624)∧
    (¬(l.F=0∨l.F=1∨l.F=5∨l.F=2∨l.F=3)→Jc l.Y∧1≤l.S∧l.S≤1125899906842624∧Jc l.Aq∧Jc l.Al∧l.E≠ -1)):=λc p=>by
   unfold EI;simp only[NV,L8,Qb,Aap,Gh,Pz];cases c
   ·have M:¬(l.F=1∨l.F=5):=λU=>by have:=p.2 U;cases this
    rw[Aar];by_cases j:l.F=2
    ·rw[show decide (l.F=2)=true by simp [j],Aaq];exact⟨_,rfl,λ_=>⟨λU=>absurd U k0,λU=>by omega,λU=>absurd (.inr (.inr (.inr (.inl j)))) U⟩⟩
    ·rw[show decide (l.F=2)=false by simp [j],Aar];by_cases k:l.F=3
     ·rw[show decide (l.F=3)=true by simp [k],Aaq];refine⟨_,rfl,λU=>?_⟩;simp only[Aax] at U;obtain⟨⟨⟨⟨d,a⟩,b⟩,i⟩,A⟩:=U;exact⟨λU=>absurd U k0,λ_=>⟨Ky d,Kw a⟩,λU=>absurd (.inr (.inr (.inr (.inr k)))) U⟩
     ·rw[show decide (l.F=3)=false by simp [k],Aar];refine⟨_,rfl,λU=>?_⟩;simp only[Aax,Abd] at U;obtain⟨⟨⟨d,a⟩,b⟩,i⟩:=U;exact⟨λU=>absurd U k0,λU=>by omega,λ_=>⟨Ky d,(Kw a).1,(Kw a).2,(PH b).1,(PH b).2,i⟩⟩
   ·have Q:=p.1 rfl;rw[Aaq];refine⟨_,rfl,λU=>?_⟩;simp only[Aax] at U;obtain⟨⟨d,a⟩,b⟩:=U;exact⟨λU=>absurd U k0,λ_=>⟨Ky a,Kw b⟩,λU=>by omega⟩
  by_cases g:l.F=1
  ·rw[show decide (l.F=1)=true by simp [g],Aaq];exact o true (by simp [g])
  ·rw[show decide (l.F=1)=false by simp [g],Aar];exact o _ (by simp [g])
def Tl (N:Nat) (l:A8):Df (FK N l):=by
 unfold FK;exact Df.cond (λ_=>Df.mk _) λ_=>Df.cond (λ_=>Df.mk _) λ_=>Df.cond (λ_=>Df.mk _) λ_=>Df.cond (λ_=>Df.mk _) λ_=>Df.cond (λ_=>Df.mk _) λ_=>Df.mk _
def cB {N:Nat}(m:18446744073709551616<N) (b:AF) (c:Ig b):∃v,Ew N b=some v∧(v=true→∀l∈b.C,KA b l):=by
 have H:=c.pl;have I:=c.li;unfold Ew;rcases Jd b.C.length (CS N b (Dd N)) (Dd N) (λi=>∀l,b.C[i]? =some l→KA b l) (λn k M=>by
  simp only[CS];rw[Ft M];rfl) (λn k M=>by
  simp only[CS];obtain⟨J,o,p⟩:=T9 m b.C[k];obtain⟨q,s⟩:=Tl N b.C[k];rw[FW M,Aaq,BB M];simp only[Aap,NV,QZ N _ (show b.A.length<4611686018427387904 by omega),Qt N b _ _ (show b.A.length<4611686018427387904 by omega),o,s,Gh,LW,A9 (show k<4611686018427387904 by omega)];generalize d:(_|| !q)=B
  cases B
  ·simp only[Abk,Ac4] at d;obtain⟨⟨⟨⟨⟨t,u⟩,w⟩,g⟩,x⟩,K⟩:=d;have y:=Kw t;have z:=Kw u;obtain⟨D,F,G⟩:=p x;refine .inr ⟨λl a=>?_,rfl⟩;have:l=b.C[k]:=by simpa [M] using a.symm
   rw[this];exact⟨y,⟨z.1,by omega⟩,Xb w,Kw g,D,F,λg=>G (by omega)⟩
  ·exact .inl rfl) N 0 (by omega) (Aaw _) with M|⟨hp,M⟩
 ·exact⟨false,M,λM=>by cases M⟩
 ·refine⟨true,M,λ_ l a=>?_⟩;obtain⟨i,j,rfl⟩:=Aef.1 a;exact hp i (Aaw _) j _ (by simp [j])
def Xp (N:Nat) (b:AF) (o to:Int) (c:to= -1∨(0≤to∧to<b.A.length)):Df (KI N b o to):=by
 unfold KI;refine Df.cond (λ_=>Df.mk _) λa=>?_;simp only[Abe] at a;exact Df.bind (Df.ix (by omega) (by omega)) λ_ _=>Df.mk _
def Ws {N:Nat}(w:1000<N) (b:AF) (m:Ig b) (o:∀p∈b.A,Il b p) (q:∀l∈b.C,KA b l):Df (Ho N b):=by
 have y:=m.pl;have B:=m.li;have s:Df (D3 N b):=by
  unfold D3;rcases Jd b.C.length (D1 N b (Fg N)) (Fg N) (λ_=>True) (λn k D=>by
   simp only[D1];rw[Ft D];rfl) (λn k D=>by
   simp only[D1];have a:=q b.C[k] (Aa9 D);obtain⟨x,t⟩:=Df.ix (l:=b.A) a.fr.1 a.fr.2;obtain⟨v,c⟩:=Xp N b x.At (b.C[k]).E a.to;rw[FW D,Aaq,BB D];simp only[Aap,t,c,A9 (show k<4611686018427387904 by omega)];have i:∃z,(cond (!v) (some true) ((cond (decide ((b.C[k]).F=4)) ((ix b.A (b.C[k]).E).bind λd=>some (decide (d.At≠x.At))) (some false)).bind λg=>some g))=some z:=by
    refine Df.cond (λ_=>Df.mk _) λ_=>Df.bind (Df.cond (λu=>?_) λ_=>Df.mk _) λ_ _=>Df.mk _;have j:(b.C[k]).F=4:=by simpa using u
    have:=(a.seep j).2.2.2.2.2;have:=a.to;exact Df.bind (Df.ix (by omega) (by omega)) λ_ _=>Df.mk _
   obtain⟨z,i⟩:=i;rw[i];simp only[Aap];cases z
   ·exact .inr ⟨trivial,rfl⟩
   ·exact .inl rfl) N 0 (by omega) (Aaw _) with D|⟨_,D⟩
  ·exact⟨_,D⟩
  ·exact⟨true,D⟩
 unfold Ho;rcases Jd b.A.length (D2 N b (D3 N b)) (D3 N b) (λ_=>True) (λn k D=>by
   simp only[D2];rw[Ft D];rfl) (λn k D=>by
   simp only[D2];have a:=o b.A[k] (Aa9 D);obtain⟨v,c⟩:=Xp N b (b.A[k]).At (b.A[k]).Ao a.down;rw[FW D,Aaq,BB D];simp only[Aap,c,A9 (show k<4611686018427387904 by omega)];cases v
   ·exact .inl rfl
   ·exact .inr ⟨trivial,rfl⟩) N 0 (by omega) (Aaw _) with D|⟨_,D⟩
 ·exact⟨_,D⟩
 ·obtain⟨v,c⟩:=s;exact⟨v,D.trans c⟩
def VZ {N:Nat}(d:18446744073709551616<N) (c:List BU) (g:Im c) (kj:Int→Option Int):∀(n:Nat) (s:Int) (k:Nat),c.length<n+k→1≤k→k≤c.length→∃s',FJ N c kj n s (k:Int)=kj s'
 |0,s,k,A,i,j=>by omega
 |n+1,s,k,A,i,j=>by
  obtain⟨l,m,b⟩:=g;simp only[FJ];rcases Abb k c.length with a|a
  ·have o:BO ((k:Int)-1)=((k-1:Nat):Int):=by rw[D5 (by omega) (by omega)];omega
   rw[FW a,Aaq,o,BB a,BB (show k-1<c.length by omega)];simp only[Aap,A9 (show k<4611686018427387904 by omega)];obtain⟨p,q,t⟩:=b k c[k] (by simp [a]);obtain⟨u,w,_⟩:=b (k-1) c[k-1] (by simp [show k-1<c.length by omega]);obtain⟨y,z⟩:=t c[k-1] (by omega) (by simp [show k-1<c.length by omega]);unfold Jc at p q u w;obtain⟨v,x⟩:=NO d (num:=BO ((c[k]).X-(c[k-1]).X)) (den:=BO ((c[k]).P-(c[k-1]).P)) (by rw[D5 (by omega) (by omega)];omega) (by rw[D5 (by omega) (by omega)];omega) (by rw[D5 (by omega) (by omega)];omega);rw[x];exact VZ d c ⟨l,m,b⟩ kj n _ (k+1) (by omega) (by omega) (by omega)
  ·rw[Ft a];exact⟨s,rfl⟩
def aQ {N:Nat}(d:18446744073709551616<N) (cs:List (List BU)) (m:cs.length≤3) (g:∀c∈cs,Im c):Df (JW N cs):=by
 unfold JW;have:∀(n:Nat) (s:Int) (k:Nat),cs.length<n+k→k≤cs.length→Df (Dg N cs (Ee N) n s (k:Int)):=by
  intro n
  induction n with
  |zero=>intro s k o i;omega
  |succ n j=>
   intro s k o i;simp only[Dg];rcases Abb k cs.length with a|a
   ·rw[FW a,Aaq,BB a];simp only[Aap];have b:=g cs[k] (Aa9 a);obtain⟨s',e⟩:=VZ d cs[k] b (GK N (k:Int) (Dg N cs (Ee N) n)) N s 1 (by have:=b.2.1;omega) (by omega) b.1;have l:FJ N cs[k] (GK N (k:Int) (Dg N cs (Ee N) n)) N s 1=_:=e;rw[l];unfold GK;rw[A9 (show k<4611686018427387904 by omega)];exact j s' (k+1) (by omega) (by omega)
   ·rw[Ft a];exact Df.mk _
 exact this N 0 0 (by omega) (Aaw _)
def La {α}(l:List α) (i:Int) (x:α):(upd l i x).length=l.length:=by simp [upd]
def uC {N:Nat}(a:1000<N) (l:List Int) (b:l.length≤64):Df (C9 N l):=by
 unfold C9;rcases Jd l.length (ED N l (GB N)) (GB N) (λ_=>True) (λn k c=>by
  simp only[ED];rw[Ft c];rfl) (λn k c=>by
  simp only[ED];rw[FW c,Aaq,BB c];simp only[Aap,A9 (show k<4611686018427387904 by omega)];cases decide (1099511627776<l[k])
  ·exact .inr ⟨trivial,rfl⟩
  ·exact .inl rfl) N 0 (by omega) (Aaw _) with c|⟨_,c⟩
 ·exact⟨_,c⟩
 ·exact⟨true,c⟩
def lN {N:Nat}(o:18446744073709551616<N) (b:AF) (t:Ig b) (H:∀l∈b.C,KA b l) (kj:List Int→Option Bool):∀(n:Nat) (k:Nat) (s:List Int),s.length=b.A.length→b.C.length<n+k→k≤b.C.length→∃s',s'.length=b.A.length∧B0 N b kj n (k:Int) s=kj s'
 |0,k,s,a,h,Q=>by omega
 |n+1,k,s,a,h,Q=>by
  have q3:=t.pl;have q4:=t.li;simp only[B0];rcases Abb k b.C.length with g|g
  ·rw[FW g,Aaq,BB g];simp only[Aap];have d:=H b.C[k] (Aa9 g);generalize b.C[k]=l at d
   have p:∀s:List Int,s.length=b.A.length→∃s',s'.length=b.A.length∧Cv N (k:Int) (B0 N b kj n) s=kj s':=λs a=>by
    unfold Cv;rw[A9 (show k<4611686018427387904 by omega)];exact lN o b t H kj n (k+1) s a (by omega) (by omega)
   obtain⟨x,u⟩:=Df.ix (l:=s) d.fr.1 (by rw[a];exact d.fr.2);have w:∀c:Bool,(c=true→l.F=1∨l.F=5∨l.F=3)→∃s',s'.length=b.A.length∧EF N s l (Cv N (k:Int) (B0 N b kj n)) c=kj s':=λc g=>by
    unfold EF;cases c
    ·rw[Aar];by_cases y:l.F=4
     ·rw[show decide (l.F=4)=true by simp [y],Aaq];obtain⟨z,U,V,W,I,h6⟩:=d.seep y;obtain⟨v,q⟩:=NO o z.1 (show 0≤l.S by omega) (by omega);obtain⟨X,j⟩:=NO o W.1 I.1 (show l.Al≤_ by have:=I.2;omega);have B:=d.to;obtain⟨Y,m⟩:=Df.ix (l:=upd s l.M (BO (x+BO (2*v)))) (i:=l.E) (by omega) (by rw[La,a];omega);simp only[u,q,m,j,Aap];exact p _ (by rw[La,La,a])
     ·rw[show decide (l.F=4)=false by simp [y],Aar];exact p s a
    ·rw[Aaq];obtain⟨z,U,V⟩:=d.part (g rfl);obtain⟨v,q⟩:=NO o z.1 (show 0≤l.S by omega) (by omega);simp only[u,q,Aap];exact p _ (by rw[La,a])
   by_cases k0:l.F=0
   ·rw[show decide (l.F=0)=true by simp [k0],Aaq];obtain⟨Z,c2,c3,c4,J⟩:=d.gate k0;obtain⟨v,q⟩:=aQ o [l.As,l.Ad.Av,l.Ad.Aw] (by simp) (by simp [Z,c2,c3]);simp only[u,q,Aap];by_cases K:l.E= -1
    ·rw[show decide (l.E≠ -1)=false by simp [K],Aar];exact p _ (by rw[La,a])
    ·rw[show decide (l.E≠ -1)=true by simp [K],Aaq];have B:=d.to;obtain⟨Y,m⟩:=Df.ix (l:=upd s l.M (BO (x+v))) (i:=l.E) (by omega) (by rw[La,a];omega);obtain⟨X,j⟩:=NO o c4.1 J.1 (show l.Al≤_ by have:=J.2;omega);simp only[m,j,Aap];exact p _ (by rw[La,La,a])
   ·rw[show decide (l.F=0)=false by simp [k0],Aar];by_cases D:l.F=1
    ·rw[show decide (l.F=1)=true by simp [D],Aaq];exact w true λ_=> .inl D
    ·rw[show decide (l.F=1)=false by simp [D],Aar];by_cases G:l.F=5
     ·rw[show decide (l.F=5)=true by simp [G],Aaq];exact w true λ_=> .inr (.inl G)
     ·rw[show decide (l.F=5)=false by simp [G],Aar];exact w _ λh=> .inr (.inr (by simpa using h))
  ·rw[Ft g];exact⟨s,a,rfl⟩
def Yw {N:Nat}(m:18446744073709551616<N) (b:AF) (c:Ig b) (q:∀p∈b.A,Il b p) (t:∀l∈b.C,KA b l):Df (H3 N b):=by
 have G:=c.pl;have H:=c.li;unfold H3;rw[show K3 (b.A.length:Int) (b.A.length:Int) 8=true by simp [K3];omega];simp only[chk,Aaq];have u:∀(n:Nat) (k:Nat) (s:List Int),s.length=b.A.length→b.A.length<n+k→k≤b.A.length→∃s',s'.length=b.A.length∧EE N b (EG N b) n (k:Int) s=EG N b s':=by
  intro n
  induction n with
  |zero=>intro k s d J w;omega
  |succ n x=>
   intro k s d J w;simp only[EE];rcases Abb k b.A.length with a|a
   ·have g:=q b.A[k] (Aa9 a);obtain⟨v,y⟩:=NO m g.num.1 g.den.1 (by have:=g.den.2;omega);rw[FW a,Aaq,BB a,BB (show k<s.length by omega)];simp only[Aap,y,A9 (show k<4611686018427387904 by omega)];exact x (k+1) _ (by rw[La,d]) (by omega) (by omega)
   ·rw[Ft a];exact⟨s,d,rfl⟩
 obtain⟨o,z,B⟩:=u N 0 (List.replicate ((b.A.length:Int):Int).toNat 0) (by simp) (by omega) (Aaw _);have i:EE N b (EG N b) N 0 (List.replicate ((b.A.length:Int):Int).toNat 0)=_:=B;rw[i];unfold EG;obtain⟨D,I,F⟩:=lN m b c t (C9 N) N 0 o z (by omega) (Aaw _);have j:B0 N b (C9 N) N 0 o=_:=F;rw[j];exact uC (by omega) D (by omega)
end Go.Proofs.YtabonambpbofgaaGreat
