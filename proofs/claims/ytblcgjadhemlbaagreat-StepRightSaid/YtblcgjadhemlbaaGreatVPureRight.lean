import Derived.Test.YtblcgjadhemlbaaGreatVPureDiv
namespace Go.Proofs.YtblcgjadhemlbaaGreat
set_option linter.all false
open Go.RowKit
def QH {Y b d q r:Nat}(g:q*(Y/4294967296)+r=b):q*(Y%4294967296)≤4294967296*r+d↔q*Y≤b*4294967296+d:=by
 have e:q*Y=4294967296*(q*(Y/4294967296))+q*(Y%4294967296):=by
  conv=>lhs;rw[←rC Y 4294967296,Nat.mul_add,Nat.mul_left_comm]
 rw[e,←g]
 generalize q*(Y/4294967296)=a
 generalize q*(Y%4294967296)=c
 omega
def XW {Y a b q:Nat}(d:a<Y) (g:b<4294967296) (c:4294967296≤q):a*4294967296+b<q*Y:=by
 have i:4294967296*Y≤q*Y:=pG _ c
 omega
def XX {Y a b q r:Nat}(c:q*(Y/4294967296)+r=a) (d:1≤q) (g:q≤4294967297) (i:4294967296≤r+Y/4294967296):(q-1)*Y≤a*4294967296+b:=by
 have e:(q-1)*(Y/4294967296)+(r+Y/4294967296)=a:=by
  obtain⟨p,rfl⟩:∃p,q=p+1:=⟨q-1,by omega⟩
  rw[pH] at c
  simp only[Nat.add_sub_cancel]
  omega
 refine(QH e).1 ?_
 have j:(q-1)*(Y%4294967296)≤4294967296*(Y%4294967296):=pG _ (by omega)
 have k:Y%4294967296<4294967296:=pM _ (by omega)
 omega
def Y8 {Y U q:Nat}(c:0<Y) (a:q*Y≤U) (b:U<(q+1)*Y):U/Y=q:=Nat.div_eq_of_lt_le a b
def Te {Y a:Nat}(g:9223372036854775808≤Y) (l:Y<18446744073709551616) (m:a<Y) (d:Nat) (n:d<4294967296):a/(Y/4294967296)≤4294967297∧a/(Y/4294967296)*(Y/4294967296)+a%(Y/4294967296)=a∧a*4294967296+d<(a/(Y/4294967296)+1)*Y∧a%(Y/4294967296)<4294967296:=by
 have i:2147483648≤Y/4294967296:=by omega
 have j:Y/4294967296<4294967296:=by omega
 have b:0<Y/4294967296:=by omega
 have o:a%(Y/4294967296)<Y/4294967296:=pM _ b
 have c:a/(Y/4294967296)*(Y/4294967296)+a%(Y/4294967296)=a:=by rw[qI];exact rC _ _
 refine⟨?_,c,?_,by omega⟩
 ·refine qF ((rL b).2 ?_)
  omega
 ·have k:(a/(Y/4294967296)+1)*(4294967296*(Y/4294967296))≤(a/(Y/4294967296)+1)*Y:=Nat.mul_le_mul_left _ (by omega)
  rw[Nat.mul_left_comm,pH,Nat.one_mul] at k
  omega
def RY (N:Nat) (p y:Int) (g i:Nat) (Y a b:Nat) (C:Dl .u64 y g=(Y:Int)) (D:Dl .u64 p i=(a:Int)) (s:9223372036854775808≤Y) (d:Y<18446744073709551616) (k:a<18446744073709551616) (F:b<Y) (t:Int→Option (Int×Int)):
  ∀(n q r:Nat),q<n→q≤4294967297→r<4294967296→q*(Y/4294967296)+r=b→b*4294967296+a/4294967296<(q+1)*Y→
  DO N p y g i t n (q:Int) (r:Int)=t (((b*4294967296+a/4294967296)/Y:Nat):Int)
 |0,q,r,V,_,_,_,_=>by omega
 |n+1,q,r,M,G,Q,u,H=>by
  have I:Y/4294967296<4294967296:=by omega
  have l:Y%4294967296<4294967296:=pM _ (by omega)
  have v:a/4294967296<4294967296:=by omega
  simp only[DO]
  rw[C,D,Mo,Mo,QD Y d,OF,show(4294967296:Int)=((4294967296:Nat):Int) from rfl,OF,Er _ (show 4294967296*r<18446744073709551616 by omega),Re,Er _ (show 4294967296*r+a/4294967296<18446744073709551616 by omega),Re,Er (r+Y/4294967296) (by omega)]
  cases o:(decide (((4294967296:Nat):Int)≤(q:Int))||decide (((4294967296*r+a/4294967296:Nat):Int)<IntKind.u64.wrap ((q*(Y%4294967296):Nat):Int)))
  ·simp only[nZ,nV] at o
   obtain⟨U,J⟩:=o
   have c:q<4294967296:=by omega
   have w:q*(Y%4294967296)<18446744073709551616:=rD (Nat.mul_le_mul (qF c) (qF l)) (by decide)
   rw[Er _ w] at J
   rw[mX,Y8 (by omega) ((QH u).1 (by omega)) H]
  ·rw[mW]
   have j:b*4294967296+a/4294967296<q*Y:=by
    rcases nT q 4294967296 with c|c
    ·have w:q*(Y%4294967296)<18446744073709551616:=rD (Nat.mul_le_mul (qF c) (qF l)) (by decide)
     rw[Er _ w] at o
     simp only[nN,nR] at o
     refine Nat.lt_of_not_le λx=>?_
     have:=(QH u).2 x
     omega
    ·exact XW F v c
   have z:1≤q:=by
    rcases rM q with e|e
    ·rw[e,Nat.zero_mul] at j;omega
    ·exact e
   have A:IntKind.u64.wrap ((q:Int)-1)=((q-1:Nat):Int):=by rw[show (q:Int)-1=((q-1:Nat):Int) by omega];exact Er _ (by omega)
   rw[A]
   have B:q-1+1=q:=by omega
   cases m:decide (((4294967296:Nat):Int)≤((r+Y/4294967296:Nat):Int))
   ·rw[mX]
    have K:(q-1)*(Y/4294967296)+(r+Y/4294967296)=b:=by
     have:q*(Y/4294967296)=(q-1)*(Y/4294967296)+Y/4294967296:=by
      conv=>lhs;rw[←B,pH,Nat.one_mul]
     omega
    simp only[nV] at m
    exact RY N p y g i Y a b C D s d k F t n (q-1) (r+Y/4294967296) (by omega) (by omega) (by omega) K (by rw[B];exact j)
   ·rw[mW]
    simp only[nR] at m
    rw[Y8 (by omega) (XX u z G (by omega)) (by rw[B];exact j)]
def RX (N:Nat) (p y:Int) (i j:Nat) (Y a b:Nat) (C:Dl .u64 y i=(Y:Int)) (D:Dl .u64 p j=(a:Int)) (s:9223372036854775808≤Y) (d:Y<18446744073709551616) (g:a<18446744073709551616) (F:b<Y) (t:Int→Option (Int×Int)):
  ∀(n q r:Nat),q<n→q≤4294967297→r<4294967296→q*(Y/4294967296)+r=b→b*4294967296+a%4294967296<(q+1)*Y→
  Dt N p y i j t n (r:Int) (q:Int)=t (((b*4294967296+a%4294967296)/Y:Nat):Int)
 |0,q,r,V,_,_,_,_=>by omega
 |n+1,q,r,M,G,Q,u,H=>by
  have I:Y/4294967296<4294967296:=by omega
  have l:Y%4294967296<4294967296:=pM _ (by omega)
  have v:a%4294967296<4294967296:=pM _ (by omega)
  simp only[Dt]
  rw[C,D,Mo,QD a g,QD Y d,OF,show(4294967296:Int)=((4294967296:Nat):Int) from rfl,OF,Er _ (show 4294967296*r<18446744073709551616 by omega),Re,Er _ (show 4294967296*r+a%4294967296<18446744073709551616 by omega),Re,Er (r+Y/4294967296) (by omega)]
  cases o:(decide (((4294967296:Nat):Int)≤(q:Int))||decide (((4294967296*r+a%4294967296:Nat):Int)<IntKind.u64.wrap ((q*(Y%4294967296):Nat):Int)))
  ·simp only[nZ,nV] at o
   obtain⟨U,J⟩:=o
   have c:q<4294967296:=by omega
   have w:q*(Y%4294967296)<18446744073709551616:=rD (Nat.mul_le_mul (qF c) (qF l)) (by decide)
   rw[Er _ w] at J
   rw[mX,Y8 (by omega) ((QH u).1 (by omega)) H]
  ·rw[mW]
   have k:b*4294967296+a%4294967296<q*Y:=by
    rcases nT q 4294967296 with c|c
    ·have w:q*(Y%4294967296)<18446744073709551616:=rD (Nat.mul_le_mul (qF c) (qF l)) (by decide)
     rw[Er _ w] at o
     simp only[nN,nR] at o
     refine Nat.lt_of_not_le λx=>?_
     have:=(QH u).2 x
     omega
    ·exact XW F v c
   have z:1≤q:=by
    rcases rM q with e|e
    ·rw[e,Nat.zero_mul] at k;omega
    ·exact e
   have A:IntKind.u64.wrap ((q:Int)-1)=((q-1:Nat):Int):=by rw[show (q:Int)-1=((q-1:Nat):Int) by omega];exact Er _ (by omega)
   rw[A]
   have B:q-1+1=q:=by omega
   cases m:decide (((4294967296:Nat):Int)≤((r+Y/4294967296:Nat):Int))
   ·rw[mX]
    have K:(q-1)*(Y/4294967296)+(r+Y/4294967296)=b:=by
     have:q*(Y/4294967296)=(q-1)*(Y/4294967296)+Y/4294967296:=by
      conv=>lhs;rw[←B,pH,Nat.one_mul]
     omega
    simp only[nV] at m
    exact RX N p y i j Y a b C D s d g F t n (q-1) (r+Y/4294967296) (by omega) (by omega) (by omega) K (by rw[B];exact k)
   ·rw[mW]
    simp only[nR] at m
    rw[Y8 (by omega) (XX u z G (by omega)) (by rw[B];exact k)]
def bT (a b:Nat) (d:b≠0) (c:a<18446744073709551616):PQ .u64 (a:Int) (b:Int)=some ((a/b:Nat):Int):=by
 unfold PQ
 rw[nB (by omega)]
 have e:(a:Int).tdiv (b:Int)=((a/b:Nat):Int):=rfl
 have:a/b≤a:=Nat.div_le_self _ _
 rw[e,Er _ (by omega)]
def lE (a b:Nat) (c:b≠0):Rw (a:Int) (b:Int)=some ((a%b:Nat):Int):=by
 unfold Rw
 rw[nB (by omega)]
 rfl
def bO (a s:Nat) (d:s≤64):Dl .u64 (a:Int) s=((a*2^s%18446744073709551616:Nat):Int):=by
 unfold Dl
 have b:min s IntKind.u64.bits=s:=by simp [IntKind.bits];omega
 have c:((a:Int)*2^s)=((a*2^s:Nat):Int):=by simp
 rw[b,c]
 exact Zv _
def orN (a b:Nat) (g:a<18446744073709551616) (i:b<18446744073709551616):Hr .or .u64 (a:Int) (b:Int)=((a|||b:Nat):Int):=by
 have c:(BitVec.ofInt 64 (a:Int)).toNat=a:=by rw[BitVec.ofInt_natCast,BitVec.toNat_ofNat];exact qP (by omega)
 have d:(BitVec.ofInt 64 (b:Int)).toNat=b:=by rw[BitVec.ofInt_natCast,BitVec.toNat_ofNat];exact qP (by omega)
 have j:a|||b<2^64:=Nat.or_lt_two_pow (by omega) (by omega)
 show IntKind.u64.wrap (((BitVec.ofInt 64 (a:Int))|||(BitVec.ofInt 64 (b:Int))).toNat:Int)=_
 rw[BitVec.toNat_or,c,d,Er _ (by omega)]
def VW (a b:Nat):a=a/b*b+a%b:=by rw[qI];exact(rC a b).symm
def Wm {Y A B u:Nat}(a:0<Y):(A*B+u)/Y=A/Y*B+(A%Y*B+u)/Y∧(A*B+u)%Y=(A%Y*B+u)%Y:=by
 have b:=rC A Y
 have e:A*B+u=Y*(A/Y*B)+(A%Y*B+u):=by
  conv=>lhs;rw[←b,pH,Nat.mul_assoc,Nat.add_assoc]
 rw[e]
 exact⟨by rw[Nat.mul_add_div a],by rw[Nat.mul_add_mod]⟩
def L8 {a b q Y R:Nat}(g:a=q*Y+R) (c:R<18446744073709551616) (d:b=a%18446744073709551616):IntKind.u64.wrap ((b:Int)-IntKind.u64.wrap ((q*Y:Nat):Int))=(R:Int):=by
 rw[Lo,Lo]
 generalize q*Y=t at g
 omega
def WJ {N:Nat}(X:18446744073709551616<N) (w l y:Int) (s:Nat) (Z:s≤63) (m n:Nat) (Y c g k d:Nat) (p:Dl .u64 y s=(Y:Int)) (q:Dl .u64 l s=(c:Int)) (x:Hr .or .u64 (Dl .u64 w m) (Eg .u64 l n)=(g:Int))
  (o:9223372036854775808≤Y) (i:Y<18446744073709551616) (j:c<18446744073709551616) (hu:g<Y) (D:(g*4294967296+c/4294967296)=k*Y+d) (A:d<Y) (F:k<4294967296):
  Du N w l y (s:Int) s m n s (k:Int)=some (((k*4294967296+(d*4294967296+c%4294967296)/Y:Nat):Int),(((d*4294967296+c%4294967296)%Y/2^s:Nat):Int)):=by
 have G:0<Y/4294967296:=by omega
 have H:Y/4294967296<4294967296:=by omega
 have u:c%4294967296<4294967296:=pM _ (by omega)
 have B:IntKind.u64.wrap (IntKind.u64.wrap (IntKind.u64.wrap ((g:Int)*4294967296)+Eg .u64 (Dl .u64 l s) 32)-IntKind.u64.wrap ((k:Int)*(Y:Int)))=(d:Int):=by
  rw[q,Mo,OF]
  refine(nF (λz=>IntKind.u64.wrap (z-_)) ?_).trans (L8 (b:=(g*4294967296+c/4294967296)%18446744073709551616) D (by omega) rfl)
  rw[Lo,Lo]
  omega
 obtain⟨I,C,J,K⟩:=Te o i A (c%4294967296) u
 unfold Du
 rw[x,p,B,Mo,bT _ _ (by omega) (by omega)]
 simp only[mV]
 have M:IntKind.u64.wrap ((d:Int)-IntKind.u64.wrap (((d/(Y/4294967296):Nat):Int)*((Y/4294967296:Nat):Int)))=((d%(Y/4294967296):Nat):Int):=by
  rw[OF]
  exact L8 (a:=d) C.symm (by omega) (by omega)
 rw[M,RX N l y s s Y c d p q o i j A _ N _ _ (by omega) I K C J]
 unfold E0
 have Q:Nu (IntKind.u64.wrap (s:Int))=some s:=by
  rw[Er s (by omega)]
  unfold Nu
  rw[nB (by omega)]
  simp
 rw[x,p,Q,B,q,QD c j]
 simp only[mV]
 have hd:=rC (d*4294967296+c%4294967296) Y
 have v:(d*4294967296+c%4294967296)/Y<4294967296:=(rL (by omega)).2 (by omega)
 have U:(d*4294967296+c%4294967296)%Y<Y:=pM _ (by omega)
 have V:IntKind.u64.wrap (IntKind.u64.wrap (IntKind.u64.wrap ((d:Int)*4294967296)+((c%4294967296:Nat):Int))-IntKind.u64.wrap (((((d*4294967296+c%4294967296)/Y:Nat)):Int)*(Y:Int)))=(((d*4294967296+c%4294967296)%Y:Nat):Int):=by
  rw[OF]
  refine(nF (λz=>IntKind.u64.wrap (z-_)) ?_).trans (L8 (a:=d*4294967296+c%4294967296) (b:=(d*4294967296+c%4294967296)%18446744073709551616) (VW _ _) (by omega) rfl)
  rw[Lo,Lo]
  omega
 have W:IntKind.u64.wrap (IntKind.u64.wrap ((k:Int)*4294967296)+((((d*4294967296+c%4294967296)/Y:Nat)):Int))=((k*4294967296+(d*4294967296+c%4294967296)/Y:Nat):Int):=by
  rw[Lo,Lo]
  generalize (d*4294967296+c%4294967296)/Y=t at v
  omega
 rw[V,W,UH _ s (by omega)]
def ZC (a u:Nat):(a*4294967296+u/4294967296)*4294967296+u%4294967296=a*18446744073709551616+u:=by omega
def YA {N:Nat}(D:18446744073709551616<N) (o m y:Int) (s:Nat) (F:s≤63) (g i:Nat) (Y c b:Nat) (p:Dl .u64 y s=(Y:Int)) (w:Dl .u64 m s=(c:Int)) (x:Hr .or .u64 (Dl .u64 o g) (Eg .u64 m i)=(b:Int))
  (l:9223372036854775808≤Y) (j:Y<18446744073709551616) (k:c<18446744073709551616) (q:b<Y):
  ((PQ .u64 (Hr .or .u64 (Dl .u64 o g) (Eg .u64 m i)) (Eg .u64 (Dl .u64 y s) 32)).bind λn=>
   DO N m y s s (Du N o m y (s:Int) s g i s) N n (IntKind.wrap .u64 ((Hr .or .u64 (Dl .u64 o g) (Eg .u64 m i))-(IntKind.wrap .u64 (n*(Eg .u64 (Dl .u64 y s) 32))))))=
  some ((((b*18446744073709551616+c)/Y:Nat):Int),(((b*18446744073709551616+c)%Y/2^s:Nat):Int)):=by
 have d:0<Y:=by omega
 have t:c/4294967296<4294967296:=by omega
 obtain⟨G,z,H,I⟩:=Te l j q (c/4294967296) t
 obtain⟨C,t2⟩:=Wm (Y:=Y) (A:=b*4294967296+c/4294967296) (B:=4294967296) (u:=c%4294967296) d
 rw[ZC] at C t2
 rw[C,t2,x,p,Mo,bT _ _ (by omega) (by omega)]
 simp only[mV]
 have J:IntKind.u64.wrap ((b:Int)-IntKind.u64.wrap (((b/(Y/4294967296):Nat):Int)*((Y/4294967296:Nat):Int)))=((b%(Y/4294967296):Nat):Int):=by
  rw[OF]
  exact L8 (a:=b) z.symm (by omega) (by omega)
 have v:(b*4294967296+c/4294967296)/Y<4294967296:=(rL d).2 (by omega)
 rw[J,RY N _ _ s s Y c b p w l j k q _ N _ _ (by omega) G I z H]
 exact WJ D _ _ _ s F g i Y c b _ _ p w x l j k q (VW _ _) (pM _ d) v
def W3 {g l s M:Nat}(b:M=2^64) (d:s≤63):(g*2^s+l/2^(64-s))*M+l*2^s%M=(g*M+l)*2^s:=by
 have e:(2:Nat)^64=2^(64-s)*2^s:=by rw[←Nat.pow_add];congr 1;omega
 have c:l*2^s/M=l/2^(64-s):=by
  rw[b,e,Nat.mul_div_mul_right _ _ (rB s)]
 have a:=rC (l*2^s) M
 rw[c] at a
 rw[pH,pH,Nat.mul_right_comm g,Nat.add_assoc,qI (l/2^(64-s)) M]
 exact nF _ a
def YE {N:Nat}(o:18446744073709551616<N) (B l y:Nat) (c:l<18446744073709551616) (p:y<18446744073709551616) (k:B<y):
  Fb N (B:Int) (l:Int) (y:Int)=some ((((B*18446744073709551616+l)/y:Nat):Int),(((B*18446744073709551616+l)%y:Nat):Int)):=by
 unfold Fb
 rw[show decide ((y:Int)=0)=false by simp;omega,show decide ((y:Int)≤(B:Int))=false by simp;omega,mX,mX]
 rcases rM B with e|hp
 ·subst e
  rw[show decide (((0:Nat):Int)=0)=true by simp,mW,bT _ _ (by omega) c,lE _ _ (by omega),Nat.zero_mul,oK]
  rfl
 ·rw[show decide ((B:Int)=0)=false by simp;omega,mX]
  obtain⟨s,q,m,u,d⟩:=aC N (show 0<y by omega) p
  have n:∀t:Nat,t≤64→Nu (IntKind.u64.wrap (t:Int))=some t:=λt A=>by
   rw[Er t (by omega)]
   unfold Nu
   rw[nB (by omega)]
   simp
  have g:(64:Int)-IntKind.u64.wrap (s:Int)=((64-s:Nat):Int):=by rw[Er s (by omega)];omega
  rw[q,mV,g,n s (by omega),n (64-s) (by omega),mV,mV,mV,mV]
  have a:B*2^s<18446744073709551616:=rD (pG _ (Nat.le_of_lt k)) d
  have b:l/2^(64-s)<2^s:=by
   refine(rL (rB _)).2 ?_
   rw[←Nat.pow_add,show s+(64-s)=64 by omega]
   exact c
  have i:l/2^(64-s)<18446744073709551616:=rD (Nat.div_le_self _ _) c
  have j:B*2^s|||l/2^(64-s)=B*2^s+l/2^(64-s):=by
   rw[qI B]
   exact(Nat.two_pow_add_eq_or_of_lt b B).symm
  have v:Dl .u64 (y:Int) s=((y*2^s:Nat):Int):=by rw[bO _ _ (by omega),qP d]
  have w:Dl .u64 (l:Int) s=((l*2^s%18446744073709551616:Nat):Int):=bO _ _ (by omega)
  have x:Hr .or .u64 (Dl .u64 (B:Int) s) (Eg .u64 (l:Int) (64-s))=((B*2^s+l/2^(64-s):Nat):Int):=by
   rw[bO _ _ (by omega),UH _ _ (by omega),qP a,orN _ _ a i,j]
  have z:B*2^s+l/2^(64-s)<y*2^s:=by
   have:(B+1)*2^s≤y*2^s:=pG _ k
   rw[pH,Nat.one_mul] at this
   exact nH (Nat.add_lt_add_left b _) this
  have hd:=YA o (B:Int) (l:Int) (y:Int) s m s (64-s) _ _ _ v w x u d (pM _ (by omega)) z
  rw[W3 (M:=18446744073709551616) rfl m,Nat.mul_div_mul_right _ _ (rB s),Nat.mul_mod_mul_right,Nat.mul_div_cancel _ (rB s)] at hd
  exact hd
def fG (a n d:Int):Int×Int×Bool:=if (0≤a∧a≤1125899906842624)∧(0≤n∧n≤1125899906842624)∧(1≤d∧d≤1125899906842624)∧a*n/d≤1125899906842624 then (a*n/d,a*n%d,true) else (0,0,false)
def bP {t d:Nat}(hd:0<d) (a:d≤t/18446744073709551616):18446744073709551616≤t/d:=by
 refine(Nat.le_div_iff_mul_le hd).2 ?_
 omega
def Mp {N:Nat}(t:18446744073709551616<N) (a n d:Int):Fj N a n d=some (fG a n d):=by
 unfold Fj fG
 cases m:(((((decide (a<0)||decide (1125899906842624<a))||decide (n<0))||decide (1125899906842624<n))||decide (d<1))||decide (1125899906842624<d))
 ·simp only[nZ,nV] at m
  obtain⟨⟨⟨⟨⟨y,z⟩,A⟩,B⟩,C⟩,D⟩:=m
  obtain⟨b,rfl⟩:∃k:Nat,a=k:=⟨a.toNat,by omega⟩
  obtain⟨c,rfl⟩:∃k:Nat,n=k:=⟨n.toNat,by omega⟩
  obtain⟨g,rfl⟩:∃k:Nat,d=k:=⟨d.toNat,by omega⟩
  rw[mX,Er b (by omega),Er c (by omega),Er g (by omega),QC N b c (by omega) (by omega)]
  simp only[mV]
  have u:(b:Int)*(c:Int)/(g:Int)=((b*c/g:Nat):Int):=by rw[Int.natCast_ediv,Int.natCast_mul]
  have v:(b:Int)*(c:Int)%(g:Int)=((b*c%g:Nat):Int):=by rw[Int.natCast_emod,Int.natCast_mul]
  rw[u,v]
  have o:b*c/18446744073709551616*18446744073709551616+b*c%18446744073709551616=b*c:=(VW _ _).symm
  have j:0<g:=by omega
  by_cases l:g≤b*c/18446744073709551616
  ·rw[show decide ((g:Int)≤((b*c/18446744073709551616:Nat):Int))=true from nW (Int.ofNat_le.2 l),mW,nB]
   intro F
   have p:=F.2.2.2
   have w:=bP j l
   generalize b*c/g=q at p w
   omega
  ·have s:¬(g:Int)≤((b*c/18446744073709551616:Nat):Int):=λF=>l (Int.ofNat_le.1 F)
   rw[nL s,mX,YE t _ _ _ (pM _ (by omega)) (by omega) (Nat.lt_of_not_le l),o]
   simp only[mV]
   have x:b*c%g<g:=pM _ j
   generalize b*c/g=q
   generalize b*c%g=r at x
   by_cases p:q≤1125899906842624
   ·have i:¬(1125899906842624:Int)<(q:Int):=by omega
    rw[nL i,mX,nD ⟨by omega,by omega,by omega,by omega⟩,DG (by omega) (by omega),DG (by omega) (by omega)]
   ·have i:(1125899906842624:Int)<(q:Int):=by omega
    rw[nW i,mW,nB (λF=>p (by have:=F.2.2.2;omega))]
 ·rw[mW,nB]
  intro F
  simp only[nN,nR] at m
  omega
end Go.Proofs.YtblcgjadhemlbaaGreat
namespace Go.Proofs.YtblcgjadhemlbaaGreat
set_option linter.all false
open Go.RowKit
def KG (b x:Bool):cond b true x=(b||x):=by cases b<;>rfl
def Nt (b x:Bool):cond b x false=(b&&x):=by cases b<;>rfl
def BX {k:Nat}(a:k<4611686018427387904):B0 ((k:Int)+1)=((k+1:Nat):Int):=by rw[DG (by omega) (by omega)];rfl
def Ev {k L:Nat}(a:k<L):decide ((k:Int)<(L:Int))=true:=by simp;omega
def E7 {k L:Nat}(a:L≤k):decide ((k:Int)<(L:Int))=false:=by simp;omega
def Ic (L:Nat) (f:Nat→Int→Option Bool) (d:Option Bool) (P:Nat→Prop) (a:∀n (k:Nat),L≤k→f (n+1) (k:Int)=d) (b:∀n (k:Nat),k<L→f (n+1) (k:Int)=some false∨(P k∧f (n+1) (k:Int)=f n ((k+1:Nat):Int))):
  ∀n (k:Nat),L<n+k→k≤L→f n (k:Int)=some false∨((∀i,k≤i→i<L→P i)∧f n (k:Int)=d)
 |0,k,p,m=>by omega
 |n+1,k,p,m=>by
  rcases nT k L with g|g
  ·rcases b n k g with j|⟨j,h2⟩
   ·exact .inl j
   ·rcases Ic L f d P a b n (k+1) (by omega) (by omega) with l|⟨l,h4⟩
    ·exact .inl (h2.trans l)
    ·refine .inr ⟨λi o c=>?_,h2.trans h4⟩
     by_cases e:i=k
     ·subst e;exact j
     ·exact l i (by omega) c
  ·exact .inr ⟨λi o c=>by omega,a n k g⟩
def VB {σ t:Type}(L:Nat) (f:Nat→Int→σ→Option t) (c:σ→Option t) (I:σ→Prop) (a:∀n (k:Nat) s,L≤k→f (n+1) (k:Int) s=c s) (b:∀n (k:Nat) s,I s→k<L→∃s',I s'∧f (n+1) (k:Int) s=f n ((k+1:Nat):Int) s'):
  ∀n (k:Nat) s,I s→L<n+k→k≤L→∃s',I s'∧f n (k:Int) s=c s'
 |0,k,s,_,u,i=>by omega
 |n+1,k,s,g,u,i=>by
  rcases nT k L with d|d
  ·obtain⟨j,l,m⟩:=b n k s g d
   obtain⟨o,p,q⟩:=VB L f c I a b n (k+1) j l (by omega) (by omega)
   exact⟨o,p,m.trans q⟩
  ·exact⟨s,g,a n k s d⟩
def Qj (n:Int):Bool:=decide (0≤n)&&decide (n≤1125899906842624)
def Jn {n:Int}(a:Qj n=true):Ia n:=by simpa [Qj,Ia] using a
def Kk (N:Nat) (n:Int):Ch N n=some (Qj n):=rfl
def XZ (n a b:Int):Bool:=decide (a≤n)&&decide (n≤b)
def Lw (N:Nat) (n a b:Int):Ct N n a b=some (XZ n a b):=rfl
def Jl {n a b:Int}(c:XZ n a b=true):a≤n∧n≤b:=by simpa [XZ] using c
def RQ (a b:Int):Bool:=(Qj a&&Qj b)&&(decide (b≠0)||decide (a=0))
def OK (N:Nat) (a b:Int):Gn N a b=some (RQ a b):=by
 simp only[Gn,Kk,mV,Fl,Nt,RQ]
def NK {a b:Int}(c:RQ a b=true):Ia a∧Ia b:=by
 simp only[RQ,mY] at c
 exact⟨Jn c.1.1,Jn c.1.2⟩
def OI (N:Nat) (n:Int) {L:Nat}(a:L<4611686018427387904):E5 N n (L:Int)=some (XZ n 0 ((L:Int)-1)):=by
 simp only[E5,Lw,mV]
 rw[DG (by omega) (by omega)]
def S7 (L:Nat) (fr to:Int):Bool:=decide (to= -1)||(XZ to 0 ((L:Int)-1)&&decide (to≠fr))
def Ok (N:Nat) (b:AU) (fr to:Int) (a:b.A.length<4611686018427387904):IX N b fr to=some (S7 b.A.length fr to):=by
 simp only[IX,OI N _ a,mV,Fl,KG,S7]
def Uv {L:Nat}{fr to:Int}(a:S7 L fr to=true):to= -1∨(0≤to∧to<L):=by
 simp only[S7,nN,mY,nR] at a
 rcases a with a|a
 ·exact .inl a
 ·have:=Jl a.1;exact .inr ⟨this.1,by omega⟩
structure HD (b:AU):Prop where
 own:b.H.length≤16
 cells:0≤b.R∧b.R≤64
 pl:b.A.length≤64
 li:b.E.length≤96
 to:b.Ag.length≤40
 ga:b.Aq.length≤128
 ro:b.At.length≤128
 sh:b.Av.length≤40
 own1:1≤b.H.length
def SV {s:ByteArray}{k:Nat}(a:k<s.size):∃z,VZ s (k:Int)=some z:=by
 unfold VZ
 rw[nB (by omega)]
 simp only[oW]
 exact⟨_,by rw[getElem?_pos s k a];rfl⟩
def Y9 {N:Nat}(q:1000<N) (b:AU):∃v,H8 N b=some v∧(v=true→HD b):=by
 unfold H8
 simp only[Lw,mV,Fl,KG]
 generalize d:(_|| !XZ b.U 0 1099511627776)=B
 cases B
 ·simp only[nZ,nV,qD] at d
  obtain⟨⟨⟨⟨⟨⟨⟨⟨⟨⟨s,g⟩,i⟩,j⟩,t⟩,u⟩,w⟩,x⟩,y⟩,l⟩,m⟩:=d
  have A:=Jl g
  have C:=Jl i
  have D:=Jl j
  have c:HD b:=⟨by omega,by omega,by omega,by omega,by omega,by omega,by omega,by omega,by omega⟩
  simp only[mX]
  have a:∃v,EN N b=some v:=by
   unfold EN
   rcases Ic b.Au.length (EL N b (GJ N)) (GJ N) (λ_=>True) (λn k G=>by
    simp only[EL];rw[E7 G];rfl) (λn k G=>by
    simp only[EL]
    rw[Ev G,mW,BS G]
    simp only[mV,Kk,BX (show k<4611686018427387904 by omega)]
    cases Qj b.Au[k]
    ·exact .inl rfl
    ·exact .inr ⟨trivial,rfl⟩) N 0 (by omega) (nE _) with G|⟨_,G⟩
   ·exact⟨_,G⟩
   ·exact⟨true,G⟩
  rcases Ic b.F.size (EM N b (EN N b)) (EN N b) (λ_=>True) (λn k G=>by
    simp only[EM];rw[E7 G];rfl) (λn k G=>by
    simp only[EM]
    obtain⟨z,o⟩:=SV G
    rw[Ev G,mW,o]
    simp only[mV,BX (show k<4611686018427387904 by omega)]
    cases (decide (z<32)||decide (126<z)||decide (z=34)||decide (z=92))
    ·exact .inr ⟨trivial,rfl⟩
    ·exact .inl rfl) N 0 (by omega) (nE _) with G|⟨_,G⟩
  ·exact⟨false,G,λG=>by cases G⟩
  ·obtain⟨v,p⟩:=a
   exact⟨v,G.trans p,λ_=>c⟩
 ·exact⟨false,rfl,λG=>by cases G⟩
def WE {N:Nat}(d:1000<N) (s:ByteArray):Df (JC N s):=by
 unfold JC
 cases c:(decide ((s.size:Int)<1)||decide (24<(s.size:Int))||s==ByteArray.mk #[111,117,116])
 ·simp only[nZ,nV] at c
  obtain⟨z,a⟩:=SV (s:=s) (k:=0) (by omega)
  have b:VZ s 0=some z:=a
  simp only[mX,b,mV,Fl,KG]
  refine Df.cond (λ_=>Df.mk _) λ_=>?_
  rcases Ic s.size (Fc N s (G8 N)) (G8 N) (λ_=>True) (λn k g=>by
    simp only[Fc];rw[E7 g];rfl) (λn k g=>by
    simp only[Fc]
    obtain⟨z,a⟩:=SV g
    rw[Ev g,mW,a]
    simp only[mV,BX (show k<4611686018427387904 by omega)]
    cases (((decide (z<97)||decide (122<z))&&(decide (z<48)||decide (57<z)))&&decide (z≠95))
    ·exact .inr ⟨trivial,rfl⟩
    ·exact .inl rfl) N 1 (by omega) (by omega) with g|⟨_,g⟩
  ·exact⟨_,g⟩
  ·exact⟨_,g⟩
 ·simp only[mW,mV]
  exact Df.mk _
def Xe {N:Nat}(d:1000<N) (m:List (AQ×Bool)) (a b:ByteArray):Df (JU N m a b):=by
 have c:∀s,Df (Hc N m b s):=λs=>by
  unfold Hc
  exact Df.bind (WE d b) λ_ _=>Df.cond (λ_=>Df.mk _) λ_=>Df.mk _
 unfold JU
 exact Df.cond (λ_=>c _) λ_=>c _
def LM {N:Nat}(d:1000<N) (m:List (AQ×Bool)) (c:Bool) (a b:ByteArray):∃v,DC N m c a b=some v:=by
 unfold DC
 exact Df.bind (Xe d m a b) λ_ _=>Df.mk _
def XK {N:Nat}(c:1000<N) {b:AU}(o:HD b):Df (Ij N b):=by
 obtain⟨w,x,y,z,B,C,D,G⟩:=o
 have d:∀{σ} (L:Nat) (f:Nat→Int→σ→Option Bool) (g:σ→Option Bool),L≤128→(∀n (k:Nat) s,L≤k→f (n+1) (k:Int) s=g s)→(∀n (k:Nat) s,k<L→∃s',f (n+1) (k:Int) s=f n ((k+1:Nat):Int) s')→(∀s,Df (g s))→∀s,Df (f N 0 s):=λL f g I i p j s=>by
  obtain⟨s',_,e⟩:=VB L f g (λ_=>True) i (λn k s _ J=>by obtain⟨s',h'⟩:=p n k s J;exact⟨s',trivial,h'⟩) N 0 s trivial (by omega) (nE _)
  obtain⟨v,a⟩:=j s'
  exact⟨v,e.trans a⟩
 have l:∀s:Bool×List (AQ×Bool),Df (DJ N b (ET N) N 0 s.1 s.2):=d (σ:=Bool×List (AQ×Bool)) b.At.length (λn k s=>DJ N b (ET N) n k s.1 s.2) (λs=>ET N s.1) (by omega) (λn k s J=>by simp only[DJ];rw[E7 J];rfl)
  (λn k s J=>by
   simp only[DJ]
   rw[Ev J,mW,BS J]
   simp only[mV]
   obtain⟨v,a⟩:=LM c s.2 s.1 (ByteArray.mk #[114,111,97,100]) (b.At[k]).F
   rw[a]
   simp only[mV,BX (show k<4611686018427387904 by omega)]
   exact⟨(v.2,v.1),rfl⟩) (λs=>Df.mk _)
 have m:∀s:Bool×List (AQ×Bool),Df (DK N b (EU N b) N 0 s.1 s.2):=d (σ:=Bool×List (AQ×Bool)) b.Aq.length (λn k s=>DK N b (EU N b) n k s.1 s.2) (λs=>EU N b s.1 s.2) (by omega) (λn k s J=>by simp only[DK];rw[E7 J];rfl)
  (λn k s J=>by
   simp only[DK]
   rw[Ev J,mW,BS J]
   simp only[mV]
   obtain⟨v,a⟩:=LM c s.2 s.1 (ByteArray.mk #[103,97,117,103,101]) (b.Aq[k]).F
   rw[a]
   simp only[mV,BX (show k<4611686018427387904 by omega)]
   exact⟨(v.2,v.1),rfl⟩) (λs=>l s)
 have q:∀s:Bool×List (AQ×Bool),Df (DX N b (Eh N b) N 0 s.1 s.2):=d (σ:=Bool×List (AQ×Bool)) b.Av.length (λn k s=>DX N b (Eh N b) n k s.1 s.2) (λs=>Eh N b s.1 s.2) (by omega) (λn k s J=>by simp only[DX];rw[E7 J];rfl)
  (λn k s J=>by
   simp only[DX]
   rw[Ev J,mW,BS J]
   simp only[mV]
   obtain⟨v,a⟩:=LM c s.2 s.1 (ByteArray.mk #[115,104,101,108,116,101,114]) (b.Av[k]).F
   rw[a]
   simp only[mV,BX (show k<4611686018427387904 by omega)]
   exact⟨(v.2,v.1),rfl⟩) (λs=>m s)
 have t:∀s:Bool×List (AQ×Bool),Df (DY N b (Ei N b) N 0 s.1 s.2):=d (σ:=Bool×List (AQ×Bool)) b.Ag.length (λn k s=>DY N b (Ei N b) n k s.1 s.2) (λs=>Ei N b s.1 s.2) (by omega) (λn k s J=>by simp only[DY];rw[E7 J];rfl)
  (λn k s J=>by
   simp only[DY]
   rw[Ev J,mW,BS J]
   simp only[mV]
   obtain⟨v,a⟩:=LM c s.2 s.1 (ByteArray.mk #[116,111,119,110]) (b.Ag[k]).F
   rw[a]
   simp only[mV,BX (show k<4611686018427387904 by omega)]
   exact⟨(v.2,v.1),rfl⟩) (λs=>q s)
 have u:∀s:Bool×List (AQ×Bool),Df (DZ N b (Ej N b) N 0 s.1 s.2):=d (σ:=Bool×List (AQ×Bool)) b.E.length (λn k s=>DZ N b (Ej N b) n k s.1 s.2) (λs=>Ej N b s.1 s.2) (by omega) (λn k s J=>by simp only[DZ];rw[E7 J];rfl)
  (λn k s J=>by
   simp only[DZ]
   rw[Ev J,mW,BS J]
   simp only[mV]
   obtain⟨v,a⟩:=LM c s.2 s.1 (ByteArray.mk #[108,105,110,107]) (b.E[k]).F
   rw[a]
   simp only[mV,BX (show k<4611686018427387904 by omega)]
   exact⟨(v.2,v.1),rfl⟩) (λs=>t s)
 have j:∀s:Bool×List (AQ×Bool),Df (Da N b (Ek N b) N 0 s.1 s.2):=d (σ:=Bool×List (AQ×Bool)) b.A.length (λn k s=>Da N b (Ek N b) n k s.1 s.2) (λs=>Ek N b s.1 s.2) (by omega) (λn k s J=>by simp only[Da];rw[E7 J];rfl)
  (λn k s J=>by
   simp only[Da]
   rw[Ev J,mW,BS J]
   simp only[mV]
   obtain⟨v,a⟩:=LM c s.2 s.1 (ByteArray.mk #[112,108,97,99,101]) (b.A[k]).F
   rw[a]
   simp only[mV,BX (show k<4611686018427387904 by omega)]
   exact⟨(v.2,v.1),rfl⟩) (λs=>u s)
 have i:∀s:Bool×List (AQ×Bool),Df (Db N b (El N b) N 0 s.1 s.2):=d (σ:=Bool×List (AQ×Bool)) b.H.length (λn k s=>Db N b (El N b) n k s.1 s.2) (λs=>El N b s.1 s.2) (by omega) (λn k s J=>by simp only[Db];rw[E7 J];rfl)
  (λn k s J=>by
   simp only[Db]
   rw[Ev J,mW,BS J]
   simp only[mV]
   obtain⟨v,a⟩:=LM c s.2 s.1 (ByteArray.mk #[111,119,110,101,114]) (b.H[k])
   rw[a]
   simp only[mV,BX (show k<4611686018427387904 by omega)]
   exact⟨(v.2,v.1),rfl⟩) (λs=>j s)
 exact i (true,[])
end Go.Proofs.YtblcgjadhemlbaaGreat
