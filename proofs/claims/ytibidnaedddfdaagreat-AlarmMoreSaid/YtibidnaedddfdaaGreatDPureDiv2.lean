import Derived.Test.YtibidnaedddfdaaGreatDPureDiv
namespace Go.Proofs.YtibidnaedddfdaaGreat
set_option linter.all false
open Go.RowKit
def PP {Y b d q r:Nat}(g:q*(Y/4294967296)+r=b):q*(Y%4294967296)≤4294967296*r+d↔q*Y≤b*4294967296+d:=by
 have e:q*Y=4294967296*(q*(Y/4294967296))+q*(Y%4294967296):=by
  conv=>lhs;rw[←mN Y 4294967296,Nat.mul_add,Nat.mul_left_comm]
 rw[e,←g]
 generalize q*(Y/4294967296)=a
 generalize q*(Y%4294967296)=c
 omega
def V1 {Y a b q:Nat}(d:a<Y) (g:b<4294967296) (c:4294967296≤q):a*4294967296+b<q*Y:=by
 have i:4294967296*Y≤q*Y:=kE _ c
 omega
def V2 {Y a b q r:Nat}(c:q*(Y/4294967296)+r=a) (d:1≤q) (g:q≤4294967297) (i:4294967296≤r+Y/4294967296):(q-1)*Y≤a*4294967296+b:=by
 have e:(q-1)*(Y/4294967296)+(r+Y/4294967296)=a:=by
  obtain⟨p,rfl⟩:∃p,q=p+1:=⟨q-1,by omega⟩
  rw[kA] at c
  simp only[mM]
  omega
 refine(PP e).1 ?_
 have j:(q-1)*(Y%4294967296)≤4294967296*(Y%4294967296):=kE _ (by omega)
 have k:Y%4294967296<4294967296:=kN _ (by omega)
 omega
def Xz {Y U q:Nat}(c:0<Y) (a:q*Y≤U) (b:U<(q+1)*Y):U/Y=q:=Nat.div_eq_of_lt_le a b
def SB {Y a:Nat}(g:9223372036854775808≤Y) (l:Y<18446744073709551616) (m:a<Y) (d:Nat) (n:d<4294967296):a/(Y/4294967296)≤4294967297∧a/(Y/4294967296)*(Y/4294967296)+a%(Y/4294967296)=a∧a*4294967296+d<(a/(Y/4294967296)+1)*Y∧a%(Y/4294967296)<4294967296:=by
 have i:2147483648≤Y/4294967296:=by omega
 have j:Y/4294967296<4294967296:=by omega
 have b:0<Y/4294967296:=by omega
 have o:a%(Y/4294967296)<Y/4294967296:=kN _ b
 have c:a/(Y/4294967296)*(Y/4294967296)+a%(Y/4294967296)=a:=by rw[lO];exact mN _ _
 refine⟨?_,c,?_,by omega⟩
 ·refine lL ((mY b).2 ?_)
  omega
 ·have k:(a/(Y/4294967296)+1)*(4294967296*(Y/4294967296))≤(a/(Y/4294967296)+1)*Y:=Nat.mul_le_mul_left _ (by omega)
  rw[Nat.mul_left_comm,kA,Nat.one_mul] at k
  omega
def Qa (N:Nat) (p y:Int) (g i:Nat) (Y a b:Nat) (C:DV .u64 y g=(Y:Int)) (D:DV .u64 p i=(a:Int)) (s:9223372036854775808≤Y) (d:Y<18446744073709551616) (k:a<18446744073709551616) (F:b<Y) (t:Int→Option (Int×Int)):
  ∀(n q r:Nat),q<n→q≤4294967297→r<4294967296→q*(Y/4294967296)+r=b→b*4294967296+a/4294967296<(q+1)*Y→
  C7 N p y g i t n (q:Int) (r:Int)=t (((b*4294967296+a/4294967296)/Y:Nat):Int)
 |0,q,r,h,_,_,_,_=>by omega
 |n+1,q,r,M,G,Q,u,H=>by
  have I:Y/4294967296<4294967296:=by omega
  have l:Y%4294967296<4294967296:=kN _ (by omega)
  have v:a/4294967296<4294967296:=by omega
  simp only[C7]
  rw[C,D,Lp,Lp,PO Y d,Nb,show(4294967296:Int)=((4294967296:Nat):Int) from rfl,Nb,D1 _ (show 4294967296*r<18446744073709551616 by omega),Qd,D1 _ (show 4294967296*r+a/4294967296<18446744073709551616 by omega),Qd,D1 (r+Y/4294967296) (by omega)]
  cases o:(decide (((4294967296:Nat):Int)≤(q:Int))||decide (((4294967296*r+a/4294967296:Nat):Int)<IntKind.u64.wrap ((q*(Y%4294967296):Nat):Int)))
  ·simp only[jP,jK] at o
   obtain⟨U,J⟩:=o
   have c:q<4294967296:=by omega
   have w:q*(Y%4294967296)<18446744073709551616:=mO (Nat.mul_le_mul (lL c) (lL l)) (by decide)
   rw[D1 _ w] at J
   rw[iO,Xz (by omega) ((PP u).1 (by omega)) H]
  ·rw[iN]
   have j:b*4294967296+a/4294967296<q*Y:=by
    rcases jN q 4294967296 with c|c
    ·have w:q*(Y%4294967296)<18446744073709551616:=mO (Nat.mul_le_mul (lL c) (lL l)) (by decide)
     rw[D1 _ w] at o
     simp only[jC,jG] at o
     refine Nat.lt_of_not_le λx=>?_
     have:=(PP u).2 x
     omega
    ·exact V1 F v c
   have z:1≤q:=by
    rcases mZ q with e|e
    ·rw[e,Nat.zero_mul] at j;omega
    ·exact e
   have A:IntKind.u64.wrap ((q:Int)-1)=((q-1:Nat):Int):=by rw[show (q:Int)-1=((q-1:Nat):Int) by omega];exact D1 _ (by omega)
   rw[A]
   have B:q-1+1=q:=by omega
   cases m:decide (((4294967296:Nat):Int)≤((r+Y/4294967296:Nat):Int))
   ·rw[iO]
    have K:(q-1)*(Y/4294967296)+(r+Y/4294967296)=b:=by
     have:q*(Y/4294967296)=(q-1)*(Y/4294967296)+Y/4294967296:=by
      conv=>lhs;rw[←B,kA,Nat.one_mul]
     omega
    simp only[jK] at m
    exact Qa N p y g i Y a b C D s d k F t n (q-1) (r+Y/4294967296) (by omega) (by omega) (by omega) K (by rw[B];exact j)
   ·rw[iN]
    simp only[jG] at m
    rw[Xz (by omega) (V2 u z G (by omega)) (by rw[B];exact j)]
def QZ (N:Nat) (p y:Int) (i j:Nat) (Y a b:Nat) (C:DV .u64 y i=(Y:Int)) (D:DV .u64 p j=(a:Int)) (s:9223372036854775808≤Y) (d:Y<18446744073709551616) (g:a<18446744073709551616) (F:b<Y) (t:Int→Option (Int×Int)):
  ∀(n q r:Nat),q<n→q≤4294967297→r<4294967296→q*(Y/4294967296)+r=b→b*4294967296+a%4294967296<(q+1)*Y→
  DY N p y i j t n (r:Int) (q:Int)=t (((b*4294967296+a%4294967296)/Y:Nat):Int)
 |0,q,r,h,_,_,_,_=>by omega
 |n+1,q,r,M,G,Q,u,H=>by
  have I:Y/4294967296<4294967296:=by omega
  have l:Y%4294967296<4294967296:=kN _ (by omega)
  have v:a%4294967296<4294967296:=kN _ (by omega)
  simp only[DY]
  rw[C,D,Lp,PO a g,PO Y d,Nb,show(4294967296:Int)=((4294967296:Nat):Int) from rfl,Nb,D1 _ (show 4294967296*r<18446744073709551616 by omega),Qd,D1 _ (show 4294967296*r+a%4294967296<18446744073709551616 by omega),Qd,D1 (r+Y/4294967296) (by omega)]
  cases o:(decide (((4294967296:Nat):Int)≤(q:Int))||decide (((4294967296*r+a%4294967296:Nat):Int)<IntKind.u64.wrap ((q*(Y%4294967296):Nat):Int)))
  ·simp only[jP,jK] at o
   obtain⟨U,J⟩:=o
   have c:q<4294967296:=by omega
   have w:q*(Y%4294967296)<18446744073709551616:=mO (Nat.mul_le_mul (lL c) (lL l)) (by decide)
   rw[D1 _ w] at J
   rw[iO,Xz (by omega) ((PP u).1 (by omega)) H]
  ·rw[iN]
   have k:b*4294967296+a%4294967296<q*Y:=by
    rcases jN q 4294967296 with c|c
    ·have w:q*(Y%4294967296)<18446744073709551616:=mO (Nat.mul_le_mul (lL c) (lL l)) (by decide)
     rw[D1 _ w] at o
     simp only[jC,jG] at o
     refine Nat.lt_of_not_le λx=>?_
     have:=(PP u).2 x
     omega
    ·exact V1 F v c
   have z:1≤q:=by
    rcases mZ q with e|e
    ·rw[e,Nat.zero_mul] at k;omega
    ·exact e
   have A:IntKind.u64.wrap ((q:Int)-1)=((q-1:Nat):Int):=by rw[show (q:Int)-1=((q-1:Nat):Int) by omega];exact D1 _ (by omega)
   rw[A]
   have B:q-1+1=q:=by omega
   cases m:decide (((4294967296:Nat):Int)≤((r+Y/4294967296:Nat):Int))
   ·rw[iO]
    have K:(q-1)*(Y/4294967296)+(r+Y/4294967296)=b:=by
     have:q*(Y/4294967296)=(q-1)*(Y/4294967296)+Y/4294967296:=by
      conv=>lhs;rw[←B,kA,Nat.one_mul]
     omega
    simp only[jK] at m
    exact QZ N p y i j Y a b C D s d g F t n (q-1) (r+Y/4294967296) (by omega) (by omega) (by omega) K (by rw[B];exact k)
   ·rw[iN]
    simp only[jG] at m
    rw[Xz (by omega) (V2 u z G (by omega)) (by rw[B];exact k)]
def Zc (a b:Nat) (h:b≠0) (c:a<18446744073709551616):Od .u64 (a:Int) (b:Int)=some ((a/b:Nat):Int):=by
 unfold Od
 rw[iP (by omega)]
 have e:(a:Int).tdiv (b:Int)=((a/b:Nat):Int):=rfl
 have:a/b≤a:=Nat.div_le_self _ _
 rw[e,D1 _ (by omega)]
def gJ (a b:Nat) (h:b≠0):Qv (a:Int) (b:Int)=some ((a%b:Nat):Int):=by
 unfold Qv
 rw[iP (by omega)]
 rfl
def ZV (a s:Nat) (d:s≤64):DV .u64 (a:Int) s=((a*2^s%18446744073709551616:Nat):Int):=by
 unfold DV
 have b:min s IntKind.u64.bits=s:=by simp [IntKind.bits];omega
 have c:((a:Int)*2^s)=((a*2^s:Nat):Int):=by simp
 rw[b,c]
 exact Yp _
def orN (a b:Nat) (g:a<18446744073709551616) (i:b<18446744073709551616):Gj .or .u64 (a:Int) (b:Int)=((a|||b:Nat):Int):=by
 have c:(BitVec.ofInt 64 (a:Int)).toNat=a:=by rw[BitVec.ofInt_natCast,BitVec.toNat_ofNat];exact lW (by omega)
 have d:(BitVec.ofInt 64 (b:Int)).toNat=b:=by rw[BitVec.ofInt_natCast,BitVec.toNat_ofNat];exact lW (by omega)
 have j:a|||b<2^64:=Nat.or_lt_two_pow (by omega) (by omega)
 show IntKind.u64.wrap (((BitVec.ofInt 64 (a:Int))|||(BitVec.ofInt 64 (b:Int))).toNat:Int)=_
 rw[BitVec.toNat_or,c,d,D1 _ (by omega)]
def SY (a b:Nat):a=a/b*b+a%b:=by rw[lO];exact(mN a b).symm
def VV {Y A B u:Nat}(a:0<Y):(A*B+u)/Y=A/Y*B+(A%Y*B+u)/Y∧(A*B+u)%Y=(A%Y*B+u)%Y:=by
 have b:=mN A Y
 have e:A*B+u=Y*(A/Y*B)+(A%Y*B+u):=by
  conv=>lhs;rw[←b,kA,Nat.mul_assoc,lS]
 rw[e]
 exact⟨by rw[Nat.mul_add_div a],by rw[Nat.mul_add_mod]⟩
def Kx {a b q Y R:Nat}(h:a=q*Y+R) (c:R<18446744073709551616) (d:b=a%18446744073709551616):IntKind.u64.wrap ((b:Int)-IntKind.u64.wrap ((q*Y:Nat):Int))=(R:Int):=by
 rw[Kf,Kf]
 generalize q*Y=t at h
 omega
def U1 {N:Nat}(X:18446744073709551616<N) (w l y:Int) (s:Nat) (Z:s≤63) (m n:Nat) (Y c g k d:Nat) (p:DV .u64 y s=(Y:Int)) (q:DV .u64 l s=(c:Int)) (x:Gj .or .u64 (DV .u64 w m) (Du .u64 l n)=(g:Int))
  (o:9223372036854775808≤Y) (i:Y<18446744073709551616) (j:c<18446744073709551616) (hu:g<Y) (D:(g*4294967296+c/4294967296)=k*Y+d) (A:d<Y) (F:k<4294967296):
  DZ N w l y (s:Int) s m n s (k:Int)=some (((k*4294967296+(d*4294967296+c%4294967296)/Y:Nat):Int),(((d*4294967296+c%4294967296)%Y/2^s:Nat):Int)):=by
 have G:0<Y/4294967296:=by omega
 have H:Y/4294967296<4294967296:=by omega
 have u:c%4294967296<4294967296:=kN _ (by omega)
 have B:IntKind.u64.wrap (IntKind.u64.wrap (IntKind.u64.wrap ((g:Int)*4294967296)+Du .u64 (DV .u64 l s) 32)-IntKind.u64.wrap ((k:Int)*(Y:Int)))=(d:Int):=by
  rw[q,Lp,Nb]
  refine(jA (λz=>IntKind.u64.wrap (z-_)) ?_).trans (Kx (b:=(g*4294967296+c/4294967296)%18446744073709551616) D (by omega) rfl)
  rw[Kf,Kf]
  omega
 obtain⟨I,C,J,K⟩:=SB o i A (c%4294967296) u
 unfold DZ
 rw[x,p,B,Lp,Zc _ _ (by omega) (by omega)]
 simp only[iM]
 have M:IntKind.u64.wrap ((d:Int)-IntKind.u64.wrap (((d/(Y/4294967296):Nat):Int)*((Y/4294967296:Nat):Int)))=((d%(Y/4294967296):Nat):Int):=by
  rw[Nb]
  exact Kx (a:=d) C.symm (by omega) (by omega)
 rw[M,QZ N l y s s Y c d p q o i j A _ N _ _ (by omega) I K C J]
 unfold EX
 have Q:M8 (IntKind.u64.wrap (s:Int))=some s:=by
  rw[D1 s (by omega)]
  unfold M8
  rw[iP (by omega)]
  simp
 rw[x,p,Q,B,q,PO c j]
 simp only[iM]
 have hd:=mN (d*4294967296+c%4294967296) Y
 have v:(d*4294967296+c%4294967296)/Y<4294967296:=(mY (by omega)).2 (by omega)
 have U:(d*4294967296+c%4294967296)%Y<Y:=kN _ (by omega)
 have V:IntKind.u64.wrap (IntKind.u64.wrap (IntKind.u64.wrap ((d:Int)*4294967296)+((c%4294967296:Nat):Int))-IntKind.u64.wrap (((((d*4294967296+c%4294967296)/Y:Nat)):Int)*(Y:Int)))=(((d*4294967296+c%4294967296)%Y:Nat):Int):=by
  rw[Nb]
  refine(jA (λz=>IntKind.u64.wrap (z-_)) ?_).trans (Kx (a:=d*4294967296+c%4294967296) (b:=(d*4294967296+c%4294967296)%18446744073709551616) (SY _ _) (by omega) rfl)
  rw[Kf,Kf]
  omega
 have W:IntKind.u64.wrap (IntKind.u64.wrap ((k:Int)*4294967296)+((((d*4294967296+c%4294967296)/Y:Nat)):Int))=((k*4294967296+(d*4294967296+c%4294967296)/Y:Nat):Int):=by
  rw[Kf,Kf]
  generalize (d*4294967296+c%4294967296)/Y=t at v
  omega
 rw[V,W,TG _ s (by omega)]
def X4 (a u:Nat):(a*4294967296+u/4294967296)*4294967296+u%4294967296=a*18446744073709551616+u:=by omega
def Wf {N:Nat}(D:18446744073709551616<N) (o m y:Int) (s:Nat) (F:s≤63) (g i:Nat) (Y c b:Nat) (p:DV .u64 y s=(Y:Int)) (w:DV .u64 m s=(c:Int)) (x:Gj .or .u64 (DV .u64 o g) (Du .u64 m i)=(b:Int))
  (l:9223372036854775808≤Y) (j:Y<18446744073709551616) (k:c<18446744073709551616) (q:b<Y):
  ((Od .u64 (Gj .or .u64 (DV .u64 o g) (Du .u64 m i)) (Du .u64 (DV .u64 y s) 32)).bind λn=>
   C7 N m y s s (DZ N o m y (s:Int) s g i s) N n (IntKind.wrap .u64 ((Gj .or .u64 (DV .u64 o g) (Du .u64 m i))-(IntKind.wrap .u64 (n*(Du .u64 (DV .u64 y s) 32))))))=
  some ((((b*18446744073709551616+c)/Y:Nat):Int),(((b*18446744073709551616+c)%Y/2^s:Nat):Int)):=by
 have d:0<Y:=by omega
 have t:c/4294967296<4294967296:=by omega
 obtain⟨G,z,H,I⟩:=SB l j q (c/4294967296) t
 obtain⟨C,t2⟩:=VV (Y:=Y) (A:=b*4294967296+c/4294967296) (B:=4294967296) (u:=c%4294967296) d
 rw[X4] at C t2
 rw[C,t2,x,p,Lp,Zc _ _ (by omega) (by omega)]
 simp only[iM]
 have J:IntKind.u64.wrap ((b:Int)-IntKind.u64.wrap (((b/(Y/4294967296):Nat):Int)*((Y/4294967296:Nat):Int)))=((b%(Y/4294967296):Nat):Int):=by
  rw[Nb]
  exact Kx (a:=b) z.symm (by omega) (by omega)
 have v:(b*4294967296+c/4294967296)/Y<4294967296:=(mY d).2 (by omega)
 rw[J,Qa N _ _ s s Y c b p w l j k q _ N _ _ (by omega) G I z H]
 exact U1 D _ _ _ s F g i Y c b _ _ p w x l j k q (SY _ _) (kN _ d) v
def Vg {h l s M:Nat}(b:M=2^64) (d:s≤63):(h*2^s+l/2^(64-s))*M+l*2^s%M=(h*M+l)*2^s:=by
 have e:(2:Nat)^64=2^(64-s)*2^s:=by rw[←Nat.pow_add];congr 1;omega
 have c:l*2^s/M=l/2^(64-s):=by
  rw[b,e,Nat.mul_div_mul_right _ _ (mL s)]
 have a:=mN (l*2^s) M
 rw[c] at a
 rw[kA,kA,Nat.mul_right_comm h,lS,lO (l/2^(64-s)) M]
 exact jA _ a
def SZ {N:Nat}(o:18446744073709551616<N) (h l y:Nat) (c:l<18446744073709551616) (p:y<18446744073709551616) (k:h<y):
  Ew N (h:Int) (l:Int) (y:Int)=some ((((h*18446744073709551616+l)/y:Nat):Int),(((h*18446744073709551616+l)%y:Nat):Int)):=by
 unfold Ew
 rw[show decide ((y:Int)=0)=false by simp;omega,show decide ((y:Int)≤(h:Int))=false by simp;omega,iO,iO]
 rcases mZ h with e|hp
 ·subst e
  rw[show decide (((0:Nat):Int)=0)=true by simp,iN,Zc _ _ (by omega) c,gJ _ _ (by omega),Nat.zero_mul,jR]
  rfl
 ·rw[show decide ((h:Int)=0)=false by simp;omega,iO]
  obtain⟨s,q,m,u,d⟩:=Yy N (show 0<y by omega) p
  have n:∀t:Nat,t≤64→M8 (IntKind.u64.wrap (t:Int))=some t:=λt A=>by
   rw[D1 t (by omega)]
   unfold M8
   rw[iP (by omega)]
   simp
  have g:(64:Int)-IntKind.u64.wrap (s:Int)=((64-s:Nat):Int):=by rw[D1 s (by omega)];omega
  rw[q,iM,g,n s (by omega),n (64-s) (by omega),iM,iM,iM,iM]
  have a:h*2^s<18446744073709551616:=mO (kE _ (Nat.le_of_lt k)) d
  have b:l/2^(64-s)<2^s:=by
   refine(mY (mL _)).2 ?_
   rw[←Nat.pow_add,show s+(64-s)=64 by omega]
   exact c
  have i:l/2^(64-s)<18446744073709551616:=mO (Nat.div_le_self _ _) c
  have j:h*2^s|||l/2^(64-s)=h*2^s+l/2^(64-s):=by
   rw[lO h]
   exact(Nat.two_pow_add_eq_or_of_lt b h).symm
  have v:DV .u64 (y:Int) s=((y*2^s:Nat):Int):=by rw[ZV _ _ (by omega),lW d]
  have w:DV .u64 (l:Int) s=((l*2^s%18446744073709551616:Nat):Int):=ZV _ _ (by omega)
  have x:Gj .or .u64 (DV .u64 (h:Int) s) (Du .u64 (l:Int) (64-s))=((h*2^s+l/2^(64-s):Nat):Int):=by
   rw[ZV _ _ (by omega),TG _ _ (by omega),lW a,orN _ _ a i,j]
  have z:h*2^s+l/2^(64-s)<y*2^s:=by
   have:(h+1)*2^s≤y*2^s:=kE _ k
   rw[kA,Nat.one_mul] at this
   exact iY (Nat.add_lt_add_left b _) this
  have hd:=Wf o (h:Int) (l:Int) (y:Int) s m s (64-s) _ _ _ v w x u d (kN _ (by omega)) z
  rw[Vg (M:=18446744073709551616) rfl m,Nat.mul_div_mul_right _ _ (mL s),Nat.mul_mod_mul_right,Nat.mul_div_cancel _ (mL s)] at hd
  exact hd
def Xm (a n d:Int):Int×Int×Bool:=if (0≤a∧a≤1125899906842624)∧(0≤n∧n≤1125899906842624)∧(1≤d∧d≤1125899906842624)∧a*n/d≤1125899906842624 then (a*n/d,a*n%d,true) else (0,0,false)
def ZW {t d:Nat}(hd:0<d) (h:d≤t/18446744073709551616):18446744073709551616≤t/d:=by
 refine(Nat.le_div_iff_mul_le hd).2 ?_
 omega
def NW {N:Nat}(t:18446744073709551616<N) (a n d:Int):Fa N a n d=some (Xm a n d):=by
 unfold Fa Xm
 cases m:(((((decide (a<0)||decide (1125899906842624<a))||decide (n<0))||decide (1125899906842624<n))||decide (d<1))||decide (1125899906842624<d))
 ·simp only[jP,jK] at m
  obtain⟨⟨⟨⟨⟨y,z⟩,A⟩,B⟩,C⟩,D⟩:=m
  obtain⟨b,rfl⟩:∃k:Nat,a=k:=⟨a.toNat,by omega⟩
  obtain⟨c,rfl⟩:∃k:Nat,n=k:=⟨n.toNat,by omega⟩
  obtain⟨g,rfl⟩:∃k:Nat,d=k:=⟨d.toNat,by omega⟩
  rw[iO,D1 b (by omega),D1 c (by omega),D1 g (by omega),Nc N b c (by omega) (by omega)]
  simp only[iM]
  have u:(b:Int)*(c:Int)/(g:Int)=((b*c/g:Nat):Int):=by rw[Int.natCast_ediv,lX]
  have v:(b:Int)*(c:Int)%(g:Int)=((b*c%g:Nat):Int):=by rw[Int.natCast_emod,lX]
  rw[u,v]
  have o:b*c/18446744073709551616*18446744073709551616+b*c%18446744073709551616=b*c:=(SY _ _).symm
  have j:0<g:=by omega
  by_cases l:g≤b*c/18446744073709551616
  ·rw[show decide ((g:Int)≤((b*c/18446744073709551616:Nat):Int))=true from iW (Int.ofNat_le.2 l),iN,iP]
   intro h
   have p:=h.2.2.2
   have w:=ZW j l
   generalize b*c/g=q at p w
   omega
  ·have s:¬(g:Int)≤((b*c/18446744073709551616:Nat):Int):=λh=>l (Int.ofNat_le.1 h)
   rw[jD s,iO,SZ t _ _ _ (kN _ (by omega)) (by omega) (Nat.lt_of_not_le l),o]
   simp only[iM]
   have x:b*c%g<g:=kN _ j
   generalize b*c/g=q
   generalize b*c%g=r at x
   by_cases p:q≤1125899906842624
   ·have i:¬(1125899906842624:Int)<(q:Int):=by omega
    rw[jD i,iO,iR ⟨by omega,by omega,by omega,by omega⟩,DE (by omega) (by omega),DE (by omega) (by omega)]
   ·have i:(1125899906842624:Int)<(q:Int):=by omega
    rw[iW i,iN,iP (λh=>p (by have:=h.2.2.2;omega))]
 ·rw[iN,iP]
  intro h
  simp only[jC,jG] at m
  omega
end Go.Proofs.YtibidnaedddfdaaGreat
