import Derived.Test.YtblcgjadhemlbaaGreatWPureDiv
namespace Go.Proofs.YtblcgjadhemlbaaGreat
set_option linter.all false
open Go.RowKit
def Qt {Y b d q r:Nat}(g:q*(Y/4294967296)+r=b):q*(Y%4294967296)≤4294967296*r+d↔q*Y≤b*4294967296+d:=by
 have e:q*Y=4294967296*(q*(Y/4294967296))+q*(Y%4294967296):=by
  conv=>lhs;rw[←uT Y 4294967296,Nat.mul_add,Nat.mul_left_comm]
 rw[e,←g]
 generalize q*(Y/4294967296)=a
 generalize q*(Y%4294967296)=c
 omega
def Ym {Y a b q:Nat}(d:a<Y) (g:b<4294967296) (c:4294967296≤q):a*4294967296+b<q*Y:=by
 have i:4294967296*Y≤q*Y:=sY _ c
 omega
def Yn {Y a b q r:Nat}(c:q*(Y/4294967296)+r=a) (d:1≤q) (g:q≤4294967297) (i:4294967296≤r+Y/4294967296):(q-1)*Y≤a*4294967296+b:=by
 have e:(q-1)*(Y/4294967296)+(r+Y/4294967296)=a:=by
  obtain⟨p,rfl⟩:∃p,q=p+1:=⟨q-1,by omega⟩
  rw[sZ] at c
  simp only[vE]
  omega
 refine(Qt e).1 ?_
 have j:(q-1)*(Y%4294967296)≤4294967296*(Y%4294967296):=sY _ (by omega)
 have k:Y%4294967296<4294967296:=tB _ (by omega)
 omega
def aP {Y U q:Nat}(c:0<Y) (a:q*Y≤U) (b:U<(q+1)*Y):U/Y=q:=Nat.div_eq_of_lt_le a b
def UN {Y a:Nat}(g:9223372036854775808≤Y) (l:Y<18446744073709551616) (m:a<Y) (d:Nat) (n:d<4294967296):a/(Y/4294967296)≤4294967297∧a/(Y/4294967296)*(Y/4294967296)+a%(Y/4294967296)=a∧a*4294967296+d<(a/(Y/4294967296)+1)*Y∧a%(Y/4294967296)<4294967296:=by
 have i:2147483648≤Y/4294967296:=by omega
 have j:Y/4294967296<4294967296:=by omega
 have b:0<Y/4294967296:=by omega
 have o:a%(Y/4294967296)<Y/4294967296:=tB _ b
 have c:a/(Y/4294967296)*(Y/4294967296)+a%(Y/4294967296)=a:=by rw[uC];exact uT _ _
 refine⟨?_,c,?_,by omega⟩
 ·refine tY ((vD b).2 ?_)
  omega
 ·have k:(a/(Y/4294967296)+1)*(4294967296*(Y/4294967296))≤(a/(Y/4294967296)+1)*Y:=Nat.mul_le_mul_left _ (by omega)
  rw[Nat.mul_left_comm,sZ,Nat.one_mul] at k
  omega
def SG (N:Nat) (p y:Int) (g i:Nat) (Y a b:Nat) (C:D4 .u64 y g=(Y:Int)) (D:D4 .u64 p i=(a:Int)) (s:9223372036854775808≤Y) (d:Y<18446744073709551616) (k:a<18446744073709551616) (F:b<Y) (t:Int→Option (Int×Int)):
  ∀(n q r:Nat),q<n→q≤4294967297→r<4294967296→q*(Y/4294967296)+r=b→b*4294967296+a/4294967296<(q+1)*Y→
  Dh N p y g i t n (q:Int) (r:Int)=t (((b*4294967296+a/4294967296)/Y:Nat):Int)
 |0,q,r,V,_,_,_,_=>by omega
 |n+1,q,r,M,G,Q,u,H=>by
  have I:Y/4294967296<4294967296:=by omega
  have l:Y%4294967296<4294967296:=tB _ (by omega)
  have v:a/4294967296<4294967296:=by omega
  simp only[Dh]
  rw[C,D,M7,M7,Qr Y d,Oj,show(4294967296:Int)=((4294967296:Nat):Int) from rfl,Oj,Ed _ (show 4294967296*r<18446744073709551616 by omega),SL,Ed _ (show 4294967296*r+a/4294967296<18446744073709551616 by omega),SL,Ed (r+Y/4294967296) (by omega)]
  cases o:(decide (((4294967296:Nat):Int)≤(q:Int))||decide (((4294967296*r+a/4294967296:Nat):Int)<IntKind.u64.wrap ((q*(Y%4294967296):Nat):Int)))
  ·simp only[rS,rO] at o
   obtain⟨U,J⟩:=o
   have c:q<4294967296:=by omega
   have w:q*(Y%4294967296)<18446744073709551616:=uU (Nat.mul_le_mul (tY c) (tY l)) (by decide)
   rw[Ed _ w] at J
   rw[qQ,aP (by omega) ((Qt u).1 (by omega)) H]
  ·rw[qO]
   have j:b*4294967296+a/4294967296<q*Y:=by
    rcases rL q 4294967296 with c|c
    ·have w:q*(Y%4294967296)<18446744073709551616:=uU (Nat.mul_le_mul (tY c) (tY l)) (by decide)
     rw[Ed _ w] at o
     simp only[rI,rJ] at o
     refine Nat.lt_of_not_le λx=>?_
     have:=(Qt u).2 x
     omega
    ·exact Ym F v c
   have z:1≤q:=by
    rcases vF q with e|e
    ·rw[e,Nat.zero_mul] at j;omega
    ·exact e
   have A:IntKind.u64.wrap ((q:Int)-1)=((q-1:Nat):Int):=by rw[show (q:Int)-1=((q-1:Nat):Int) by omega];exact Ed _ (by omega)
   rw[A]
   have B:q-1+1=q:=by omega
   cases m:decide (((4294967296:Nat):Int)≤((r+Y/4294967296:Nat):Int))
   ·rw[qQ]
    have K:(q-1)*(Y/4294967296)+(r+Y/4294967296)=b:=by
     have:q*(Y/4294967296)=(q-1)*(Y/4294967296)+Y/4294967296:=by
      conv=>lhs;rw[←B,sZ,Nat.one_mul]
     omega
    simp only[rO] at m
    exact SG N p y g i Y a b C D s d k F t n (q-1) (r+Y/4294967296) (by omega) (by omega) (by omega) K (by rw[B];exact j)
   ·rw[qO]
    simp only[rJ] at m
    rw[aP (by omega) (Yn u z G (by omega)) (by rw[B];exact j)]
def SF (N:Nat) (p y:Int) (i j:Nat) (Y a b:Nat) (C:D4 .u64 y i=(Y:Int)) (D:D4 .u64 p j=(a:Int)) (s:9223372036854775808≤Y) (d:Y<18446744073709551616) (g:a<18446744073709551616) (F:b<Y) (t:Int→Option (Int×Int)):
  ∀(n q r:Nat),q<n→q≤4294967297→r<4294967296→q*(Y/4294967296)+r=b→b*4294967296+a%4294967296<(q+1)*Y→
  D8 N p y i j t n (r:Int) (q:Int)=t (((b*4294967296+a%4294967296)/Y:Nat):Int)
 |0,q,r,V,_,_,_,_=>by omega
 |n+1,q,r,M,G,Q,u,H=>by
  have I:Y/4294967296<4294967296:=by omega
  have l:Y%4294967296<4294967296:=tB _ (by omega)
  have v:a%4294967296<4294967296:=tB _ (by omega)
  simp only[D8]
  rw[C,D,M7,Qr a g,Qr Y d,Oj,show(4294967296:Int)=((4294967296:Nat):Int) from rfl,Oj,Ed _ (show 4294967296*r<18446744073709551616 by omega),SL,Ed _ (show 4294967296*r+a%4294967296<18446744073709551616 by omega),SL,Ed (r+Y/4294967296) (by omega)]
  cases o:(decide (((4294967296:Nat):Int)≤(q:Int))||decide (((4294967296*r+a%4294967296:Nat):Int)<IntKind.u64.wrap ((q*(Y%4294967296):Nat):Int)))
  ·simp only[rS,rO] at o
   obtain⟨U,J⟩:=o
   have c:q<4294967296:=by omega
   have w:q*(Y%4294967296)<18446744073709551616:=uU (Nat.mul_le_mul (tY c) (tY l)) (by decide)
   rw[Ed _ w] at J
   rw[qQ,aP (by omega) ((Qt u).1 (by omega)) H]
  ·rw[qO]
   have k:b*4294967296+a%4294967296<q*Y:=by
    rcases rL q 4294967296 with c|c
    ·have w:q*(Y%4294967296)<18446744073709551616:=uU (Nat.mul_le_mul (tY c) (tY l)) (by decide)
     rw[Ed _ w] at o
     simp only[rI,rJ] at o
     refine Nat.lt_of_not_le λx=>?_
     have:=(Qt u).2 x
     omega
    ·exact Ym F v c
   have z:1≤q:=by
    rcases vF q with e|e
    ·rw[e,Nat.zero_mul] at k;omega
    ·exact e
   have A:IntKind.u64.wrap ((q:Int)-1)=((q-1:Nat):Int):=by rw[show (q:Int)-1=((q-1:Nat):Int) by omega];exact Ed _ (by omega)
   rw[A]
   have B:q-1+1=q:=by omega
   cases m:decide (((4294967296:Nat):Int)≤((r+Y/4294967296:Nat):Int))
   ·rw[qQ]
    have K:(q-1)*(Y/4294967296)+(r+Y/4294967296)=b:=by
     have:q*(Y/4294967296)=(q-1)*(Y/4294967296)+Y/4294967296:=by
      conv=>lhs;rw[←B,sZ,Nat.one_mul]
     omega
    simp only[rO] at m
    exact SF N p y i j Y a b C D s d g F t n (q-1) (r+Y/4294967296) (by omega) (by omega) (by omega) K (by rw[B];exact k)
   ·rw[qO]
    simp only[rJ] at m
    rw[aP (by omega) (Yn u z G (by omega)) (by rw[B];exact k)]
def fA (a b:Nat) (d:b≠0) (c:a<18446744073709551616):P0 .u64 (a:Int) (b:Int)=some ((a/b:Nat):Int):=by
 unfold P0
 rw[qP (by omega)]
 have e:(a:Int).tdiv (b:Int)=((a/b:Nat):Int):=rfl
 have:a/b≤a:=Nat.div_le_self _ _
 rw[e,Ed _ (by omega)]
def oX (a b:Nat) (c:b≠0):Sg (a:Int) (b:Int)=some ((a%b:Nat):Int):=by
 unfold Sg
 rw[qP (by omega)]
 rfl
def eW (a s:Nat) (d:s≤64):D4 .u64 (a:Int) s=((a*2^s%18446744073709551616:Nat):Int):=by
 unfold D4
 have b:min s IntKind.u64.bits=s:=by simp [IntKind.bits];omega
 have c:((a:Int)*2^s)=((a*2^s:Nat):Int):=by simp
 rw[b,c]
 exact cL _
def orN (a b:Nat) (g:a<18446744073709551616) (i:b<18446744073709551616):IF .or .u64 (a:Int) (b:Int)=((a|||b:Nat):Int):=by
 have c:(BitVec.ofInt 64 (a:Int)).toNat=a:=by rw[BitVec.ofInt_natCast,BitVec.toNat_ofNat];exact uI (by omega)
 have d:(BitVec.ofInt 64 (b:Int)).toNat=b:=by rw[BitVec.ofInt_natCast,BitVec.toNat_ofNat];exact uI (by omega)
 have j:a|||b<2^64:=Nat.or_lt_two_pow (by omega) (by omega)
 show IntKind.u64.wrap (((BitVec.ofInt 64 (a:Int))|||(BitVec.ofInt 64 (b:Int))).toNat:Int)=_
 rw[BitVec.toNat_or,c,d,Ed _ (by omega)]
def Ue (a b:Nat):a=a/b*b+a%b:=by rw[uC];exact(uT a b).symm
def X4 {Y A B u:Nat}(a:0<Y):(A*B+u)/Y=A/Y*B+(A%Y*B+u)/Y∧(A*B+u)%Y=(A%Y*B+u)%Y:=by
 have b:=uT A Y
 have e:A*B+u=Y*(A/Y*B)+(A%Y*B+u):=by
  conv=>lhs;rw[←b,sZ,Nat.mul_assoc,Nat.add_assoc]
 rw[e]
 exact⟨by rw[Nat.mul_add_div a],by rw[Nat.mul_add_mod]⟩
def MZ {a b q Y R:Nat}(g:a=q*Y+R) (c:R<18446744073709551616) (d:b=a%18446744073709551616):IntKind.u64.wrap ((b:Int)-IntKind.u64.wrap ((q*Y:Nat):Int))=(R:Int):=by
 rw[MC,MC]
 generalize q*Y=t at g
 omega
def XW {N:Nat}(X:18446744073709551616<N) (w l y:Int) (s:Nat) (Z:s≤63) (m n:Nat) (Y c g k d:Nat) (p:D4 .u64 y s=(Y:Int)) (q:D4 .u64 l s=(c:Int)) (x:IF .or .u64 (D4 .u64 w m) (Ew .u64 l n)=(g:Int))
  (o:9223372036854775808≤Y) (i:Y<18446744073709551616) (j:c<18446744073709551616) (hu:g<Y) (D:(g*4294967296+c/4294967296)=k*Y+d) (A:d<Y) (F:k<4294967296):
  D9 N w l y (s:Int) s m n s (k:Int)=some (((k*4294967296+(d*4294967296+c%4294967296)/Y:Nat):Int),(((d*4294967296+c%4294967296)%Y/2^s:Nat):Int)):=by
 have G:0<Y/4294967296:=by omega
 have H:Y/4294967296<4294967296:=by omega
 have u:c%4294967296<4294967296:=tB _ (by omega)
 have B:IntKind.u64.wrap (IntKind.u64.wrap (IntKind.u64.wrap ((g:Int)*4294967296)+Ew .u64 (D4 .u64 l s) 32)-IntKind.u64.wrap ((k:Int)*(Y:Int)))=(d:Int):=by
  rw[q,M7,Oj]
  refine(rE (λz=>IntKind.u64.wrap (z-_)) ?_).trans (MZ (b:=(g*4294967296+c/4294967296)%18446744073709551616) D (by omega) rfl)
  rw[MC,MC]
  omega
 obtain⟨I,C,J,K⟩:=UN o i A (c%4294967296) u
 unfold D9
 rw[x,p,B,M7,fA _ _ (by omega) (by omega)]
 simp only[qN]
 have M:IntKind.u64.wrap ((d:Int)-IntKind.u64.wrap (((d/(Y/4294967296):Nat):Int)*((Y/4294967296:Nat):Int)))=((d%(Y/4294967296):Nat):Int):=by
  rw[Oj]
  exact MZ (a:=d) C.symm (by omega) (by omega)
 rw[M,SF N l y s s Y c d p q o i j A _ N _ _ (by omega) I K C J]
 unfold FE
 have Q:OK (IntKind.u64.wrap (s:Int))=some s:=by
  rw[Ed s (by omega)]
  unfold OK
  rw[qP (by omega)]
  simp
 rw[x,p,Q,B,q,Qr c j]
 simp only[qN]
 have hd:=uT (d*4294967296+c%4294967296) Y
 have v:(d*4294967296+c%4294967296)/Y<4294967296:=(vD (by omega)).2 (by omega)
 have U:(d*4294967296+c%4294967296)%Y<Y:=tB _ (by omega)
 have V:IntKind.u64.wrap (IntKind.u64.wrap (IntKind.u64.wrap ((d:Int)*4294967296)+((c%4294967296:Nat):Int))-IntKind.u64.wrap (((((d*4294967296+c%4294967296)/Y:Nat)):Int)*(Y:Int)))=(((d*4294967296+c%4294967296)%Y:Nat):Int):=by
  rw[Oj]
  refine(rE (λz=>IntKind.u64.wrap (z-_)) ?_).trans (MZ (a:=d*4294967296+c%4294967296) (b:=(d*4294967296+c%4294967296)%18446744073709551616) (Ue _ _) (by omega) rfl)
  rw[MC,MC]
  omega
 have W:IntKind.u64.wrap (IntKind.u64.wrap ((k:Int)*4294967296)+((((d*4294967296+c%4294967296)/Y:Nat)):Int))=((k*4294967296+(d*4294967296+c%4294967296)/Y:Nat):Int):=by
  rw[MC,MC]
  generalize (d*4294967296+c%4294967296)/Y=t at v
  omega
 rw[V,W,U7 _ s (by omega)]
def aT (a u:Nat):(a*4294967296+u/4294967296)*4294967296+u%4294967296=a*18446744073709551616+u:=by omega
def ZR {N:Nat}(D:18446744073709551616<N) (o m y:Int) (s:Nat) (F:s≤63) (g i:Nat) (Y c b:Nat) (p:D4 .u64 y s=(Y:Int)) (w:D4 .u64 m s=(c:Int)) (x:IF .or .u64 (D4 .u64 o g) (Ew .u64 m i)=(b:Int))
  (l:9223372036854775808≤Y) (j:Y<18446744073709551616) (k:c<18446744073709551616) (q:b<Y):
  ((P0 .u64 (IF .or .u64 (D4 .u64 o g) (Ew .u64 m i)) (Ew .u64 (D4 .u64 y s) 32)).bind λn=>
   Dh N m y s s (D9 N o m y (s:Int) s g i s) N n (IntKind.wrap .u64 ((IF .or .u64 (D4 .u64 o g) (Ew .u64 m i))-(IntKind.wrap .u64 (n*(Ew .u64 (D4 .u64 y s) 32))))))=
  some ((((b*18446744073709551616+c)/Y:Nat):Int),(((b*18446744073709551616+c)%Y/2^s:Nat):Int)):=by
 have d:0<Y:=by omega
 have t:c/4294967296<4294967296:=by omega
 obtain⟨G,z,H,I⟩:=UN l j q (c/4294967296) t
 obtain⟨C,t2⟩:=X4 (Y:=Y) (A:=b*4294967296+c/4294967296) (B:=4294967296) (u:=c%4294967296) d
 rw[aT] at C t2
 rw[C,t2,x,p,M7,fA _ _ (by omega) (by omega)]
 simp only[qN]
 have J:IntKind.u64.wrap ((b:Int)-IntKind.u64.wrap (((b/(Y/4294967296):Nat):Int)*((Y/4294967296:Nat):Int)))=((b%(Y/4294967296):Nat):Int):=by
  rw[Oj]
  exact MZ (a:=b) z.symm (by omega) (by omega)
 have v:(b*4294967296+c/4294967296)/Y<4294967296:=(vD d).2 (by omega)
 rw[J,SG N _ _ s s Y c b p w l j k q _ N _ _ (by omega) G I z H]
 exact XW D _ _ _ s F g i Y c b _ _ p w x l j k q (Ue _ _) (tB _ d) v
def YK {g l s M:Nat}(b:M=2^64) (d:s≤63):(g*2^s+l/2^(64-s))*M+l*2^s%M=(g*M+l)*2^s:=by
 have e:(2:Nat)^64=2^(64-s)*2^s:=by rw[←Nat.pow_add];congr 1;omega
 have c:l*2^s/M=l/2^(64-s):=by
  rw[b,e,Nat.mul_div_mul_right _ _ (uS s)]
 have a:=uT (l*2^s) M
 rw[c] at a
 rw[sZ,sZ,Nat.mul_right_comm g,Nat.add_assoc,uC (l/2^(64-s)) M]
 exact rE _ a
def Uf {N:Nat}(o:18446744073709551616<N) (B l y:Nat) (c:l<18446744073709551616) (p:y<18446744073709551616) (k:B<y):
  Ft N (B:Int) (l:Int) (y:Int)=some ((((B*18446744073709551616+l)/y:Nat):Int),(((B*18446744073709551616+l)%y:Nat):Int)):=by
 unfold Ft
 rw[show decide ((y:Int)=0)=false by simp;omega,show decide ((y:Int)≤(B:Int))=false by simp;omega,qQ,qQ]
 rcases vF B with e|hp
 ·subst e
  rw[show decide (((0:Nat):Int)=0)=true by simp,qO,fA _ _ (by omega) c,oX _ _ (by omega),Nat.zero_mul,sB]
  rfl
 ·rw[show decide ((B:Int)=0)=false by simp;omega,qQ]
  obtain⟨s,q,m,u,d⟩:=dD N (show 0<y by omega) p
  have n:∀t:Nat,t≤64→OK (IntKind.u64.wrap (t:Int))=some t:=λt A=>by
   rw[Ed t (by omega)]
   unfold OK
   rw[qP (by omega)]
   simp
  have g:(64:Int)-IntKind.u64.wrap (s:Int)=((64-s:Nat):Int):=by rw[Ed s (by omega)];omega
  rw[q,qN,g,n s (by omega),n (64-s) (by omega),qN,qN,qN,qN]
  have a:B*2^s<18446744073709551616:=uU (sY _ (Nat.le_of_lt k)) d
  have b:l/2^(64-s)<2^s:=by
   refine(vD (uS _)).2 ?_
   rw[←Nat.pow_add,show s+(64-s)=64 by omega]
   exact c
  have i:l/2^(64-s)<18446744073709551616:=uU (Nat.div_le_self _ _) c
  have j:B*2^s|||l/2^(64-s)=B*2^s+l/2^(64-s):=by
   rw[uC B]
   exact(Nat.two_pow_add_eq_or_of_lt b B).symm
  have v:D4 .u64 (y:Int) s=((y*2^s:Nat):Int):=by rw[eW _ _ (by omega),uI d]
  have w:D4 .u64 (l:Int) s=((l*2^s%18446744073709551616:Nat):Int):=eW _ _ (by omega)
  have x:IF .or .u64 (D4 .u64 (B:Int) s) (Ew .u64 (l:Int) (64-s))=((B*2^s+l/2^(64-s):Nat):Int):=by
   rw[eW _ _ (by omega),U7 _ _ (by omega),uI a,orN _ _ a i,j]
  have z:B*2^s+l/2^(64-s)<y*2^s:=by
   have:(B+1)*2^s≤y*2^s:=sY _ k
   rw[sZ,Nat.one_mul] at this
   exact qZ (Nat.add_lt_add_left b _) this
  have hd:=ZR o (B:Int) (l:Int) (y:Int) s m s (64-s) _ _ _ v w x u d (tB _ (by omega)) z
  rw[YK (M:=18446744073709551616) rfl m,Nat.mul_div_mul_right _ _ (uS s),Nat.mul_mod_mul_right,Nat.mul_div_cancel _ (uS s)] at hd
  exact hd
def Zv (a n d:Int):Int×Int×Bool:=if (0≤a∧a≤1125899906842624)∧(0≤n∧n≤1125899906842624)∧(1≤d∧d≤1125899906842624)∧a*n/d≤1125899906842624 then (a*n/d,a*n%d,true) else (0,0,false)
def eX {t d:Nat}(hd:0<d) (a:d≤t/18446744073709551616):18446744073709551616≤t/d:=by
 refine(Nat.le_div_iff_mul_le hd).2 ?_
 omega
def KH {N:Nat}(t:18446744073709551616<N) (a n d:Int):GA N a n d=some (Zv a n d):=by
 unfold GA Zv
 cases m:(((((decide (a<0)||decide (1125899906842624<a))||decide (n<0))||decide (1125899906842624<n))||decide (d<1))||decide (1125899906842624<d))
 ·simp only[rS,rO] at m
  obtain⟨⟨⟨⟨⟨y,z⟩,A⟩,B⟩,C⟩,D⟩:=m
  obtain⟨b,rfl⟩:∃k:Nat,a=k:=⟨a.toNat,by omega⟩
  obtain⟨c,rfl⟩:∃k:Nat,n=k:=⟨n.toNat,by omega⟩
  obtain⟨g,rfl⟩:∃k:Nat,d=k:=⟨d.toNat,by omega⟩
  rw[qQ,Ed b (by omega),Ed c (by omega),Ed g (by omega),Ok N b c (by omega) (by omega)]
  simp only[qN]
  have u:(b:Int)*(c:Int)/(g:Int)=((b*c/g:Nat):Int):=by rw[Int.natCast_ediv,uK]
  have v:(b:Int)*(c:Int)%(g:Int)=((b*c%g:Nat):Int):=by rw[Int.natCast_emod,uK]
  rw[u,v]
  have o:b*c/18446744073709551616*18446744073709551616+b*c%18446744073709551616=b*c:=(Ue _ _).symm
  have j:0<g:=by omega
  by_cases l:g≤b*c/18446744073709551616
  ·rw[show decide ((g:Int)≤((b*c/18446744073709551616:Nat):Int))=true from rF (Int.ofNat_le.2 l),qO,qP]
   intro F
   have p:=F.2.2.2
   have w:=eX j l
   generalize b*c/g=q at p w
   omega
  ·have s:¬(g:Int)≤((b*c/18446744073709551616:Nat):Int):=λF=>l (Int.ofNat_le.1 F)
   rw[rD s,qQ,Uf t _ _ _ (tB _ (by omega)) (by omega) (Nat.lt_of_not_le l),o]
   simp only[qN]
   have x:b*c%g<g:=tB _ j
   generalize b*c/g=q
   generalize b*c%g=r at x
   by_cases p:q≤1125899906842624
   ·have i:¬(1125899906842624:Int)<(q:Int):=by omega
    rw[rD i,qQ,qR ⟨by omega,by omega,by omega,by omega⟩,Cx (by omega) (by omega),Cx (by omega) (by omega)]
   ·have i:(1125899906842624:Int)<(q:Int):=by omega
    rw[rF i,qO,qP (λF=>p (by have:=F.2.2.2;omega))]
 ·rw[qO,qP]
  intro F
  simp only[rI,rJ] at m
  omega
end Go.Proofs.YtblcgjadhemlbaaGreat
namespace Go.Proofs.YtblcgjadhemlbaaGreat
set_option linter.all false
open Go.RowKit
def Ke (b x:Bool):cond b true x=(b||x):=by cases b<;>rfl
def OJ (b x:Bool):cond b x false=(b&&x):=by cases b<;>rfl
def BT {k:Nat}(a:k<4611686018427387904):Bw ((k:Int)+1)=((k+1:Nat):Int):=by rw[Cx (by omega) (by omega)];rfl
def En {k L:Nat}(a:k<L):decide ((k:Int)<(L:Int))=true:=by simp;omega
def E4 {k L:Nat}(a:L≤k):decide ((k:Int)<(L:Int))=false:=by simp;omega
def IZ (L:Nat) (f:Nat→Int→Option Bool) (d:Option Bool) (P:Nat→Prop) (a:∀n (k:Nat),L≤k→f (n+1) (k:Int)=d) (b:∀n (k:Nat),k<L→f (n+1) (k:Int)=some false∨(P k∧f (n+1) (k:Int)=f n ((k+1:Nat):Int))):
  ∀n (k:Nat),L<n+k→k≤L→f n (k:Int)=some false∨((∀i,k≤i→i<L→P i)∧f n (k:Int)=d)
 |0,k,p,m=>by omega
 |n+1,k,p,m=>by
  rcases rL k L with g|g
  ·rcases b n k g with j|⟨j,h2⟩
   ·exact .inl j
   ·rcases IZ L f d P a b n (k+1) (by omega) (by omega) with l|⟨l,h4⟩
    ·exact .inl (h2.trans l)
    ·refine .inr ⟨λi o c=>?_,h2.trans h4⟩
     by_cases e:i=k
     ·subst e;exact j
     ·exact l i (by omega) c
  ·exact .inr ⟨λi o c=>by omega,a n k g⟩
def WH {σ t:Type}(L:Nat) (f:Nat→Int→σ→Option t) (c:σ→Option t) (I:σ→Prop) (a:∀n (k:Nat) s,L≤k→f (n+1) (k:Int) s=c s) (b:∀n (k:Nat) s,I s→k<L→∃s',I s'∧f (n+1) (k:Int) s=f n ((k+1:Nat):Int) s'):
  ∀n (k:Nat) s,I s→L<n+k→k≤L→∃s',I s'∧f n (k:Int) s=c s'
 |0,k,s,_,u,i=>by omega
 |n+1,k,s,g,u,i=>by
  rcases rL k L with d|d
  ·obtain⟨j,l,m⟩:=b n k s g d
   obtain⟨o,p,q⟩:=WH L f c I a b n (k+1) j l (by omega) (by omega)
   exact⟨o,p,m.trans q⟩
  ·exact⟨s,g,a n k s d⟩
def ST (n:Int):Bool:=decide (0≤n)&&decide (n≤1125899906842624)
def Kb {n:Int}(a:ST n=true):Hu n:=by simpa [ST,Hu] using a
def LV (N:Nat) (n:Int):Cz N n=some (ST n):=rfl
def Yp (n a b:Int):Bool:=decide (a≤n)&&decide (n≤b)
def ML (N:Nat) (n a b:Int):DB N n a b=some (Yp n a b):=rfl
def KB {n a b:Int}(c:Yp n a b=true):a≤n∧n≤b:=by simpa [Yp] using c
def SA (a b:Int):Bool:=(ST a&&ST b)&&(decide (b≠0)||decide (a=0))
def Oq (N:Nat) (a b:Int):G5 N a b=some (SA a b):=by
 simp only[G5,LV,qN,GC,OJ,SA]
def No {a b:Int}(c:SA a b=true):Hu a∧Hu b:=by
 simp only[SA,qT] at c
 exact⟨Kb c.1.1,Kb c.1.2⟩
def Om (N:Nat) (n:Int) {L:Nat}(a:L<4611686018427387904):FI N n (L:Int)=some (Yp n 0 ((L:Int)-1)):=by
 simp only[FI,ML,qN]
 rw[Cx (by omega) (by omega)]
def Pd (L:Nat) (fr to:Int):Bool:=decide (to= -1)||(Yp to 0 ((L:Int)-1)&&decide (to≠fr))
def Nf (N:Nat) (b:AU) (fr to:Int) (a:b.A.length<4611686018427387904):Io N b fr to=some (Pd b.A.length fr to):=by
 simp only[Io,Om N _ a,qN,GC,Ke,Pd]
def Vu {L:Nat}{fr to:Int}(a:Pd L fr to=true):to= -1∨(0≤to∧to<L):=by
 simp only[Pd,rI,qT,rJ] at a
 rcases a with a|a
 ·exact .inl a
 ·have:=KB a.1;exact .inr ⟨this.1,by omega⟩
structure IB (b:AU):Prop where
 own:b.J.length≤16
 cells:0≤b.T∧b.T≤64
 pl:b.A.length≤64
 li:b.E.length≤96
 to:b.Am.length≤40
 ga:b.Au.length≤128
 ro:b.Av.length≤128
 sh:b.Ay.length≤40
 own1:1≤b.J.length
def TN {s:ByteArray}{k:Nat}(a:k<s.size):∃z,Wl s (k:Int)=some z:=by
 unfold Wl
 rw[qP (by omega)]
 simp only[sF]
 exact⟨_,by rw[getElem?_pos s k a];rfl⟩
def aQ {N:Nat}(q:1000<N) (b:AU):∃v,IT N b=some v∧(v=true→IB b):=by
 unfold IT
 simp only[ML,qN,GC,Ke]
 generalize d:(_|| !Yp b.V 0 1099511627776)=B
 cases B
 ·simp only[rS,rO,tP] at d
  obtain⟨⟨⟨⟨⟨⟨⟨⟨⟨⟨s,g⟩,i⟩,j⟩,t⟩,u⟩,w⟩,x⟩,y⟩,l⟩,m⟩:=d
  have A:=KB g
  have C:=KB i
  have D:=KB j
  have c:IB b:=⟨by omega,by omega,by omega,by omega,by omega,by omega,by omega,by omega,by omega⟩
  simp only[qQ]
  have a:∃v,Ea N b=some v:=by
   unfold Ea
   rcases IZ b.Ax.length (EY N b (Gb N)) (Gb N) (λ_=>True) (λn k F=>by
    simp only[EY];rw[E4 F];rfl) (λn k F=>by
    simp only[EY]
    rw[En F,qO,BR F]
    simp only[qN,LV,BT (show k<4611686018427387904 by omega)]
    cases ST b.Ax[k]
    ·exact .inl rfl
    ·exact .inr ⟨trivial,rfl⟩) N 0 (by omega) (qW _) with F|⟨_,F⟩
   ·exact⟨_,F⟩
   ·exact⟨true,F⟩
  rcases IZ b.H.size (EZ N b (Ea N b)) (Ea N b) (λ_=>True) (λn k F=>by
    simp only[EZ];rw[E4 F];rfl) (λn k F=>by
    simp only[EZ]
    obtain⟨z,o⟩:=TN F
    rw[En F,qO,o]
    simp only[qN,BT (show k<4611686018427387904 by omega)]
    cases (decide (z<32)||decide (126<z)||decide (z=34)||decide (z=92))
    ·exact .inr ⟨trivial,rfl⟩
    ·exact .inl rfl) N 0 (by omega) (qW _) with F|⟨_,F⟩
  ·exact⟨false,F,λF=>by cases F⟩
  ·obtain⟨v,p⟩:=a
   exact⟨v,F.trans p,λ_=>c⟩
 ·exact⟨false,rfl,λF=>by cases F⟩
def XN {N:Nat}(d:1000<N) (s:ByteArray):Df (JV N s):=by
 unfold JV
 cases c:(decide ((s.size:Int)<1)||decide (24<(s.size:Int))||s==ByteArray.mk #[111,117,116])
 ·simp only[rS,rO] at c
  obtain⟨z,a⟩:=TN (s:=s) (k:=0) (by omega)
  have b:Wl s 0=some z:=a
  simp only[qQ,b,qN,GC,Ke]
  refine Df.cond (λ_=>Df.mk _) λ_=>?_
  rcases IZ s.size (Fv N s (HW N)) (HW N) (λ_=>True) (λn k g=>by
    simp only[Fv];rw[E4 g];rfl) (λn k g=>by
    simp only[Fv]
    obtain⟨z,a⟩:=TN g
    rw[En g,qO,a]
    simp only[qN,BT (show k<4611686018427387904 by omega)]
    cases (((decide (z<97)||decide (122<z))&&(decide (z<48)||decide (57<z)))&&decide (z≠95))
    ·exact .inr ⟨trivial,rfl⟩
    ·exact .inl rfl) N 1 (by omega) (by omega) with g|⟨_,g⟩
  ·exact⟨_,g⟩
  ·exact⟨_,g⟩
 ·simp only[qO,qN]
  exact Df.mk _
def Yw {N:Nat}(d:1000<N) (m:List (AQ×Bool)) (a b:ByteArray):Df (Js N m a b):=by
 have c:∀s,Df (Hz N m b s):=λs=>by
  unfold Hz
  exact Df.bind (XN d b) λ_ _=>Df.cond (λ_=>Df.mk _) λ_=>Df.mk _
 unfold Js
 exact Df.cond (λ_=>c _) λ_=>c _
def Lg {N:Nat}(d:1000<N) (m:List (AQ×Bool)) (c:Bool) (a b:ByteArray):∃v,DV N m c a b=some v:=by
 unfold DV
 exact Df.bind (Yw d m a b) λ_ _=>Df.mk _
def Yc {N:Nat}(c:1000<N) {b:AU}(o:IB b):Df (Iy N b):=by
 obtain⟨w,x,y,z,B,C,D,F⟩:=o
 have d:∀{σ} (L:Nat) (f:Nat→Int→σ→Option Bool) (g:σ→Option Bool),L≤128→(∀n (k:Nat) s,L≤k→f (n+1) (k:Int) s=g s)→(∀n (k:Nat) s,k<L→∃s',f (n+1) (k:Int) s=f n ((k+1:Nat):Int) s')→(∀s,Df (g s))→∀s,Df (f N 0 s):=λL f g G i p j s=>by
  obtain⟨s',_,e⟩:=WH L f g (λ_=>True) i (λn k s _ I=>by obtain⟨s',h'⟩:=p n k s I;exact⟨s',trivial,h'⟩) N 0 s trivial (by omega) (qW _)
  obtain⟨v,a⟩:=j s'
  exact⟨v,e.trans a⟩
 have l:∀s:Bool×List (AQ×Bool),Df (Dd N b (Eh N) N 0 s.1 s.2):=d (σ:=Bool×List (AQ×Bool)) b.Av.length (λn k s=>Dd N b (Eh N) n k s.1 s.2) (λs=>Eh N s.1) (by omega) (λn k s I=>by simp only[Dd];rw[E4 I];rfl)
  (λn k s I=>by
   simp only[Dd]
   rw[En I,qO,BR I]
   simp only[qN]
   obtain⟨v,a⟩:=Lg c s.2 s.1 (ByteArray.mk #[114,111,97,100]) (b.Av[k]).H
   rw[a]
   simp only[qN,BT (show k<4611686018427387904 by omega)]
   exact⟨(v.2,v.1),rfl⟩) (λs=>Df.mk _)
 have m:∀s:Bool×List (AQ×Bool),Df (De N b (Ei N b) N 0 s.1 s.2):=d (σ:=Bool×List (AQ×Bool)) b.Au.length (λn k s=>De N b (Ei N b) n k s.1 s.2) (λs=>Ei N b s.1 s.2) (by omega) (λn k s I=>by simp only[De];rw[E4 I];rfl)
  (λn k s I=>by
   simp only[De]
   rw[En I,qO,BR I]
   simp only[qN]
   obtain⟨v,a⟩:=Lg c s.2 s.1 (ByteArray.mk #[103,97,117,103,101]) (b.Au[k]).H
   rw[a]
   simp only[qN,BT (show k<4611686018427387904 by omega)]
   exact⟨(v.2,v.1),rfl⟩) (λs=>l s)
 have q:∀s:Bool×List (AQ×Bool),Df (Dn N b (Ex N b) N 0 s.1 s.2):=d (σ:=Bool×List (AQ×Bool)) b.Ay.length (λn k s=>Dn N b (Ex N b) n k s.1 s.2) (λs=>Ex N b s.1 s.2) (by omega) (λn k s I=>by simp only[Dn];rw[E4 I];rfl)
  (λn k s I=>by
   simp only[Dn]
   rw[En I,qO,BR I]
   simp only[qN]
   obtain⟨v,a⟩:=Lg c s.2 s.1 (ByteArray.mk #[115,104,101,108,116,101,114]) (b.Ay[k]).H
   rw[a]
   simp only[qN,BT (show k<4611686018427387904 by omega)]
   exact⟨(v.2,v.1),rfl⟩) (λs=>m s)
 have t:∀s:Bool×List (AQ×Bool),Df (Do N b (Ey N b) N 0 s.1 s.2):=d (σ:=Bool×List (AQ×Bool)) b.Am.length (λn k s=>Do N b (Ey N b) n k s.1 s.2) (λs=>Ey N b s.1 s.2) (by omega) (λn k s I=>by simp only[Do];rw[E4 I];rfl)
  (λn k s I=>by
   simp only[Do]
   rw[En I,qO,BR I]
   simp only[qN]
   obtain⟨v,a⟩:=Lg c s.2 s.1 (ByteArray.mk #[116,111,119,110]) (b.Am[k]).H
   rw[a]
   simp only[qN,BT (show k<4611686018427387904 by omega)]
   exact⟨(v.2,v.1),rfl⟩) (λs=>q s)
 have u:∀s:Bool×List (AQ×Bool),Df (Dp N b (Ez N b) N 0 s.1 s.2):=d (σ:=Bool×List (AQ×Bool)) b.E.length (λn k s=>Dp N b (Ez N b) n k s.1 s.2) (λs=>Ez N b s.1 s.2) (by omega) (λn k s I=>by simp only[Dp];rw[E4 I];rfl)
  (λn k s I=>by
   simp only[Dp]
   rw[En I,qO,BR I]
   simp only[qN]
   obtain⟨v,a⟩:=Lg c s.2 s.1 (ByteArray.mk #[108,105,110,107]) (b.E[k]).H
   rw[a]
   simp only[qN,BT (show k<4611686018427387904 by omega)]
   exact⟨(v.2,v.1),rfl⟩) (λs=>t s)
 have j:∀s:Bool×List (AQ×Bool),Df (Dq N b (E0 N b) N 0 s.1 s.2):=d (σ:=Bool×List (AQ×Bool)) b.A.length (λn k s=>Dq N b (E0 N b) n k s.1 s.2) (λs=>E0 N b s.1 s.2) (by omega) (λn k s I=>by simp only[Dq];rw[E4 I];rfl)
  (λn k s I=>by
   simp only[Dq]
   rw[En I,qO,BR I]
   simp only[qN]
   obtain⟨v,a⟩:=Lg c s.2 s.1 (ByteArray.mk #[112,108,97,99,101]) (b.A[k]).H
   rw[a]
   simp only[qN,BT (show k<4611686018427387904 by omega)]
   exact⟨(v.2,v.1),rfl⟩) (λs=>u s)
 have i:∀s:Bool×List (AQ×Bool),Df (Dr N b (E2 N b) N 0 s.1 s.2):=d (σ:=Bool×List (AQ×Bool)) b.J.length (λn k s=>Dr N b (E2 N b) n k s.1 s.2) (λs=>E2 N b s.1 s.2) (by omega) (λn k s I=>by simp only[Dr];rw[E4 I];rfl)
  (λn k s I=>by
   simp only[Dr]
   rw[En I,qO,BR I]
   simp only[qN]
   obtain⟨v,a⟩:=Lg c s.2 s.1 (ByteArray.mk #[111,119,110,101,114]) (b.J[k])
   rw[a]
   simp only[qN,BT (show k<4611686018427387904 by omega)]
   exact⟨(v.2,v.1),rfl⟩) (λs=>j s)
 exact i (true,[])
end Go.Proofs.YtblcgjadhemlbaaGreat
