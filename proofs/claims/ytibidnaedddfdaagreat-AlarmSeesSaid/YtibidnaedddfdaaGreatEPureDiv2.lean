import Derived.Test.YtibidnaedddfdaaGreatEPureRight2
import Derived.Test.YtibidnaedddfdaaGreatEPureDiv
namespace Go.Proofs.YtibidnaedddfdaaGreat
set_option linter.all false
open Go.RowKit
def Zs (N:Nat) (n z:Int):Gd N n z=some (Zr n 0 (BR (z-1))):=rfl
structure TY (b:AF) (t:Dr):Prop where
 place:0≤t.Ah∧t.Ah<b.E.length
 flood:JK t.Bd
 lead:0≤t.Bf∧t.Bf≤24
 watch:JK t.Be
 quorum:0≤t.Ay∧t.Ay≤128
def ZK {N:Nat}(w:1000<N) (b:AF) (a:KE b):∃v,JX N b=some v∧(v=true→∀t∈b.Ad,TY b t):=by
 have x:=a.pl;have y:=a.to;have z:=a.sh;have j:Df (Ex N b):=by
  unfold Ex;rcases Hg b.At.length (Ev N b (G6 N)) (G6 N) (λ_=>True) (λn k h=>by
   simp only[Ev];rw[ES h];rfl) (λn k h=>by
   simp only[Ev];rw[Ei h,uG,A9 h];simp only[uF,Ns,BE (show k<4611686018427387904 by omega)];cases Zr (b.At[k]).As 0 1073741824
   ·exact .inl rfl
   ·exact .inr ⟨trivial,rfl⟩) N 0 (by omega) (uO _) with h|⟨_,h⟩
  ·exact⟨_,h⟩
  ·exact⟨true,h⟩
 unfold JX;rcases Hg b.Ad.length (Ew N b (Ex N b)) (Ex N b) (λi=>∀t,b.Ad[i]? =some t→TY b t) (λn k h=>by
  simp only[Ew];rw[ES h];rfl) (λn k h=>by
  simp only[Ew];rw[Ei h,uG,A9 h];simp only[uF,Ns,Mw,Qy N _ (show b.E.length<4611686018427387904 by omega),Fb,Lk,BE (show k<4611686018427387904 by omega)];generalize d:(_|| !Zr (b.Ad[k]).Ay 0 128)=B
  cases B
  ·simp only[vH,xD] at d;obtain⟨⟨⟨⟨⟨l,m⟩,o⟩,A⟩,p⟩,q⟩:=d;refine .inr ⟨λt c=>?_,rfl⟩;have:t=b.Ad[k]:=by simpa [h] using c.symm
   rw[this];have s:=LW l;exact⟨⟨s.1,by omega⟩,L5 m,LW o,L5 p,LW q⟩
  ·exact .inl rfl) N 0 (by omega) (uO _) with h|⟨hp,h⟩
 ·exact⟨false,h,λh=>by cases h⟩
 ·obtain⟨v,u⟩:=j;refine⟨v,h.trans u,λ_ t c=>?_⟩;obtain⟨i,g,rfl⟩:=xF.1 c;exact hp i (uO _) g _ (by simp [g])
def Ys {N:Nat}(j:1000<N) (b:AF) (c:KE b):Df (Iw N b):=by
 have m:=c.ga;unfold Iw;rcases Hg b.Ab.length (Eg N b (Gq N)) (Gq N) (λ_=>True) (λn k h=>by
  simp only[Eg];rw[ES h];rfl) (λn k h=>by
  simp only[Eg];rw[Ei h,uG,A9 h];simp only[uF,Ns,Zs,Fb,Lk,BE (show k<4611686018427387904 by omega)];generalize a:(_|| !Zr (b.Ab[k]).Bt 0 1440)=B
  cases B
  ·simp only[vH,xD] at a;have d:=LW a.1.1;obtain⟨z,g⟩:=Df.ix (l:=[(b.E.length:Int),b.S,(b.D.length:Int)]) (i:=(b.Ab[k]).F) d.1 (by simp;omega);rw[g];simp only[uH,uF];cases Zr (b.Ab[k]).W 0 (BR (z-1))
   ·exact .inl rfl
   ·exact .inr ⟨trivial,rfl⟩
  ·exact .inl rfl) N 0 (by omega) (uO _) with h|⟨_,h⟩
 ·exact⟨_,h⟩
 ·exact⟨true,h⟩
def ZV {N:Nat}(d:1000<N) (b:AF) (a:KE b):Df (JY N b):=by
 have g:=a.ro;unfold JY;rcases Hg b.Ar.length (Ey N b (G7 N)) (G7 N) (λ_=>True) (λn k h=>by
  simp only[Ey];rw[ES h];rfl) (λn k h=>by
  simp only[Ey];rw[Ei h,uG,A9 h];simp only[uF,Ns,Mw,Zs,Fb,Lk,Ri,BE (show k<4611686018427387904 by omega)];generalize (_|| !US (b.Ar[k]).Bs)=B
  cases B
  ·simp only[uH];generalize ((decide ((b.Ar[k]).Br= -1)&&decide ((b.Ar[k]).Bs≠0))||_)=c
   cases c
   ·exact .inr ⟨trivial,rfl⟩
   ·exact .inl rfl
  ·exact .inl rfl) N 0 (by omega) (uO _) with h|⟨_,h⟩
 ·exact⟨_,h⟩
 ·exact⟨true,h⟩
structure MC (b:AF):Prop where
 head:KE b
 places:∀p∈b.E,Lq b p
 links:∀l∈b.D,K7 b l
 towns:∀t∈b.Ad,TY b t
def chainB {b:Bool}{x:Option Bool}{f:Bool→Option Bool}(Q:Prop) {G:Option Bool→Prop}(h:b=true→∃v,x=some v∧(v=true→Q)) (k:∀c,(c=true→b=true∧Q)→G (f c)):G ((cond b (x.bind λy=>some y) (some false)).bind f):=by
 cases b
 ·exact k false λh=>by cases h
 ·obtain⟨v,a,d⟩:=h rfl;rw[a];exact k v λg=>⟨rfl,d g⟩
def Df.q {x:Option Bool}(h:Df x):∃v,x=some v∧(v=true→True):=by obtain⟨v,a⟩:=h;exact⟨v,a,λ_=>trivial⟩
def Vc {N:Nat}(s:18446744073709551616<N) (b:AF):∃v,Jy N b=some v∧(v=true→MC b):=by
 have a:1000<N:=by omega
 unfold Jy;obtain⟨F,z,k⟩:=dZ a b;rw[z];simp only[uF];refine chainB True (G:=λx=>∃v,x=some v∧(v=true→MC b)) (λh=>(Zf a (k h)).q) λH u=>?_;refine chainB (∀p∈b.E,Lq b p) (G:=λx=>∃v,x=some v∧(v=true→MC b)) (λh=>Ya a b (k (u h).1)) λA w=>?_;have m:A=true→KE b∧∀p∈b.E,Lq b p:=λh=>⟨k (u (w h).1).1,(w h).2⟩
 refine chainB (∀l∈b.D,K7 b l) (G:=λx=>∃v,x=some v∧(v=true→MC b)) (λh=>Zl s b (m h).1) λB n=>?_;have c:B=true→KE b∧(∀p∈b.E,Lq b p)∧∀l∈b.D,K7 b l:=λh=>⟨(m (n h).1).1,(m (n h).1).2,(n h).2⟩
 refine chainB True (G:=λx=>∃v,x=some v∧(v=true→MC b)) (λh=>(Wc a b (c h).1 (c h).2.1 (c h).2.2).q) λI g=>?_;refine chainB True (G:=λx=>∃v,x=some v∧(v=true→MC b)) (λh=>(YU s b (c (g h).1).1 (c (g h).1).2.1 (c (g h).1).2.2).q) λJ i=>?_;refine chainB (∀t∈b.Ad,TY b t) (G:=λx=>∃v,x=some v∧(v=true→MC b)) (λh=>ZK a b (c (g (i h).1).1).1) λK j=>?_;refine chainB True (G:=λx=>∃v,x=some v∧(v=true→MC b)) (λh=>(Ys a b (c (g (i (j h).1).1).1).1).q) λM o=>?_;refine chainB True (G:=λx=>∃v,x=some v∧(v=true→MC b)) (λh=>(ZV a b (c (g (i (j (o h).1).1).1).1).1).q) λC y=>?_;refine⟨C,rfl,λh=>?_⟩;have d:=c (g (i (j (o (y h).1).1).1).1).1;exact⟨d.1,d.2.1,d.2.2,(j (o (y h).1).1).2⟩
def TA {Y b d q r:Nat}(g:q*(Y/4294967296)+r=b):q*(Y%4294967296)≤4294967296*r+d↔q*Y≤b*4294967296+d:=by
 have e:q*Y=4294967296*(q*(Y/4294967296))+q*(Y%4294967296):=by
  conv=>lhs;rw[←yX Y 4294967296,Nat.mul_add,Nat.mul_left_comm]
 rw[e,←g];generalize q*(Y/4294967296)=a
 generalize q*(Y%4294967296)=c
 omega
def Zp {Y a b q:Nat}(d:a<Y) (g:b<4294967296) (c:4294967296≤q):a*4294967296+b<q*Y:=by
 have i:4294967296*Y≤q*Y:=wM _ c;omega
def Zq {Y a b q r:Nat}(c:q*(Y/4294967296)+r=a) (d:1≤q) (g:q≤4294967297) (i:4294967296≤r+Y/4294967296):(q-1)*Y≤a*4294967296+b:=by
 have e:(q-1)*(Y/4294967296)+(r+Y/4294967296)=a:=by
  obtain⟨p,rfl⟩:∃p,q=p+1:=⟨q-1,by omega⟩
  rw[wJ] at c;simp only[yW];omega
 refine(TA e).1 ?_;have j:(q-1)*(Y%4294967296)≤4294967296*(Y%4294967296):=wM _ (by omega);have k:Y%4294967296<4294967296:=wR _ (by omega);omega
def dX {Y U q:Nat}(c:0<Y) (a:q*Y≤U) (b:U<(q+1)*Y):U/Y=q:=Nat.div_eq_of_lt_le a b
def Vs {Y a:Nat}(g:9223372036854775808≤Y) (l:Y<18446744073709551616) (m:a<Y) (d:Nat) (n:d<4294967296):a/(Y/4294967296)≤4294967297∧a/(Y/4294967296)*(Y/4294967296)+a%(Y/4294967296)=a∧a*4294967296+d<(a/(Y/4294967296)+1)*Y∧a%(Y/4294967296)<4294967296:=by
 have i:2147483648≤Y/4294967296:=by omega
 have j:Y/4294967296<4294967296:=by omega
 have b:0<Y/4294967296:=by omega
 have o:a%(Y/4294967296)<Y/4294967296:=wR _ b;have c:a/(Y/4294967296)*(Y/4294967296)+a%(Y/4294967296)=a:=by rw[yH];exact yX _ _
 refine⟨?_,c,?_,by omega⟩
 ·refine yB ((zU b).2 ?_);omega
 ·have k:(a/(Y/4294967296)+1)*(4294967296*(Y/4294967296))≤(a/(Y/4294967296)+1)*Y:=Nat.mul_le_mul_left _ (by omega);rw[Nat.mul_left_comm,wJ,Nat.one_mul] at k;omega
def UH (N:Nat) (p y:Int) (g i:Nat) (Y a b:Nat) (C:En .u64 y g=(Y:Int)) (D:En .u64 p i=(a:Int)) (s:9223372036854775808≤Y) (d:Y<18446744073709551616) (k:a<18446744073709551616) (F:b<Y) (t:Int→Option (Int×Int)):
  ∀(n q r:Nat),q<n→q≤4294967297→r<4294967296→q*(Y/4294967296)+r=b→b*4294967296+a/4294967296<(q+1)*Y→
  D4 N p y g i t n (q:Int) (r:Int)=t (((b*4294967296+a/4294967296)/Y:Nat):Int)
 |0,q,r,h,_,_,_,_=>by omega
 |n+1,q,r,M,G,Q,u,H=>by
  have I:Y/4294967296<4294967296:=by omega
  have l:Y%4294967296<4294967296:=wR _ (by omega);have v:a/4294967296<4294967296:=by omega
  simp only[D4];rw[C,D,O6,O6,S3 Y d,PE,show(4294967296:Int)=((4294967296:Nat):Int) from rfl,PE,FH _ (show 4294967296*r<18446744073709551616 by omega),RB,FH _ (show 4294967296*r+a/4294967296<18446744073709551616 by omega),RB,FH (r+Y/4294967296) (by omega)];cases o:(decide (((4294967296:Nat):Int)≤(q:Int))||decide (((4294967296*r+a/4294967296:Nat):Int)<IntKind.u64.wrap ((q*(Y%4294967296):Nat):Int)))
  ·simp only[vH,vC] at o;obtain⟨U,J⟩:=o;have c:q<4294967296:=by omega
   have w:q*(Y%4294967296)<18446744073709551616:=zK (yY (yB c) (yB l)) (by decide);rw[FH _ w] at J;rw[uH,dX (by omega) ((TA u).1 (by omega)) H]
  ·rw[uG];have j:b*4294967296+a/4294967296<q*Y:=by
    rcases vG q 4294967296 with c|c
    ·have w:q*(Y%4294967296)<18446744073709551616:=zK (yY (yB c) (yB l)) (by decide);rw[FH _ w] at o;simp only[uZ,uY] at o;refine Nat.lt_of_not_le λx=>?_;have:=(TA u).2 x;omega
    ·exact Zp F v c
   have z:1≤q:=by
    rcases zL q with e|e
    ·rw[e,Nat.zero_mul] at j;omega
    ·exact e
   have A:IntKind.u64.wrap ((q:Int)-1)=((q-1:Nat):Int):=by rw[show (q:Int)-1=((q-1:Nat):Int) by omega];exact FH _ (by omega)
   rw[A];have B:q-1+1=q:=by omega
   cases m:decide (((4294967296:Nat):Int)≤((r+Y/4294967296:Nat):Int))
   ·rw[uH];have K:(q-1)*(Y/4294967296)+(r+Y/4294967296)=b:=by
     have:q*(Y/4294967296)=(q-1)*(Y/4294967296)+Y/4294967296:=by
      conv=>lhs;rw[←B,wJ,Nat.one_mul]
     omega
    simp only[vC] at m;exact UH N p y g i Y a b C D s d k F t n (q-1) (r+Y/4294967296) (by omega) (by omega) (by omega) K (by rw[B];exact j)
   ·rw[uG];simp only[uY] at m;rw[dX (by omega) (Zq u z G (by omega)) (by rw[B];exact j)]
def UG (N:Nat) (p y:Int) (i j:Nat) (Y a b:Nat) (C:En .u64 y i=(Y:Int)) (D:En .u64 p j=(a:Int)) (s:9223372036854775808≤Y) (d:Y<18446744073709551616) (g:a<18446744073709551616) (F:b<Y) (t:Int→Option (Int×Int)):
  ∀(n q r:Nat),q<n→q≤4294967297→r<4294967296→q*(Y/4294967296)+r=b→b*4294967296+a%4294967296<(q+1)*Y→
  EZ N p y i j t n (r:Int) (q:Int)=t (((b*4294967296+a%4294967296)/Y:Nat):Int)
 |0,q,r,h,_,_,_,_=>by omega
 |n+1,q,r,M,G,Q,u,H=>by
  have I:Y/4294967296<4294967296:=by omega
  have l:Y%4294967296<4294967296:=wR _ (by omega);have v:a%4294967296<4294967296:=wR _ (by omega);simp only[EZ];rw[C,D,O6,S3 a g,S3 Y d,PE,show(4294967296:Int)=((4294967296:Nat):Int) from rfl,PE,FH _ (show 4294967296*r<18446744073709551616 by omega),RB,FH _ (show 4294967296*r+a%4294967296<18446744073709551616 by omega),RB,FH (r+Y/4294967296) (by omega)];cases o:(decide (((4294967296:Nat):Int)≤(q:Int))||decide (((4294967296*r+a%4294967296:Nat):Int)<IntKind.u64.wrap ((q*(Y%4294967296):Nat):Int)))
  ·simp only[vH,vC] at o;obtain⟨U,J⟩:=o;have c:q<4294967296:=by omega
   have w:q*(Y%4294967296)<18446744073709551616:=zK (yY (yB c) (yB l)) (by decide);rw[FH _ w] at J;rw[uH,dX (by omega) ((TA u).1 (by omega)) H]
  ·rw[uG];have k:b*4294967296+a%4294967296<q*Y:=by
    rcases vG q 4294967296 with c|c
    ·have w:q*(Y%4294967296)<18446744073709551616:=zK (yY (yB c) (yB l)) (by decide);rw[FH _ w] at o;simp only[uZ,uY] at o;refine Nat.lt_of_not_le λx=>?_;have:=(TA u).2 x;omega
    ·exact Zp F v c
   have z:1≤q:=by
    rcases zL q with e|e
    ·rw[e,Nat.zero_mul] at k;omega
    ·exact e
   have A:IntKind.u64.wrap ((q:Int)-1)=((q-1:Nat):Int):=by rw[show (q:Int)-1=((q-1:Nat):Int) by omega];exact FH _ (by omega)
   rw[A];have B:q-1+1=q:=by omega
   cases m:decide (((4294967296:Nat):Int)≤((r+Y/4294967296:Nat):Int))
   ·rw[uH];have K:(q-1)*(Y/4294967296)+(r+Y/4294967296)=b:=by
     have:q*(Y/4294967296)=(q-1)*(Y/4294967296)+Y/4294967296:=by
      conv=>lhs;rw[←B,wJ,Nat.one_mul]
     omega
    simp only[vC] at m;exact UG N p y i j Y a b C D s d g F t n (q-1) (r+Y/4294967296) (by omega) (by omega) (by omega) K (by rw[B];exact k)
   ·rw[uG];simp only[uY] at m;rw[dX (by omega) (Zq u z G (by omega)) (by rw[B];exact k)]
def jG (a b:Nat) (h:b≠0) (c:a<18446744073709551616):PC .u64 (a:Int) (b:Int)=some ((a/b:Nat):Int):=by
 unfold PC;rw[uI (by omega)];have e:(a:Int).tdiv (b:Int)=((a/b:Nat):Int):=rfl;have:a/b≤a:=Nat.div_le_self _ _;rw[e,FH _ (by omega)]
def oE (a b:Nat) (h:b≠0):Tm (a:Int) (b:Int)=some ((a%b:Nat):Int):=by
 unfold Tm;rw[uI (by omega)];rfl
def iR (a s:Nat) (d:s≤64):En .u64 (a:Int) s=((a*2^s%18446744073709551616:Nat):Int):=by
 unfold En;have b:min s IntKind.u64.bits=s:=by simp [IntKind.bits];omega
 have c:((a:Int)*2^s)=((a*2^s:Nat):Int):=by simp
 rw[b,c];exact fS _
def orN (a b:Nat) (g:a<18446744073709551616) (i:b<18446744073709551616):Ja .or .u64 (a:Int) (b:Int)=((a|||b:Nat):Int):=by
 have c:(BitVec.ofInt 64 (a:Int)).toNat=a:=by rw[zI,zJ];exact xS (by omega)
 have d:(BitVec.ofInt 64 (b:Int)).toNat=b:=by rw[zI,zJ];exact xS (by omega)
 have j:a|||b<2^64:=Nat.or_lt_two_pow (by omega) (by omega)
 show IntKind.u64.wrap (((BitVec.ofInt 64 (a:Int))|||(BitVec.ofInt 64 (b:Int))).toNat:Int)=_
 rw[BitVec.toNat_or,c,d,FH _ (by omega)]
def V1 (a b:Nat):a=a/b*b+a%b:=by rw[yH];exact(yX a b).symm
def ZJ {Y A B u:Nat}(a:0<Y):(A*B+u)/Y=A/Y*B+(A%Y*B+u)/Y∧(A*B+u)%Y=(A%Y*B+u)%Y:=by
 have b:=yX A Y;have e:A*B+u=Y*(A/Y*B)+(A%Y*B+u):=by
  conv=>lhs;rw[←b,wJ,Nat.mul_assoc,Nat.add_assoc]
 rw[e];exact⟨by rw[Nat.mul_add_div a],by rw[Nat.mul_add_mod]⟩
def N2 {a b q Y R:Nat}(h:a=q*Y+R) (c:R<18446744073709551616) (d:b=a%18446744073709551616):IntKind.u64.wrap ((b:Int)-IntKind.u64.wrap ((q*Y:Nat):Int))=(R:Int):=by
 rw[Nm,Nm];generalize q*Y=t at h
 omega
def Yv {N:Nat}(X:18446744073709551616<N) (w l y:Int) (s:Nat) (Z:s≤63) (m n:Nat) (Y c g k d:Nat) (p:En .u64 y s=(Y:Int)) (q:En .u64 l s=(c:Int)) (x:Ja .or .u64 (En .u64 w m) (FI .u64 l n)=(g:Int))
  (o:9223372036854775808≤Y) (i:Y<18446744073709551616) (j:c<18446744073709551616) (hu:g<Y) (D:(g*4294967296+c/4294967296)=k*Y+d) (A:d<Y) (F:k<4294967296):
  Ea N w l y (s:Int) s m n s (k:Int)=some (((k*4294967296+(d*4294967296+c%4294967296)/Y:Nat):Int),(((d*4294967296+c%4294967296)%Y/2^s:Nat):Int)):=by
 have G:0<Y/4294967296:=by omega
 have H:Y/4294967296<4294967296:=by omega
 have u:c%4294967296<4294967296:=wR _ (by omega);have B:IntKind.u64.wrap (IntKind.u64.wrap (IntKind.u64.wrap ((g:Int)*4294967296)+FI .u64 (En .u64 l s) 32)-IntKind.u64.wrap ((k:Int)*(Y:Int)))=(d:Int):=by
  rw[q,O6,PE];refine(uP (λz=>IntKind.u64.wrap (z-_)) ?_).trans (N2 (b:=(g*4294967296+c/4294967296)%18446744073709551616) D (by omega) rfl);rw[Nm,Nm];omega
 obtain⟨I,C,J,K⟩:=Vs o i A (c%4294967296) u;unfold Ea;rw[x,p,B,O6,jG _ _ (by omega) (by omega)];simp only[uF];have M:IntKind.u64.wrap ((d:Int)-IntKind.u64.wrap (((d/(Y/4294967296):Nat):Int)*((Y/4294967296:Nat):Int)))=((d%(Y/4294967296):Nat):Int):=by
  rw[PE];exact N2 (a:=d) C.symm (by omega) (by omega)
 rw[M,UG N l y s s Y c d p q o i j A _ N _ _ (by omega) I K C J];unfold GJ;have Q:QZ (IntKind.u64.wrap (s:Int))=some s:=by
  rw[FH s (by omega)];unfold QZ;rw[uI (by omega)];simp
 rw[x,p,Q,B,q,S3 c j];simp only[uF];have hd:=yX (d*4294967296+c%4294967296) Y;have v:(d*4294967296+c%4294967296)/Y<4294967296:=(zU (by omega)).2 (by omega);have U:(d*4294967296+c%4294967296)%Y<Y:=wR _ (by omega);have V:IntKind.u64.wrap (IntKind.u64.wrap (IntKind.u64.wrap ((d:Int)*4294967296)+((c%4294967296:Nat):Int))-IntKind.u64.wrap (((((d*4294967296+c%4294967296)/Y:Nat)):Int)*(Y:Int)))=(((d*4294967296+c%4294967296)%Y:Nat):Int):=by
  rw[PE];refine(uP (λz=>IntKind.u64.wrap (z-_)) ?_).trans (N2 (a:=d*4294967296+c%4294967296) (b:=(d*4294967296+c%4294967296)%18446744073709551616) (V1 _ _) (by omega) rfl);rw[Nm,Nm];omega
 have W:IntKind.u64.wrap (IntKind.u64.wrap ((k:Int)*4294967296)+((((d*4294967296+c%4294967296)/Y:Nat)):Int))=((k*4294967296+(d*4294967296+c%4294967296)/Y:Nat):Int):=by
  rw[Nm,Nm];generalize (d*4294967296+c%4294967296)/Y=t at v
  omega
 rw[V,W,WU _ s (by omega)]
def eB (a u:Nat):(a*4294967296+u/4294967296)*4294967296+u%4294967296=a*18446744073709551616+u:=by omega
def Z6 {N:Nat}(D:18446744073709551616<N) (o m y:Int) (s:Nat) (F:s≤63) (g i:Nat) (Y c b:Nat) (p:En .u64 y s=(Y:Int)) (w:En .u64 m s=(c:Int)) (x:Ja .or .u64 (En .u64 o g) (FI .u64 m i)=(b:Int))
  (l:9223372036854775808≤Y) (j:Y<18446744073709551616) (k:c<18446744073709551616) (q:b<Y):
  ((PC .u64 (Ja .or .u64 (En .u64 o g) (FI .u64 m i)) (FI .u64 (En .u64 y s) 32)).bind λn=>
   D4 N m y s s (Ea N o m y (s:Int) s g i s) N n (IntKind.wrap .u64 ((Ja .or .u64 (En .u64 o g) (FI .u64 m i))-(IntKind.wrap .u64 (n*(FI .u64 (En .u64 y s) 32))))))=
  some ((((b*18446744073709551616+c)/Y:Nat):Int),(((b*18446744073709551616+c)%Y/2^s:Nat):Int)):=by
 have d:0<Y:=by omega
 have t:c/4294967296<4294967296:=by omega
 obtain⟨G,z,H,I⟩:=Vs l j q (c/4294967296) t;obtain⟨C,t2⟩:=ZJ (Y:=Y) (A:=b*4294967296+c/4294967296) (B:=4294967296) (u:=c%4294967296) d;rw[eB] at C t2;rw[C,t2,x,p,O6,jG _ _ (by omega) (by omega)];simp only[uF];have J:IntKind.u64.wrap ((b:Int)-IntKind.u64.wrap (((b/(Y/4294967296):Nat):Int)*((Y/4294967296:Nat):Int)))=((b%(Y/4294967296):Nat):Int):=by
  rw[PE];exact N2 (a:=b) z.symm (by omega) (by omega)
 have v:(b*4294967296+c/4294967296)/Y<4294967296:=(zU d).2 (by omega);rw[J,UH N _ _ s s Y c b p w l j k q _ N _ _ (by omega) G I z H];exact Yv D _ _ _ s F g i Y c b _ _ p w x l j k q (V1 _ _) (wR _ d) v
def ZQ {h l s M:Nat}(b:M=2^64) (d:s≤63):(h*2^s+l/2^(64-s))*M+l*2^s%M=(h*M+l)*2^s:=by
 have e:(2:Nat)^64=2^(64-s)*2^s:=by rw[←Nat.pow_add];congr 1;omega
 have c:l*2^s/M=l/2^(64-s):=by
  rw[b,e,Nat.mul_div_mul_right _ _ (yV s)]
 have a:=yX (l*2^s) M;rw[c] at a;rw[wJ,wJ,Nat.mul_right_comm h,Nat.add_assoc,yH (l/2^(64-s)) M];exact uP _ a
def V2 {N:Nat}(o:18446744073709551616<N) (h l y:Nat) (c:l<18446744073709551616) (p:y<18446744073709551616) (k:h<y):
  Gz N (h:Int) (l:Int) (y:Int)=some ((((h*18446744073709551616+l)/y:Nat):Int),(((h*18446744073709551616+l)%y:Nat):Int)):=by
 unfold Gz;rw[show decide ((y:Int)=0)=false by simp;omega,show decide ((y:Int)≤(h:Int))=false by simp;omega,uH,uH];rcases zL h with e|hp
 ·subst e;rw[show decide (((0:Nat):Int)=0)=true by simp,uG,jG _ _ (by omega) c,oE _ _ (by omega),Nat.zero_mul,vO];rfl
 ·rw[show decide ((h:Int)=0)=false by simp;omega,uH];obtain⟨s,q,m,u,d⟩:=gC N (show 0<y by omega) p;have n:∀t:Nat,t≤64→QZ (IntKind.u64.wrap (t:Int))=some t:=λt A=>by
   rw[FH t (by omega)];unfold QZ;rw[uI (by omega)];simp
  have g:(64:Int)-IntKind.u64.wrap (s:Int)=((64-s:Nat):Int):=by rw[FH s (by omega)];omega
  rw[q,uF,g,n s (by omega),n (64-s) (by omega),uF,uF,uF,uF];have a:h*2^s<18446744073709551616:=zK (wM _ (Nat.le_of_lt k)) d;have b:l/2^(64-s)<2^s:=by
   refine(zU (yV _)).2 ?_;rw[←Nat.pow_add,show s+(64-s)=64 by omega];exact c
  have i:l/2^(64-s)<18446744073709551616:=zK (Nat.div_le_self _ _) c;have j:h*2^s|||l/2^(64-s)=h*2^s+l/2^(64-s):=by
   rw[yH h];exact(Nat.two_pow_add_eq_or_of_lt b h).symm
  have v:En .u64 (y:Int) s=((y*2^s:Nat):Int):=by rw[iR _ _ (by omega),xS d]
  have w:En .u64 (l:Int) s=((l*2^s%18446744073709551616:Nat):Int):=iR _ _ (by omega);have x:Ja .or .u64 (En .u64 (h:Int) s) (FI .u64 (l:Int) (64-s))=((h*2^s+l/2^(64-s):Nat):Int):=by
   rw[iR _ _ (by omega),WU _ _ (by omega),xS a,orN _ _ a i,j]
  have z:h*2^s+l/2^(64-s)<y*2^s:=by
   have:(h+1)*2^s≤y*2^s:=wM _ k;rw[wJ,Nat.one_mul] at this;exact vB (Nat.add_lt_add_left b _) this
  have hd:=Z6 o (h:Int) (l:Int) (y:Int) s m s (64-s) _ _ _ v w x u d (wR _ (by omega)) z;rw[ZQ (M:=18446744073709551616) rfl m,Nat.mul_div_mul_right _ _ (yV s),Nat.mul_mod_mul_right,Nat.mul_div_cancel _ (yV s)] at hd;exact hd
def cR (a n d:Int):Int×Int×Bool:=if (0≤a∧a≤1125899906842624)∧(0≤n∧n≤1125899906842624)∧(1≤d∧d≤1125899906842624)∧a*n/d≤1125899906842624 then (a*n/d,a*n%d,true) else (0,0,false)
def iS {t d:Nat}(hd:0<d) (h:d≤t/18446744073709551616):18446744073709551616≤t/d:=by
 refine(Nat.le_div_iff_mul_le hd).2 ?_;omega
def K8 {N:Nat}(t:18446744073709551616<N) (a n d:Int):Ga N a n d=some (cR a n d):=by
 unfold Ga cR;cases m:(((((decide (a<0)||decide (1125899906842624<a))||decide (n<0))||decide (1125899906842624<n))||decide (d<1))||decide (1125899906842624<d))
 ·simp only[vH,vC] at m;obtain⟨⟨⟨⟨⟨y,z⟩,A⟩,B⟩,C⟩,D⟩:=m;obtain⟨b,rfl⟩:∃k:Nat,a=k:=⟨a.toNat,by omega⟩
  obtain⟨c,rfl⟩:∃k:Nat,n=k:=⟨n.toNat,by omega⟩
  obtain⟨g,rfl⟩:∃k:Nat,d=k:=⟨d.toNat,by omega⟩
  rw[uH,FH b (by omega),FH c (by omega),FH g (by omega),Qv N b c (by omega) (by omega)];simp only[uF];have u:(b:Int)*(c:Int)/(g:Int)=((b*c/g:Nat):Int):=by rw[Int.natCast_ediv,xV]
  have v:(b:Int)*(c:Int)%(g:Int)=((b*c%g:Nat):Int):=by rw[Int.natCast_emod,xV]
  rw[u,v];have o:b*c/18446744073709551616*18446744073709551616+b*c%18446744073709551616=b*c:=(V1 _ _).symm;have j:0<g:=by omega
  by_cases l:g≤b*c/18446744073709551616
  ·rw[show decide ((g:Int)≤((b*c/18446744073709551616:Nat):Int))=true from uK (Int.ofNat_le.2 l),uG,uI];intro h;have p:=h.2.2.2;have w:=iS j l;generalize b*c/g=q at p w
   omega
  ·have s:¬(g:Int)≤((b*c/18446744073709551616:Nat):Int):=λh=>l (Int.ofNat_le.1 h);rw[uM s,uH,V2 t _ _ _ (wR _ (by omega)) (by omega) (Nat.lt_of_not_le l),o];simp only[uF];have x:b*c%g<g:=wR _ j;generalize b*c/g=q
   generalize b*c%g=r at x
   by_cases p:q≤1125899906842624
   ·have i:¬(1125899906842624:Int)<(q:Int):=by omega
    rw[uM i,uH,uJ ⟨by omega,by omega,by omega,by omega⟩,CT (by omega) (by omega),CT (by omega) (by omega)]
   ·have i:(1125899906842624:Int)<(q:Int):=by omega
    rw[uK i,uG,uI (λh=>p (by have:=h.2.2.2;omega))]
 ·rw[uG,uI];intro h;simp only[uZ,uY] at m;omega
end Go.Proofs.YtibidnaedddfdaaGreat
