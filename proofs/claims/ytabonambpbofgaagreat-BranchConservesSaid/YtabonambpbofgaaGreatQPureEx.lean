import Derived.Test.YtabonambpbofgaaGreatQPureDiv
namespace Go.Proofs.YtabonambpbofgaaGreat
set_option linter.all false
open Go.RowKit
variable {A B L M N R U Y a b g j k u:Nat}{d n t' to:Int}{s:ByteArray}{G:Option Bool->Prop}{f:Bool->Option Bool}{p t:xq}{c e:List B3}{l r r':B3}
def Uo{d q r:Nat}(g:q*(Y/4294967296)+r=b):q*(Y%4294967296)<=4294967296*r+d↔q*Y<=b*4294967296+d:=by
 have e:q*Y=4294967296*(q*(Y/4294967296))+q*(Y%4294967296):=by
  conv=>lhs;rw[<-Aj2 Y 4294967296,Nat.mul_add,Nat.mul_left_comm]
 rw[e,<-g];generalize q*(Y/4294967296)=a
 generalize q*(Y%4294967296)=c
 omega
def kH{q:Nat}(d:a<Y)(g:b<4294967296)(c:4294967296<=q):a*4294967296+b<q*Y:=by
 have i:4294967296*Y<=q*Y:=Aia _ c;omega
def kJ{q r:Nat}(c:q*(Y/4294967296)+r=a)(d:1<=q)(g:q<=4294967297)(i:4294967296<=r+Y/4294967296):(q-1)*Y<=a*4294967296+b:=by
 have e:(q-1)*(Y/4294967296)+(r+Y/4294967296)=a:=by
  obtain⟨p,rfl⟩:∃p,q=p+1:=⟨q-1,Ω⟩
  rw[Aib]at c;simp only[Nat.add_sub_cancel];omega
 refine(Uo e).1 ?_;have j:(q-1)*(Y%4294967296)<=4294967296*(Y%4294967296):=Aia _ Ω;have k:Y%4294967296<4294967296:=Aip _ Ω;omega
def pE{q:Nat}(c:0<Y)(a:q*Y<=U)(b:U<(q+1)*Y):U/Y=q:=Nat.div_eq_of_lt_le a b
def YG(g:9223372036854775808<=Y)(l:Y<18446744073709551616)(m:a<Y)(d:Nat)(n:d<4294967296):a/(Y/4294967296)<=4294967297/\a/(Y/4294967296)*(Y/4294967296)+a%(Y/4294967296)=a/\a*4294967296+d<(a/(Y/4294967296)+1)*Y/\a%(Y/4294967296)<4294967296:=by
 have i:2147483648<=Y/4294967296:=Ω
 have j:Y/4294967296<4294967296:=Ω
 have b:0<Y/4294967296:=Ω
 have o:a%(Y/4294967296)<Y/4294967296:=Aip _ b;have c:a/(Y/4294967296)*(Y/4294967296)+a%(Y/4294967296)=a:=by rw[Ajb];exact Aj2 _ _
 refine⟨?_,c,?_,Ω⟩
 ·refine Ai6 ((Akc b).2 ?_);omega
 ·have k:(a/(Y/4294967296)+1)*(4294967296*(Y/4294967296))<=(a/(Y/4294967296)+1)*Y:=Nat.mul_le_mul_left _ Ω;rw[Nat.mul_left_comm,Aib,Nat.one_mul]at k;omega
def WC(N:Nat)(p y:Int)(g i:Nat)(Y a b:Nat)(B:Ej .u64 y g=(Y:Int))(C:Ej .u64 p i=(a:Int))(s:9223372036854775808<=Y)(d:Y<18446744073709551616)(k:a<18446744073709551616)(D:b<Y)(kj:Int->Option (Int×Int)):
  ∀(n q r:Nat),q<n->q<=4294967297->r<4294967296->q*(Y/4294967296)+r=b->b*4294967296+a/4294967296<(q+1)*Y->
  D5 N p y g i kj n (q:Int) (r:Int)=kj (((b*4294967296+a/4294967296)/Y:Nat):Int)
 |0,q,r,U,_,_,_,_=>Ω
 |n+1,q,r,K,F,M,t,G=>by
  have H:Y/4294967296<4294967296:=Ω
  have l:Y%4294967296<4294967296:=Aip _ Ω;have u:a/4294967296<4294967296:=Ω
  simp only[D5];rw[B,C,Pz,Pz,Ul Y d,SH,show(4294967296:Int)=((4294967296:Nat):Int)from rfl,SH,GA _ (show 4294967296*r<18446744073709551616 from Ω),WH,GA _ (show 4294967296*r+a/4294967296<18446744073709551616 from Ω),WH,GA (r+Y/4294967296) Ω];cases o:(decide (((4294967296:Nat):Int)<=(q:Int))||decide (((4294967296*r+a/4294967296:Nat):Int)<IntKind.u64.wrap ((q*(Y%4294967296):Nat):Int)))
  ·simp only[Ahk,Ahd]at o;obtain⟨Q,I⟩:=o;have c:q<4294967296:=Ω
   have v:q*(Y%4294967296)<18446744073709551616:=Aj3 (Ajm (Ai6 c) (Ai6 l)) (by decide);rw[GA _ v]at I;rw[Agq,pE Ω ((Uo t).1 Ω) G]
  ·rw[Ago];have j:b*4294967296+a/4294967296<q*Y:=by
    rcases Ag7 q 4294967296 with c|c
    ·have v:q*(Y%4294967296)<18446744073709551616:=Aj3 (Ajm (Ai6 c) (Ai6 l)) (by decide);rw[GA _ v]at o;simp only[Ahg,Ahb]at o;refine Nat.lt_of_not_le λw=>?_;have:=(Uo t).2 w;omega
    ·exact kH D u c
   have x:1<=q:=by
    rcases Akd q with e|e
    ·rw[e,Nat.zero_mul]at j;omega
    ·exact e
   have z:IntKind.u64.wrap ((q:Int)-1)=((q-1:Nat):Int):=by rw[show(q:Int)-1=((q-1:Nat):Int)from Ω];exact GA _ Ω
   rw[z];have A:q-1+1=q:=Ω
   cases m:decide (((4294967296:Nat):Int)<=((r+Y/4294967296:Nat):Int))
   ·rw[Agq];have J:(q-1)*(Y/4294967296)+(r+Y/4294967296)=b:=by
     have:q*(Y/4294967296)=(q-1)*(Y/4294967296)+Y/4294967296:=by
      conv=>lhs;rw[<-A,Aib,Nat.one_mul]
     omega
    simp only[Ahd]at m;exact WC N p y g i Y a b B C s d k D kj n (q-1) (r+Y/4294967296) Ω Ω Ω J (by rw[A];exact j)
   ·rw[Ago];simp only[Ahb]at m;rw[pE Ω (kJ t x F Ω) (by rw[A];exact j)]
def WB(N:Nat)(p y:Int)(i j:Nat)(Y a b:Nat)(B:Ej .u64 y i=(Y:Int))(C:Ej .u64 p j=(a:Int))(s:9223372036854775808<=Y)(d:Y<18446744073709551616)(g:a<18446744073709551616)(D:b<Y)(kj:Int->Option (Int×Int)):
  ∀(n q r:Nat),q<n->q<=4294967297->r<4294967296->q*(Y/4294967296)+r=b->b*4294967296+a%4294967296<(q+1)*Y->
  EV N p y i j kj n (r:Int) (q:Int)=kj (((b*4294967296+a%4294967296)/Y:Nat):Int)
 |0,q,r,U,_,_,_,_=>Ω
 |n+1,q,r,K,F,M,t,G=>by
  have H:Y/4294967296<4294967296:=Ω
  have l:Y%4294967296<4294967296:=Aip _ Ω;have u:a%4294967296<4294967296:=Aip _ Ω;simp only[EV];rw[B,C,Pz,Ul a g,Ul Y d,SH,show(4294967296:Int)=((4294967296:Nat):Int)from rfl,SH,GA _ (show 4294967296*r<18446744073709551616 from Ω),WH,GA _ (show 4294967296*r+a%4294967296<18446744073709551616 from Ω),WH,GA (r+Y/4294967296) Ω];cases o:(decide (((4294967296:Nat):Int)<=(q:Int))||decide (((4294967296*r+a%4294967296:Nat):Int)<IntKind.u64.wrap ((q*(Y%4294967296):Nat):Int)))
  ·simp only[Ahk,Ahd]at o;obtain⟨Q,I⟩:=o;have c:q<4294967296:=Ω
   have v:q*(Y%4294967296)<18446744073709551616:=Aj3 (Ajm (Ai6 c) (Ai6 l)) (by decide);rw[GA _ v]at I;rw[Agq,pE Ω ((Uo t).1 Ω) G]
  ·rw[Ago];have k:b*4294967296+a%4294967296<q*Y:=by
    rcases Ag7 q 4294967296 with c|c
    ·have v:q*(Y%4294967296)<18446744073709551616:=Aj3 (Ajm (Ai6 c) (Ai6 l)) (by decide);rw[GA _ v]at o;simp only[Ahg,Ahb]at o;refine Nat.lt_of_not_le λw=>?_;have:=(Uo t).2 w;omega
    ·exact kH D u c
   have x:1<=q:=by
    rcases Akd q with e|e
    ·rw[e,Nat.zero_mul]at k;omega
    ·exact e
   have z:IntKind.u64.wrap ((q:Int)-1)=((q-1:Nat):Int):=by rw[show(q:Int)-1=((q-1:Nat):Int)from Ω];exact GA _ Ω
   rw[z];have A:q-1+1=q:=Ω
   cases m:decide (((4294967296:Nat):Int)<=((r+Y/4294967296:Nat):Int))
   ·rw[Agq];have J:(q-1)*(Y/4294967296)+(r+Y/4294967296)=b:=by
     have:q*(Y/4294967296)=(q-1)*(Y/4294967296)+Y/4294967296:=by
      conv=>lhs;rw[<-A,Aib,Nat.one_mul]
     omega
    simp only[Ahd]at m;exact WB N p y i j Y a b B C s d g D kj n (q-1) (r+Y/4294967296) Ω Ω Ω J (by rw[A];exact k)
   ·rw[Ago];simp only[Ahb]at m;rw[pE Ω (kJ t x F Ω) (by rw[A];exact k)]
def wM(a b:Nat)(d:b≠0)(c:a<18446744073709551616):Tv .u64 (a:Int) (b:Int)=some ((a/b:Nat):Int):=by
 unfold Tv;rw[Agn Ω];have e:(a:Int).tdiv (b:Int)=((a/b:Nat):Int):=rfl;have:a/b<=a:=Nat.div_le_self _ _;rw[e,GA _ Ω]
def Ae6(a b:Nat)(c:b≠0):Wb (a:Int) (b:Int)=some ((a%b:Nat):Int):=by
 unfold Wb;rw[Agn Ω];rfl
def wF(a s:Nat)(d:s<=64):Ej .u64 (a:Int) s=((a*2^s%18446744073709551616:Nat):Int):=by
 unfold Ej;have b:min s IntKind.u64.bits=s:=by simp[IntKind.bits];omega
 have c:((a:Int)*2^s)=((a*2^s:Nat):Int):=by simp
 rw[b,c];exact sF _
def orN(a b:Nat)(g:a<18446744073709551616)(i:b<18446744073709551616):Jz .or .u64 (a:Int) (b:Int)=((a|||b:Nat):Int):=by
 have c:(BitVec.ofInt 64 (a:Int)).toNat=a:=by rw[BitVec.ofInt_natCast,BitVec.toNat_ofNat];exact Aji Ω
 have d:(BitVec.ofInt 64 (b:Int)).toNat=b:=by rw[BitVec.ofInt_natCast,BitVec.toNat_ofNat];exact Aji Ω
 have j:a|||b<2^64:=Nat.or_lt_two_pow Ω Ω
 show IntKind.u64.wrap (((BitVec.ofInt 64 (a:Int))|||(BitVec.ofInt 64 (b:Int))).toNat:Int)=_
 rw[BitVec.toNat_or,c,d,GA _ Ω]
def bB(a b:Nat):a=a/b*b+a%b:=by rw[Ajb];exact(Aj2 a b).symm
def gQ(a:0<Y):(A*B+u)/Y=A/Y*B+(A%Y*B+u)/Y/\(A*B+u)%Y=(A%Y*B+u)%Y:=by
 have b:=Aj2 A Y;have e:A*B+u=Y*(A/Y*B)+(A%Y*B+u):=by
  conv=>lhs;rw[<-b,Aib,Nat.mul_assoc,Nat.add_assoc]
 rw[e];exact⟨by rw[Nat.mul_add_div a],by rw[Nat.mul_add_mod]⟩
def O9{q:Nat}(g:a=q*Y+R)(c:R<18446744073709551616)(d:b=a%18446744073709551616):IntKind.u64.wrap ((b:Int)-IntKind.u64.wrap ((q*Y:Nat):Int))=(R:Int):=by
 rw[Oi,Oi];generalize q*Y=t at g
 omega
def dR(X:18446744073709551616<N)(w l y:Int)(s:Nat)(Z:s<=63)(m n:Nat)(Y c g k d:Nat)(p:Ej .u64 y s=(Y:Int))(q:Ej .u64 l s=(c:Int))(x:Jz .or .u64 (Ej .u64 w m) (F6 .u64 l n)=(g:Int))
  (o:9223372036854775808<=Y) (i:Y<18446744073709551616) (j:c<18446744073709551616) (hu:g<Y) (D:(g*4294967296+c/4294967296)=k*Y+d) (A:d<Y) (F:k<4294967296):
  EW N w l y (s:Int) s m n s (k:Int)=some (((k*4294967296+(d*4294967296+c%4294967296)/Y:Nat):Int),(((d*4294967296+c%4294967296)%Y/2^s:Nat):Int)):=by
 have G:0<Y/4294967296:=Ω
 have H:Y/4294967296<4294967296:=Ω
 have u:c%4294967296<4294967296:=Aip _ Ω;have B:IntKind.u64.wrap (IntKind.u64.wrap (IntKind.u64.wrap ((g:Int)*4294967296)+F6 .u64 (Ej .u64 l s) 32)-IntKind.u64.wrap ((k:Int)*(Y:Int)))=(d:Int):=by
  rw[q,Pz,SH];refine(Agt (λz=>IntKind.u64.wrap (z-_)) ?_).trans (O9 (b:=(g*4294967296+c/4294967296)%18446744073709551616) D Ω rfl);rw[Oi,Oi];omega
 obtain⟨I,C,J,K⟩:=YG o i A (c%4294967296) u;unfold EW;rw[x,p,B,Pz,wM _ _ Ω Ω];simp only[Agm];have M:IntKind.u64.wrap ((d:Int)-IntKind.u64.wrap (((d/(Y/4294967296):Nat):Int)*((Y/4294967296:Nat):Int)))=((d%(Y/4294967296):Nat):Int):=by
  rw[SH];exact O9 (a:=d) C.symm Ω Ω
 rw[M,WB N l y s s Y c d p q o i j A _ N _ _ Ω I K C J];unfold GO;have Q:Rj (IntKind.u64.wrap (s:Int))=some s:=by
  rw[GA s Ω];unfold Rj;rw[Agn Ω];simp
 rw[x,p,Q,B,q,Ul c j];simp only[Agm];have hd:=Aj2 (d*4294967296+c%4294967296) Y;have v:(d*4294967296+c%4294967296)/Y<4294967296:=(Akc Ω).2 Ω;have U:(d*4294967296+c%4294967296)%Y<Y:=Aip _ Ω;have V:IntKind.u64.wrap (IntKind.u64.wrap (IntKind.u64.wrap ((d:Int)*4294967296)+((c%4294967296:Nat):Int))-IntKind.u64.wrap (((((d*4294967296+c%4294967296)/Y:Nat)):Int)*(Y:Int)))=(((d*4294967296+c%4294967296)%Y:Nat):Int):=by
  rw[SH];refine(Agt (λz=>IntKind.u64.wrap (z-_)) ?_).trans (O9 (a:=d*4294967296+c%4294967296) (b:=(d*4294967296+c%4294967296)%18446744073709551616) (bB _ _) Ω rfl);rw[Oi,Oi];omega
 have W:IntKind.u64.wrap (IntKind.u64.wrap ((k:Int)*4294967296)+((((d*4294967296+c%4294967296)/Y:Nat)):Int))=((k*4294967296+(d*4294967296+c%4294967296)/Y:Nat):Int):=by
  rw[Oi,Oi];generalize (d*4294967296+c%4294967296)/Y=t at v
  omega
 rw[V,W,Y2 _ s Ω]
def pH(a u:Nat):(a*4294967296+u/4294967296)*4294967296+u%4294967296=a*18446744073709551616+u:=Ω
def lN(D:18446744073709551616<N)(o m y:Int)(s:Nat)(F:s<=63)(g i:Nat)(Y c b:Nat)(p:Ej .u64 y s=(Y:Int))(w:Ej .u64 m s=(c:Int))(x:Jz .or .u64 (Ej .u64 o g) (F6 .u64 m i)=(b:Int))
  (l:9223372036854775808<=Y) (j:Y<18446744073709551616) (k:c<18446744073709551616) (q:b<Y):
  ((Tv .u64 (Jz .or .u64 (Ej .u64 o g) (F6 .u64 m i)) (F6 .u64 (Ej .u64 y s) 32)).bind λn=>
   D5 N m y s s (EW N o m y (s:Int) s g i s) N n (IntKind.wrap .u64 ((Jz .or .u64 (Ej .u64 o g) (F6 .u64 m i))-(IntKind.wrap .u64 (n*(F6 .u64 (Ej .u64 y s) 32))))))=
  some ((((b*18446744073709551616+c)/Y:Nat):Int),(((b*18446744073709551616+c)%Y/2^s:Nat):Int)):=by
 have d:0<Y:=Ω
 have t:c/4294967296<4294967296:=Ω
 obtain⟨G,z,H,I⟩:=YG l j q (c/4294967296) t;obtain⟨C,t2⟩:=gQ (Y:=Y) (A:=b*4294967296+c/4294967296) (B:=4294967296) (u:=c%4294967296) d;rw[pH]at C t2;rw[C,t2,x,p,Pz,wM _ _ Ω Ω];simp only[Agm];have J:IntKind.u64.wrap ((b:Int)-IntKind.u64.wrap (((b/(Y/4294967296):Nat):Int)*((Y/4294967296:Nat):Int)))=((b%(Y/4294967296):Nat):Int):=by
  rw[SH];exact O9 (a:=b) z.symm Ω Ω
 have v:(b*4294967296+c/4294967296)/Y<4294967296:=(Akc d).2 Ω;rw[J,WC N _ _ s s Y c b p w l j k q _ N _ _ Ω G I z H];exact dR D _ _ _ s F g i Y c b _ _ p w x l j k q (bB _ _) (Aip _ d) v
def iQ{l s:Nat}(b:M=2^64)(d:s<=63):(g*2^s+l/2^(64-s))*M+l*2^s%M=(g*M+l)*2^s:=by
 have e:(2:Nat)^64=2^(64-s)*2^s:=by rw[<-Nat.pow_add];congr 1;omega
 have c:l*2^s/M=l/2^(64-s):=by
  rw[b,e,Nat.mul_div_mul_right _ _ (Aj1 s)]
 have a:=Aj2 (l*2^s) M;rw[c]at a;rw[Aib,Aib,Nat.mul_right_comm g,Nat.add_assoc,Ajb (l/2^(64-s)) M];exact Agt _ a
def lQ(o:18446744073709551616<N)(B l y:Nat)(c:l<18446744073709551616)(p:y<18446744073709551616)(k:B<y):
  Gv N (B:Int) (l:Int) (y:Int)=some ((((B*18446744073709551616+l)/y:Nat):Int),(((B*18446744073709551616+l)%y:Nat):Int)):=by
 unfold Gv;rw[show decide ((y:Int)=0)=false by simp;omega,show decide ((y:Int)<=(B:Int))=false by simp;omega,Agq,Agq];rcases Akd B with e|hp
 ·subst e;rw[show decide (((0:Nat):Int)=0)=true by simp,Ago,wM _ _ Ω c,Ae6 _ _ Ω,Nat.zero_mul,Ahw];rfl
 ·rw[show decide ((B:Int)=0)=false by simp;omega,Agq];obtain⟨s,q,m,u,d⟩:=tB N (show 0<y from Ω) p;have n:∀t:Nat,t<=64->Rj (IntKind.u64.wrap (t:Int))=some t:=λt A=>by
   rw[GA t Ω];unfold Rj;rw[Agn Ω];simp
  have g:(64:Int)-IntKind.u64.wrap (s:Int)=((64-s:Nat):Int):=by rw[GA s Ω];omega
  rw[q,Agm,g,n s Ω,n (64-s) Ω,Agm,Agm,Agm,Agm];have a:B*2^s<18446744073709551616:=Aj3 (Aia _ (Nat.le_of_lt k)) d;have b:l/2^(64-s)<2^s:=by
   refine(Akc (Aj1 _)).2 ?_;rw[<-Nat.pow_add,show s+(64-s)=64 from Ω];exact c
  have i:l/2^(64-s)<18446744073709551616:=Aj3 (Nat.div_le_self _ _) c;have j:B*2^s|||l/2^(64-s)=B*2^s+l/2^(64-s):=by
   rw[Ajb B];exact(Nat.two_pow_add_eq_or_of_lt b B).symm
  have v:Ej .u64 (y:Int) s=((y*2^s:Nat):Int):=by rw[wF _ _ Ω,Aji d]
  have w:Ej .u64 (l:Int) s=((l*2^s%18446744073709551616:Nat):Int):=wF _ _ Ω;have x:Jz .or .u64 (Ej .u64 (B:Int) s) (F6 .u64 (l:Int) (64-s))=((B*2^s+l/2^(64-s):Nat):Int):=by
   rw[wF _ _ Ω,Y2 _ _ Ω,Aji a,orN _ _ a i,j]
  have z:B*2^s+l/2^(64-s)<y*2^s:=by
   have:(B+1)*2^s<=y*2^s:=Aia _ k;rw[Aib,Nat.one_mul]at this;exact Ag6 (Nat.add_lt_add_left b _) this
  have hd:=lN o (B:Int) (l:Int) (y:Int) s m s (64-s) _ _ _ v w x u d (Aip _ Ω) z;rw[iQ (M:=18446744073709551616) rfl m,Nat.mul_div_mul_right _ _ (Aj1 s),Nat.mul_mod_mul_right,Nat.mul_div_cancel _ (Aj1 s)]at hd;exact hd
def Aba(a n d:Int):Int×Int×Bool:=if(0<=a/\a<=1125899906842624)/\(0<=n/\n<=1125899906842624)/\(1<=d/\d<=1125899906842624)/\a*n/d<=1125899906842624 then(a*n/d,a*n%d,true) else(0,0,false)
def wH{t d:Nat}(hd:0<d)(a:d<=t/18446744073709551616):18446744073709551616<=t/d:=by
 refine(Nat.le_div_iff_mul_le hd).2 ?_;omega
def P0(t:18446744073709551616<N)(a n d:Int):G8 N a n d=some (Aba a n d):=by
 unfold G8 Aba;cases m:(((((decide (a<0)||decide (1125899906842624<a))||decide (n<0))||decide (1125899906842624<n))||decide (d<1))||decide (1125899906842624<d))
 ·simp only[Ahk,Ahd]at m;obtain⟨⟨⟨⟨⟨y,z⟩,A⟩,B⟩,C⟩,D⟩:=m;obtain⟨b,rfl⟩:∃k:Nat,a=k:=⟨a.toNat,Ω⟩
  obtain⟨c,rfl⟩:∃k:Nat,n=k:=⟨n.toNat,Ω⟩
  obtain⟨g,rfl⟩:∃k:Nat,d=k:=⟨d.toNat,Ω⟩
  rw[Agq,GA b Ω,GA c Ω,GA g Ω,Ui N b c Ω Ω];simp only[Agm];have u:(b:Int)*(c:Int)/(g:Int)=((b*c/g:Nat):Int):=by rw[Int.natCast_ediv,Int.natCast_mul]
  have v:(b:Int)*(c:Int)%(g:Int)=((b*c%g:Nat):Int):=by rw[Int.natCast_emod,Int.natCast_mul]
  rw[u,v];have o:b*c/18446744073709551616*18446744073709551616+b*c%18446744073709551616=b*c:=(bB _ _).symm;have j:0<g:=Ω
  by_cases l:g<=b*c/18446744073709551616
  ·rw[show decide ((g:Int)<=((b*c/18446744073709551616:Nat):Int))=true from Ag8 (Int.ofNat_le.2 l),Ago,Agn];intro F;have p:=F.2.2.2;have w:=wH j l;generalize b*c/g=q at p w
   omega
  ·have s:¬(g:Int)<=((b*c/18446744073709551616:Nat):Int):=λF=>l (Int.ofNat_le.1 F);rw[Agx s,Agq,lQ t _ _ _ (Aip _ Ω) Ω (Nat.lt_of_not_le l),o];simp only[Agm];have x:b*c%g<g:=Aip _ j;generalize b*c/g=q
   generalize b*c%g=r at x
   by_cases p:q<=1125899906842624
   ·have i:¬(1125899906842624:Int)<(q:Int):=Ω
    rw[Agx i,Agq,Agp ⟨Ω,Ω,Ω,Ω⟩,D6 Ω Ω,D6 Ω Ω]
   ·have i:(1125899906842624:Int)<(q:Int):=Ω
    rw[Ag8 i,Ago,Agn (λF=>p (by have:=F.2.2.2;omega))]
 ·rw[Ago,Agn];intro F;simp only[Ahg,Ahb]at m;omega
def Mw(b x:Bool):cond b true x=(b||x):=by cases b<;>rfl
def Rh(b x:Bool):cond b x false=(b&&x):=by cases b<;>rfl
def BA(a:k<4611686018427387904):BO ((k:Int)+1)=((k+1:Nat):Int):=by rw[D6 Ω Ω];rfl
def ER(a:k<L):decide ((k:Int)<(L:Int))=true:=by simp;omega
def Ek(a:L<=k):decide ((k:Int)<(L:Int))=false:=by simp;omega
def KZ(L:Nat)(f:Nat->Int->Option Bool)(kj:Option Bool)(P:Nat->Prop)(a:∀n (k:Nat),L<=k->f (n+1) (k:Int)=kj)(b:∀n (k:Nat),k<L->f (n+1) (k:Int)=some false\/(P k/\f (n+1) (k:Int)=f n ((k+1:Nat):Int))):
  ∀n (k:Nat),L<n+k->k<=L->f n (k:Int)=some false\/((∀i,k<=i->i<L->P i)/\f n (k:Int)=kj)
 |0,k,o,l=>Ω
 |n+1,k,o,l=>by
  rcases Ag7 k L with d|d
  ·rcases b n k d with g|⟨g,h2⟩
   ·exact .inl g
   ·rcases KZ L f kj P a b n (k+1) Ω Ω with j|⟨j,h4⟩
    ·exact .inl (h2.trans j)
    ·refine .inr ⟨λi m c=>?_,h2.trans h4⟩;by_cases e:i=k
     ·subst e;exact g
     ·exact j i Ω c
  ·exact .inr ⟨λi m c=>Ω,a n k d⟩
def aI{σ q:Type}(L:Nat)(f:Nat->Int->σ->Option q)(kj:σ->Option q)(I:σ->Prop)(a:∀n (k:Nat) s,L<=k->f (n+1) (k:Int) s=kj s)(b:∀n (k:Nat) s,I s->k<L->∃s',I s'/\f (n+1) (k:Int) s=f n ((k+1:Nat):Int) s'):
  ∀n (k:Nat) s,I s->L<n+k->k<=L->∃s',I s'/\f n (k:Int) s=kj s'
 |0,k,s,_,t,g=>Ω
 |n+1,k,s,d,t,g=>by
  rcases Ag7 k L with c|c
  ·obtain⟨i,j,l⟩:=b n k s d c;obtain⟨m,o,p⟩:=aI L f kj I a b n (k+1) i j Ω Ω;exact⟨m,o,l.trans p⟩
  ·exact⟨s,d,a n k s c⟩
def VN(n:Int):Bool:=decide (0<=n)&&decide (n<=1125899906842624)
def MJ(a:VN n=true):KW n:=by simpa[VN,KW]using a
def NV(N:Nat)(n:Int):Cz N n=some (VN n):=rfl
def kN(n a b:Int):Bool:=decide (a<=n)&&decide (n<=b)
def Ow(N:Nat)(n a b:Int):DI N n a b=some (kN n a b):=rfl
def MC{a b:Int}(c:kN n a b=true):a<=n/\n<=b:=by simpa[kN]using c
def V4(a b:Int):Bool:=(VN a&&VN b)&&(decide (b≠0)||decide (a=0))
def SP(N:Nat)(a b:Int):II N a b=some (V4 a b):=by
 simp only[II,NV,Agm,HB,Rh,V4]
def Qo{a b:Int}(c:V4 a b=true):KW a/\KW b:=by
 simp only[V4,Agu]at c;exact⟨MJ c.1.1,MJ c.1.2⟩
def SO(N:Nat)(n:Int)(a:L<4611686018427387904):GQ N n (L:Int)=some (kN n 0 ((L:Int)-1)):=by
 simp only[GQ,Ow,Agm];rw[D6 Ω Ω]
def Xk(L:Nat)(fr to:Int):Bool:=decide (to= -1)||(kN to 0 ((L:Int)-1)&&decide (to≠fr))
def Sm(N:Nat)(b:AF)(fr to:Int)(a:b.A.length<4611686018427387904):KO N b fr to=some (Xk b.A.length fr to):=by
 simp only[KO,SO N _ a,Agm,HB,Mw,Xk]
def Zu{fr:Int}(a:Xk L fr to=true):to= -1\/(0<=to/\to<L):=by
 simp only[Xk,Ahg,Agu,Ahb]at a;rcases a with a|a
 ·exact .inl a
 ·have:=MC a.1;exact .inr ⟨this.1,Ω⟩
structure Ii(b:AF):Prop where
 own:b.I.length<=16
 cells:0<=b.L/\b.L<=64
 pl:b.A.length<=64
 li:b.E.length<=96
 to:b.Af.length<=40
 ga:b.Ah.length<=128
 ro:b.Ai.length<=128
 sh:b.Ak.length<=40
 own1:1<=b.I.length
def W2(a:k<s.size):∃z,bE s (k:Int)=some z:=by
 unfold bE;rw[Agn Ω];simp only[Ahl];exact⟨_,by rw[getElem?_pos s k a];rfl⟩
def pF(q:1000<N)(b:AF):∃v,Ic N b=some v/\(v=true->Ii b):=by
 unfold Ic;simp only[Ow,Agm,HB,Mw];generalize d:(_|| !kN b.M 0 1099511627776)=B
 cases B
 ·simp only[Ahk,Ahd,Ai1]at d;obtain⟨⟨⟨⟨⟨⟨⟨⟨⟨⟨s,g⟩,i⟩,j⟩,t⟩,u⟩,w⟩,x⟩,y⟩,l⟩,m⟩:=d;have A:=MC g;have C:=MC i;have D:=MC j;have c:Ii b:=⟨Ω,Ω,Ω,Ω,Ω,Ω,Ω,Ω,Ω⟩
  simp only[Agq];have a:∃v,FM N b=some v:=by
   unfold FM;rcases KZ b.Aj.length (FK N b (Hi N)) (Hi N) (λ_=>True) (λn k F=>by
    simp only[FK];rw[Ek F];rfl) (λn k F=>by
    simp only[FK];rw[ER F,Ago,BC F];simp only[Agm,NV,BA (show k<4611686018427387904 from Ω)];cases VN b.Aj[k]
    ·exact .inl rfl
    ·exact .inr ⟨trivial,rfl⟩) N 0 Ω (Agr _)with F|⟨_,F⟩
   ·exact⟨_,F⟩
   ·exact⟨true,F⟩
  rcases KZ b.G.size (FL N b (FM N b)) (FM N b) (λ_=>True) (λn k F=>by
    simp only[FL];rw[Ek F];rfl) (λn k F=>by
    simp only[FL];obtain⟨z,o⟩:=W2 F;rw[ER F,Ago,o];simp only[Agm,BA (show k<4611686018427387904 from Ω)];cases(decide (z<32)||decide (126<z)||decide (z=34)||decide (z=92))
    ·exact .inr ⟨trivial,rfl⟩
    ·exact .inl rfl) N 0 Ω (Agr _)with F|⟨_,F⟩
  ·exact⟨false,F,λF=>by cases F⟩
  ·obtain⟨v,p⟩:=a;exact⟨v,F.trans p,λ_=>c⟩
 ·exact⟨false,rfl,λF=>by cases F⟩
def dL(d:1000<N)(s:ByteArray):Df (K7 N s):=by
 unfold K7;cases c:(decide ((s.size:Int)<1)||decide (24<(s.size:Int))||s==ByteArray.mk #[111,117,116])
 ·simp only[Ahk,Ahd]at c;obtain⟨z,a⟩:=W2 (s:=s) (k:=0) Ω;have b:bE s 0=some z:=a;simp only[Agq,b,Agm,HB,Mw];refine Df.cond (λ_=>Df.mk _) λ_=>?_;rcases KZ s.size (Gw N s (Id N)) (Id N) (λ_=>True) (λn k g=>by
    simp only[Gw];rw[Ek g];rfl) (λn k g=>by
    simp only[Gw];obtain⟨z,a⟩:=W2 g;rw[ER g,Ago,a];simp only[Agm,BA (show k<4611686018427387904 from Ω)];cases(((decide (z<97)||decide (122<z))&&(decide (z<48)||decide (57<z)))&&decide (z≠95))
    ·exact .inr ⟨trivial,rfl⟩
    ·exact .inl rfl) N 1 Ω Ω with g|⟨_,g⟩
  ·exact⟨_,g⟩
  ·exact⟨_,g⟩
 ·simp only[Ago,Agm];exact Df.mk _
def kV(d:1000<N)(m:List (AI×Bool))(a b:ByteArray):Df (Le N m a b):=by
 have c:∀s,Df (I8 N m b s):=λs=>by
  unfold I8;exact Df.bind (dL d b) λ_ _=>Df.cond (λ_=>Df.mk _) λ_=>Df.mk _
 unfold Le;exact Df.cond (λ_=>c _) λ_=>c _
def N8(d:1000<N)(m:List (AI×Bool))(c:Bool)(a b:ByteArray):∃v,Do N m c a b=some v:=by
 unfold Do;exact Df.bind (kV d m a b) λ_ _=>Df.mk _
def jO(c:1000<N){b:AF}(m:Ii b):Df (Kd N b):=by
 obtain⟨u,w,x,y,z,B,C,D⟩:=m;have d:∀{σ}(L:Nat)(f:Nat->Int->σ->Option Bool)(kj:σ->Option Bool),L<=128->(∀n (k:Nat) s,L<=k->f (n+1) (k:Int) s=kj s)->(∀n (k:Nat) s,k<L->∃s',f (n+1) (k:Int) s=f n ((k+1:Nat):Int) s')->(∀s,Df (kj s))->∀s,Df (f N 0 s):=λL f kj F g o i s=>by
  obtain⟨s',_,e⟩:=aI L f kj (λ_=>True) g (λn k s _ H=>by obtain⟨s',h'⟩:=o n k s H;exact⟨s',trivial,h'⟩) N 0 s trivial Ω (Agr _);obtain⟨v,a⟩:=i s';exact⟨v,e.trans a⟩
 have j:∀s:Bool×List (AI×Bool),Df (Dz N b (FW N) N 0 s.1 s.2):=d (σ:=Bool×List (AI×Bool)) b.Ai.length (λn k s=>Dz N b (FW N) n k s.1 s.2) (λs=>FW N s.1) Ω (λn k s H=>by simp only[Dz];rw[Ek H];rfl)
  (λn k s H=>by
   simp only[Dz];rw[ER H,Ago,BC H];simp only[Agm];obtain⟨v,a⟩:=N8 c s.2 s.1 (ByteArray.mk #[114,111,97,100]) (b.Ai[k]).G;rw[a];simp only[Agm,BA (show k<4611686018427387904 from Ω)];exact⟨(v.2,v.1),rfl⟩) (λs=>Df.mk _)
 have l:∀s:Bool×List (AI×Bool),Df (D0 N b (FX N b) N 0 s.1 s.2):=d (σ:=Bool×List (AI×Bool)) b.Ah.length (λn k s=>D0 N b (FX N b) n k s.1 s.2) (λs=>FX N b s.1 s.2) Ω (λn k s H=>by simp only[D0];rw[Ek H];rfl)
  (λn k s H=>by
   simp only[D0];rw[ER H,Ago,BC H];simp only[Agm];obtain⟨v,a⟩:=N8 c s.2 s.1 (ByteArray.mk #[103,97,117,103,101]) (b.Ah[k]).G;rw[a];simp only[Agm,BA (show k<4611686018427387904 from Ω)];exact⟨(v.2,v.1),rfl⟩) (λs=>j s)
 have p:∀s:Bool×List (AI×Bool),Df (EE N b (Fv N b) N 0 s.1 s.2):=d (σ:=Bool×List (AI×Bool)) b.Ak.length (λn k s=>EE N b (Fv N b) n k s.1 s.2) (λs=>Fv N b s.1 s.2) Ω (λn k s H=>by simp only[EE];rw[Ek H];rfl)
  (λn k s H=>by
   simp only[EE];rw[ER H,Ago,BC H];simp only[Agm];obtain⟨v,a⟩:=N8 c s.2 s.1 (ByteArray.mk #[115,104,101,108,116,101,114]) (b.Ak[k]).G;rw[a];simp only[Agm,BA (show k<4611686018427387904 from Ω)];exact⟨(v.2,v.1),rfl⟩) (λs=>l s)
 have q:∀s:Bool×List (AI×Bool),Df (EF N b (Fw N b) N 0 s.1 s.2):=d (σ:=Bool×List (AI×Bool)) b.Af.length (λn k s=>EF N b (Fw N b) n k s.1 s.2) (λs=>Fw N b s.1 s.2) Ω (λn k s H=>by simp only[EF];rw[Ek H];rfl)
  (λn k s H=>by
   simp only[EF];rw[ER H,Ago,BC H];simp only[Agm];obtain⟨v,a⟩:=N8 c s.2 s.1 (ByteArray.mk #[116,111,119,110]) (b.Af[k]).G;rw[a];simp only[Agm,BA (show k<4611686018427387904 from Ω)];exact⟨(v.2,v.1),rfl⟩) (λs=>p s)
 have t:∀s:Bool×List (AI×Bool),Df (EG N b (Fx N b) N 0 s.1 s.2):=d (σ:=Bool×List (AI×Bool)) b.E.length (λn k s=>EG N b (Fx N b) n k s.1 s.2) (λs=>Fx N b s.1 s.2) Ω (λn k s H=>by simp only[EG];rw[Ek H];rfl)
  (λn k s H=>by
   simp only[EG];rw[ER H,Ago,BC H];simp only[Agm];obtain⟨v,a⟩:=N8 c s.2 s.1 (ByteArray.mk #[108,105,110,107]) (b.E[k]).G;rw[a];simp only[Agm,BA (show k<4611686018427387904 from Ω)];exact⟨(v.2,v.1),rfl⟩) (λs=>q s)
 have i:∀s:Bool×List (AI×Bool),Df (EH N b (Fy N b) N 0 s.1 s.2):=d (σ:=Bool×List (AI×Bool)) b.A.length (λn k s=>EH N b (Fy N b) n k s.1 s.2) (λs=>Fy N b s.1 s.2) Ω (λn k s H=>by simp only[EH];rw[Ek H];rfl)
  (λn k s H=>by
   simp only[EH];rw[ER H,Ago,BC H];simp only[Agm];obtain⟨v,a⟩:=N8 c s.2 s.1 (ByteArray.mk #[112,108,97,99,101]) (b.A[k]).G;rw[a];simp only[Agm,BA (show k<4611686018427387904 from Ω)];exact⟨(v.2,v.1),rfl⟩) (λs=>t s)
 have g:∀s:Bool×List (AI×Bool),Df (EI N b (F5 N b) N 0 s.1 s.2):=d (σ:=Bool×List (AI×Bool)) b.I.length (λn k s=>EI N b (F5 N b) n k s.1 s.2) (λs=>F5 N b s.1 s.2) Ω (λn k s H=>by simp only[EI];rw[Ek H];rfl)
  (λn k s H=>by
   simp only[EI];rw[ER H,Ago,BC H];simp only[Agm];obtain⟨v,a⟩:=N8 c s.2 s.1 (ByteArray.mk #[111,119,110,101,114]) (b.I[k]);rw[a];simp only[Agm,BA (show k<4611686018427387904 from Ω)];exact⟨(v.2,v.1),rfl⟩) (λs=>i s)
 exact g (true,[])
structure JV(b:AF)(p:Ce):Prop where
 lev:JW p.Bk
 num:KW p.Y
 den:KW p.T
 down:p.Ao= -1\/(0<=p.Ao/\p.Ao<b.A.length)
 cap:KW p.Au
 delay:0<=p.S/\p.S<=240
def Xp{N:Nat}(p:Ce)(kj:Int->Option Bool)(b:p.An.length<=16):∀(n:Nat)(s:Int)(k:Nat),p.An.length<n+k->k<=p.An.length->DN N p kj n s (k:Int)=some false\/∃s',DN N p kj n s (k:Int)=kj s'
 |0,s,k,d,c=>Ω
 |n+1,s,k,d,c=>by
  simp only[DN];rcases Ag7 k p.An.length with a|a
  ·rw[ER a,Ago,BC a];simp only[Agm,NV,BA (show k<4611686018427387904 from Ω)];cases VN p.An[k]
   ·exact .inl rfl
   ·exact Xp (N:=N) p kj b n _ (k+1) Ω Ω
  ·rw[Ek a];exact .inr ⟨s,rfl⟩
def aB{N:Nat}(b:AF)(p:Ce)(a:Int)(kj:Int->Option Bool)(g:0<=b.L/\b.L<=64):∀(n:Nat)(s:Int)(k:Nat), -1<=s->s<=64->65<n+s->k<100->(k:Int)<=s+1->Cc N b p a kj n s (k:Int)=some false\/Cc N b p a kj n s (k:Int)=kj a
 |0,s,k,i,j,l,m,o=>Ω
 |n+1,s,k,i,j,l,m,o=>by
  simp only[Cc];rcases Ag7 k p.U.length with c|c
  ·rw[ER c,Ago,BC c];simp only[Agm,NV,HB,Mw,BA (show k<4611686018427387904 from Ω)];cases d:(decide ((p.U[k]).Bg<=s)||decide (b.L<=(p.U[k]).Bg)|| !VN (p.U[k]).Bp)
   ·simp only[Ahk,Ahd]at d;obtain⟨⟨q,t⟩,u⟩:=d;exact aB (N:=N) b p a kj g n _ (k+1) Ω Ω Ω Ω Ω
   ·exact .inl rfl
  ·rw[Ek c];exact .inr rfl
def Vp{N:Nat}(o:1000<N)(b:AF)(a:Ii b):∀(n:Nat)(s:Int)(k:Nat),b.A.length<n+k->k<=b.A.length->∃v,B8 N b (CT N) n s (k:Int)=some v/\(v=true->∀(i:Nat) p,k<=i->b.A[i]? =some p->JV b p)
 |0,s,k,Y,q=>Ω
 |n+1,s,k,Y,q=>by
  have Q:=a.pl;simp only[B8];rcases Ag7 k b.A.length with c|c
  ·rw[ER c,Ago,BC c];obtain⟨U,g,j⟩:=K8 (N:=N) Ω (b.A[k]).Bk;simp only[Agm,Ow,NV,SP,g,Sm N b _ _ (show b.A.length<4611686018427387904 from Ω),HB,Mw];generalize l:(_|| !Xk b.A.length (k:Int) (b.A[k]).Ao)=B
   cases B
   ·simp only[Ahk,Ahd,Ai1]at l;obtain⟨⟨⟨⟨⟨⟨⟨⟨V,W⟩,t⟩,u⟩,X⟩,w⟩,x⟩,m⟩,y⟩:=l;have z:(b.A[k]).An.length=b.I.length:=by
     have:((b.A[k]).An.length:Int)=(b.I.length:Int):=by simpa using x
     omega
    have C:JV b b.A[k]:=⟨j w,(Qo m).1,(Qo m).2,Zu y,MJ u,MC t⟩
    simp only[Agq];rcases Xp (N:=N) b.A[k] (FV N b b.A[k] (C1 N (k:Int) (B8 N b (CT N) n))) (by have:=a.own;omega) N s 0 (by have:=a.own;omega) (Agr _)with e|⟨s',e⟩
    ·exact⟨false,e,λY=>by cases Y⟩
    ·have D:DN N b.A[k] (FV N b b.A[k] (C1 N (k:Int) (B8 N b (CT N) n))) N s 0=_:=e;rw[D];unfold FV;rcases aB (N:=N) b b.A[k] s' (C1 N (k:Int) (B8 N b (CT N) n)) a.cells N (-1) 0 Ω Ω Ω Ω Ω with e|e
     ·exact⟨false,e,λY=>by cases Y⟩
     ·have F:Cc N b b.A[k] s' (C1 N (k:Int) (B8 N b (CT N) n)) N (-1) 0=_:=e;rw[F];unfold C1;rw[BA (show k<4611686018427387904 from Ω)];obtain⟨v,G,H⟩:=Vp o b a n s' (k+1) Ω Ω;refine⟨v,G,λJ i p K d=>?_⟩;by_cases M:i=k
      ·subst M;have:p=b.A[i]:=by simpa[c]using d.symm
       rw[this];exact C
      ·exact H J i p Ω d
   ·exact⟨false,rfl,λY=>by cases Y⟩
  ·rw[Ek c];refine⟨_,rfl,λ_ i p K d=>?_⟩;have:=(Ag0.1 d).1;omega
def dB(c:1000<N)(b:AF)(a:Ii b):∃v,Hw N b=some v/\(v=true->∀p∈b.A,JV b p):=by
 obtain⟨v,d,g⟩:=Vp c b a N 0 0 (by have:=a.pl;omega) (Agr _);refine⟨v,d,λj p k=>?_⟩;obtain⟨i,l,rfl⟩:=Ake.1 k;exact g j i _ (Agr _) (by simp[l])
structure LA(b:AF)(l:BG):Prop where
 kind:0<=l.H/\l.H<=5
 fr:0<=l.J/\l.J<b.A.length
 to:l.C= -1\/(0<=l.C/\l.C<b.A.length)
 delay:0<=l.S/\l.S<=240
 gate:l.H=0->JW l.As/\JW l.Ae.Aw/\JW l.Ae.Ax/\KW l.Aq/\KW l.Al
 part:l.H=1\/l.H=5\/l.H=3->KW l.Y/\1<=l.T/\l.T<=1125899906842624
 seep:l.H=4->KW l.Y/\1<=l.T/\l.T<=1125899906842624/\KW l.Aq/\KW l.Al/\l.C≠ -1
def gB(d:18446744073709551616<N)(a b:List B3)(g:1<=a.length)(c:a.length<=32)(i:b.length<=32):Df (Hf N a b):=by
 unfold Hf;rcases KZ b.length (Hc N a b (I7 N)) (I7 N) (λ_=>True) (λn k l=>by
  simp only[Hc];rw[Ek l];rfl) (λn k l=>by
  simp only[Hc];obtain⟨v,j⟩:=UH d g c (b[k]).R;rw[ER l,Ago,BC l];simp only[Agm,j,BA (show k<4611686018427387904 from Ω)];cases(decide ((b[k]).X<v.1)||decide (v.1=(b[k]).X)&&v.2)
  ·exact .inr ⟨trivial,rfl⟩
  ·exact .inl rfl) N 0 Ω (Agr _)with l|⟨_,l⟩
 ·exact⟨_,l⟩
 ·exact⟨true,l⟩
def Rz(d:18446744073709551616<N)(a b:List B3):Df (I2 N a b):=by
 unfold I2;obtain⟨s,i,j⟩:=K8 (N:=N) Ω a;obtain⟨t,l,m⟩:=K8 (N:=N) Ω b;simp only[i,l,Agm,HB,Mw];refine Df.cond (λ_=>Df.mk _) λu=>?_;simp only[Ahk,Ai1]at u;obtain⟨o,p,_⟩:=j u.1;obtain⟨q,g,_⟩:=m u.2;rcases KZ a.length (He N a b (Hf N a b)) (Hf N a b) (λ_=>True) (λn k u=>by
  simp only[He];rw[Ek u];rfl) (λn k u=>by
  simp only[He];obtain⟨v,c⟩:=UH d q g (a[k]).R;rw[ER u,Ago,BC u];simp only[Agm,c,BA (show k<4611686018427387904 from Ω)];cases decide (v.1<(a[k]).X)
  ·exact .inr ⟨trivial,rfl⟩
  ·exact .inl rfl) N 0 Ω (Agr _)with u|⟨_,u⟩
 ·exact⟨_,u⟩
 ·obtain⟨v,c⟩:=gB d a b o p g;exact⟨v,u.trans c⟩
def V8(m:18446744073709551616<N)(l:BG):∃v,Gp N l=some v/\(v=true->
  (l.H=0->JW l.As/\JW l.Ae.Aw/\JW l.Ae.Ax/\KW l.Aq/\KW l.Al)/\(l.H=1\/l.H=5\/l.H=3->KW l.Y/\1<=l.T/\l.T<=1125899906842624)/\
  (¬(l.H=0\/l.H=1\/l.H=5\/l.H=2\/l.H=3)->KW l.Y/\1<=l.T/\l.T<=1125899906842624/\KW l.Aq/\KW l.Al/\l.C≠ -1)):=by
 obtain⟨v1,q,s⟩:=K8 (N:=N) Ω l.As;obtain⟨D,t,u⟩:=K8 (N:=N) Ω l.Ae.Aw;obtain⟨F,w,x⟩:=K8 (N:=N) Ω l.Ae.Ax;obtain⟨G,y⟩:=Rz m l.Ae.Aw l.As;obtain⟨I,z⟩:=Rz m l.As l.Ae.Ax;unfold Gp;by_cases k0:l.H=0
 ·rw[show decide (l.H=0)=true by simp[k0],Ago];simp only[q,t,w,y,z,Ow,NV,SP,Agm,HB,Rh];refine⟨_,rfl,λV=>?_⟩;simp only[Agu]at V;obtain⟨⟨⟨⟨⟨⟨⟨⟨⟨d,a⟩,b⟩,i⟩,A⟩,J⟩,K⟩,M⟩,n⟩,B⟩:=V;exact⟨λ_=>⟨s d,u a,x b,(Qo n).1,(Qo n).2⟩,λV=>Ω,λV=>absurd (.inl k0) V⟩
 ·rw[show decide (l.H=0)=false by simp[k0],Agq];have o:∀c:Bool,(c=true↔l.H=1\/l.H=5)->∃v,Ee N l c=some v/\(v=true->
    (l.H=0->JW l.As/\JW l.Ae.Aw/\JW l.Ae.Ax/\KW l.Aq/\KW l.Al)/\(l.H=1\/l.H=5\/l.H=3->KW l.Y/\1<=l.T/\l.T<=1125899906842624)/\
    (¬(l.H=0\/l.H=1\/l.H=5\/l.H=2\/l.H=3)->KW l.Y/\1<=l.T/\l.T<=1125899906842624/\KW l.Aq/\KW l.Al/\l.C≠ -1)):=λc p=>by
   unfold Ee;simp only[Ow,NV,SP,Agm,HB,Rh];cases c
   ·have Q:¬(l.H=1\/l.H=5):=λV=>by have:=p.2 V;cases this
    rw[Agq];by_cases j:l.H=2
    ·rw[show decide (l.H=2)=true by simp[j],Ago];exact⟨_,rfl,λ_=>⟨λV=>absurd V k0,λV=>Ω,λV=>absurd (.inr (.inr (.inr (.inl j)))) V⟩⟩
    ·rw[show decide (l.H=2)=false by simp[j],Agq];by_cases k:l.H=3
     ·rw[show decide (l.H=3)=true by simp[k],Ago];refine⟨_,rfl,λV=>?_⟩;simp only[Agu]at V;obtain⟨⟨⟨⟨d,a⟩,b⟩,i⟩,A⟩:=V;exact⟨λV=>absurd V k0,λ_=>⟨MJ d,MC a⟩,λV=>absurd (.inr (.inr (.inr (.inr k)))) V⟩
     ·rw[show decide (l.H=3)=false by simp[k],Agq];refine⟨_,rfl,λV=>?_⟩;simp only[Agu,Ahb]at V;obtain⟨⟨⟨d,a⟩,b⟩,i⟩:=V;exact⟨λV=>absurd V k0,λV=>Ω,λ_=>⟨MJ d,(MC a).1,(MC a).2,(Qo b).1,(Qo b).2,i⟩⟩
   ·have U:=p.1 rfl;rw[Ago];refine⟨_,rfl,λV=>?_⟩;simp only[Agu]at V;obtain⟨⟨d,a⟩,b⟩:=V;exact⟨λV=>absurd V k0,λ_=>⟨MJ a,MC b⟩,λV=>Ω⟩
  by_cases g:l.H=1
  ·rw[show decide (l.H=1)=true by simp[g],Ago];exact o true (by simp[g])
  ·rw[show decide (l.H=1)=false by simp[g],Agq];exact o _ (by simp[g])
def Ve(N:Nat)(l:BG):Df (Fs N l):=by
 unfold Fs;exact Df.cond (λ_=>Df.mk _) λ_=>Df.cond (λ_=>Df.mk _) λ_=>Df.cond (λ_=>Df.mk _) λ_=>Df.cond (λ_=>Df.mk _) λ_=>Df.cond (λ_=>Df.mk _) λ_=>Df.mk _
def jY(m:18446744073709551616<N)(b:AF)(c:Ii b):∃v,FY N b=some v/\(v=true->∀l∈b.E,LA b l):=by
 have G:=c.pl;have H:=c.li;unfold FY;rcases KZ b.E.length (CY N b (Dv N)) (Dv N) (λi=>∀l,b.E[i]? =some l->LA b l) (λn k K=>by
  simp only[CY];rw[Ek K];rfl) (λn k K=>by
  simp only[CY];obtain⟨I,o,p⟩:=V8 m b.E[k];obtain⟨q,s⟩:=Ve N b.E[k];rw[ER K,Ago,BC K];simp only[Agm,Ow,SO N _ (show b.A.length<4611686018427387904 from Ω),Sm N b _ _ (show b.A.length<4611686018427387904 from Ω),o,s,HB,Mw,BA (show k<4611686018427387904 from Ω)];generalize d:(_|| !q)=B
  cases B
  ·simp only[Ahk,Ai1]at d;obtain⟨⟨⟨⟨⟨t,u⟩,w⟩,g⟩,x⟩,J⟩:=d;have y:=MC t;have z:=MC u;obtain⟨C,D,F⟩:=p x;refine .inr ⟨λl a=>?_,rfl⟩;have:l=b.E[k]:=by simpa[K]using a.symm
   rw[this];exact⟨y,⟨z.1,Ω⟩,Zu w,MC g,C,D,λg=>F Ω⟩
  ·exact .inl rfl) N 0 Ω (Agr _)with K|⟨hp,K⟩
 ·exact⟨false,K,λK=>by cases K⟩
 ·refine⟨true,K,λ_ l a=>?_⟩;obtain⟨i,j,rfl⟩:=Ake.1 a;exact hp i (Agr _) j _ (by simp[j])
def aH(N:Nat)(b:AF)(o to:Int)(c:to= -1\/(0<=to/\to<b.A.length)):Df (LM N b o to):=by
 unfold LM;refine Df.cond (λ_=>Df.mk _) λa=>?_;simp only[Ahd]at a;exact Df.bind (Df.ix Ω Ω) λ_ _=>Df.mk _
def ZF(w:1000<N)(b:AF)(m:Ii b)(o:∀p∈b.A,JV b p)(q:∀l∈b.E,LA b l):Df (IU N b):=by
 have y:=m.pl;have B:=m.li;have s:Df (EL N b):=by
  unfold EL;rcases KZ b.E.length (EJ N b (GE N)) (GE N) (λ_=>True) (λn k D=>by
   simp only[EJ];rw[Ek D];rfl) (λn k D=>by
   simp only[EJ];have a:=q b.E[k] (Agy D);obtain⟨x,t⟩:=Df.ix (l:=b.A) a.fr.1 a.fr.2;obtain⟨v,c⟩:=aH N b x.At (b.E[k]).C a.to;rw[ER D,Ago,BC D];simp only[Agm,t,c,BA (show k<4611686018427387904 from Ω)];have i:∃z,(cond (!v) (some true) ((cond (decide ((b.E[k]).H=4)) ((ix b.A (b.E[k]).C).bind λd=>some (decide (d.At≠x.At))) (some false)).bind λg=>some g))=some z:=by
    refine Df.cond (λ_=>Df.mk _) λ_=>Df.bind (Df.cond (λu=>?_) λ_=>Df.mk _) λ_ _=>Df.mk _;have j:(b.E[k]).H=4:=by simpa using u
    have:=(a.seep j).2.2.2.2.2;have:=a.to;exact Df.bind (Df.ix Ω Ω) λ_ _=>Df.mk _
   obtain⟨z,i⟩:=i;rw[i];simp only[Agm];cases z
   ·exact .inr ⟨trivial,rfl⟩
   ·exact .inl rfl) N 0 Ω (Agr _)with D|⟨_,D⟩
  ·exact⟨_,D⟩
  ·exact⟨true,D⟩
 unfold IU;rcases KZ b.A.length (EK N b (EL N b)) (EL N b) (λ_=>True) (λn k D=>by
   simp only[EK];rw[Ek D];rfl) (λn k D=>by
   simp only[EK];have a:=o b.A[k] (Agy D);obtain⟨v,c⟩:=aH N b (b.A[k]).At (b.A[k]).Ao a.down;rw[ER D,Ago,BC D];simp only[Agm,c,BA (show k<4611686018427387904 from Ω)];cases v
   ·exact .inl rfl
   ·exact .inr ⟨trivial,rfl⟩) N 0 Ω (Agr _)with D|⟨_,D⟩
 ·exact⟨_,D⟩
 ·obtain⟨v,c⟩:=s;exact⟨v,D.trans c⟩
def Xo{N:Nat}(d:18446744073709551616<N)(c:List B3)(g:JW c)(kj:Int->Option Int):∀(n:Nat)(s:Int)(k:Nat),c.length<n+k->1<=k->k<=c.length->∃s',Fq N c kj n s (k:Int)=kj s'
 |0,s,k,A,i,j=>Ω
 |n+1,s,k,A,i,j=>by
  obtain⟨l,m,b⟩:=g;simp only[Fq];rcases Ag7 k c.length with a|a
  ·have o:BO ((k:Int)-1)=((k-1:Nat):Int):=by rw[D6 Ω Ω];omega
   rw[ER a,Ago,o,BC a,BC (show k-1<c.length from Ω)];simp only[Agm,BA (show k<4611686018427387904 from Ω)];obtain⟨p,q,t⟩:=b k c[k] (by simp[a]);obtain⟨u,w,_⟩:=b (k-1) c[k-1] (by simp[show k-1<c.length from Ω]);obtain⟨y,z⟩:=t c[k-1] Ω (by simp[show k-1<c.length from Ω]);unfold KW at p q u w;obtain⟨v,x⟩:=Ol d (num:=BO ((c[k]).X-(c[k-1]).X)) (den:=BO ((c[k]).R-(c[k-1]).R)) (by rw[D6 Ω Ω];omega) (by rw[D6 Ω Ω];omega) (by rw[D6 Ω Ω];omega);rw[x];exact Xo d c ⟨l,m,b⟩ kj n _ (k+1) Ω Ω Ω
  ·rw[Ek a];exact⟨s,rfl⟩
def iD(d:18446744073709551616<N)(cs:List (List B3))(m:cs.length<=3)(g:∀c∈cs,JW c):Df (KP N cs):=by
 unfold KP;have:∀(n:Nat)(s:Int)(k:Nat),cs.length<n+k->k<=cs.length->Df (Dx N cs (E5 N) n s (k:Int)):=by
  intro n
  induction n with
  |zero=>intro s k o i;omega
  |succ n j=>
   intro s k o i;simp only[Dx];rcases Ag7 k cs.length with a|a
   ·rw[ER a,Ago,BC a];simp only[Agm];have b:=g cs[k] (Agy a);obtain⟨s',e⟩:=Xo d cs[k] b (Gn N (k:Int) (Dx N cs (E5 N) n)) N s 1 (by have:=b.2.1;omega) Ω b.1;have l:Fq N cs[k] (Gn N (k:Int) (Dx N cs (E5 N) n)) N s 1=_:=e;rw[l];unfold Gn;rw[BA (show k<4611686018427387904 from Ω)];exact j s' (k+1) Ω Ω
   ·rw[Ek a];exact Df.mk _
 exact this N 0 0 Ω (Agr _)
def M0{α}(l:List α)(i:Int)(x:α):(upd l i x).length=l.length:=by simp[upd]
def Abv(a:1000<N)(l:xq)(b:l.length<=64):Df (DM N l):=by
 unfold DM;rcases KZ l.length (EZ N l (Ge N)) (Ge N) (λ_=>True) (λn k c=>by
  simp only[EZ];rw[Ek c];rfl) (λn k c=>by
  simp only[EZ];rw[ER c,Ago,BC c];simp only[Agm,BA (show k<4611686018427387904 from Ω)];cases decide (1099511627776<l[k])
  ·exact .inr ⟨trivial,rfl⟩
  ·exact .inl rfl) N 0 Ω (Agr _)with c|⟨_,c⟩
 ·exact⟨_,c⟩
 ·exact⟨true,c⟩
def sU{N:Nat}(o:18446744073709551616<N)(b:AF)(t:Ii b)(G:∀l∈b.E,LA b l)(kj:xq->Option Bool):∀(n:Nat)(k:Nat)(s:xq),s.length=b.A.length->b.E.length<n+k->k<=b.E.length->∃s',s'.length=b.A.length/\B7 N b kj n (k:Int) s=kj s'
 |0,k,s,a,h,Q=>Ω
 |n+1,k,s,a,h,Q=>by
  have q3:=t.pl;have q4:=t.li;simp only[B7];rcases Ag7 k b.E.length with g|g
  ·rw[ER g,Ago,BC g];simp only[Agm];have d:=G b.E[k] (Agy g);generalize b.E[k]=l at d
   have p:∀s:xq,s.length=b.A.length->∃s',s'.length=b.A.length/\C0 N (k:Int) (B7 N b kj n) s=kj s':=λs a=>by
    unfold C0;rw[BA (show k<4611686018427387904 from Ω)];exact sU o b t G kj n (k+1) s a Ω Ω
   obtain⟨x,u⟩:=Df.ix (l:=s) d.fr.1 (by rw[a];exact d.fr.2);have w:∀c:Bool,(c=true->l.H=1\/l.H=5\/l.H=3)->∃s',s'.length=b.A.length/\Eb N s l (C0 N (k:Int) (B7 N b kj n)) c=kj s':=λc g=>by
    unfold Eb;cases c
    ·rw[Agq];by_cases y:l.H=4
     ·rw[show decide (l.H=4)=true by simp[y],Ago];obtain⟨z,U,V,W,I,h6⟩:=d.seep y;obtain⟨v,q⟩:=Ol o z.1 (show 0<=l.T from Ω) Ω;obtain⟨X,j⟩:=Ol o W.1 I.1 (show l.Al<=_ by have:=I.2;omega);have B:=d.to;obtain⟨Y,m⟩:=Df.ix (l:=upd s l.J (BO (x+BO (2*v)))) (i:=l.C) Ω (by rw[M0,a];omega);simp only[u,q,m,j,Agm];exact p _ (by rw[M0,M0,a])
     ·rw[show decide (l.H=4)=false by simp[y],Agq];exact p s a
    ·rw[Ago];obtain⟨z,U,V⟩:=d.part (g rfl);obtain⟨v,q⟩:=Ol o z.1 (show 0<=l.T from Ω) Ω;simp only[u,q,Agm];exact p _ (by rw[M0,a])
   by_cases k0:l.H=0
   ·rw[show decide (l.H=0)=true by simp[k0],Ago];obtain⟨Z,c2,c3,c4,K⟩:=d.gate k0;obtain⟨v,q⟩:=iD o [l.As,l.Ae.Aw,l.Ae.Ax] (by simp) (by simp[Z,c2,c3]);simp only[u,q,Agm];by_cases M:l.C= -1
    ·rw[show decide (l.C≠ -1)=false by simp[M],Agq];exact p _ (by rw[M0,a])
    ·rw[show decide (l.C≠ -1)=true by simp[M],Ago];have B:=d.to;obtain⟨Y,m⟩:=Df.ix (l:=upd s l.J (BO (x+v))) (i:=l.C) Ω (by rw[M0,a];omega);obtain⟨X,j⟩:=Ol o c4.1 K.1 (show l.Al<=_ by have:=K.2;omega);simp only[m,j,Agm];exact p _ (by rw[M0,M0,a])
   ·rw[show decide (l.H=0)=false by simp[k0],Agq];by_cases D:l.H=1
    ·rw[show decide (l.H=1)=true by simp[D],Ago];exact w true λ_=> .inl D
    ·rw[show decide (l.H=1)=false by simp[D],Agq];by_cases F:l.H=5
     ·rw[show decide (l.H=5)=true by simp[F],Ago];exact w true λ_=> .inr (.inl F)
     ·rw[show decide (l.H=5)=false by simp[F],Agq];exact w _ λh=> .inr (.inr (by simpa using h))
  ·rw[Ek g];exact⟨s,a,rfl⟩
def cQ(m:18446744073709551616<N)(b:AF)(c:Ii b)(q:∀p∈b.A,JV b p)(t:∀l∈b.E,LA b l):Df (Im N b):=by
 have F:=c.pl;have G:=c.li;unfold Im;rw[show ME (b.A.length:Int) (b.A.length:Int) 8=true by simp[ME];omega];simp only[chk,Ago];have u:∀(n:Nat)(k:Nat)(s:xq),s.length=b.A.length->b.A.length<n+k->k<=b.A.length->∃s',s'.length=b.A.length/\Ea N b (Ec N b) n (k:Int) s=Ec N b s':=by
  intro n
  induction n with
  |zero=>intro k s d I w;omega
  |succ n x=>
   intro k s d I w;simp only[Ea];rcases Ag7 k b.A.length with a|a
   ·have g:=q b.A[k] (Agy a);obtain⟨v,y⟩:=Ol m g.num.1 g.den.1 (by have:=g.den.2;omega);rw[ER a,Ago,BC a,BC (show k<s.length from Ω)];simp only[Agm,y,BA (show k<4611686018427387904 from Ω)];exact x (k+1) _ (by rw[M0,d]) Ω Ω
   ·rw[Ek a];exact⟨s,d,rfl⟩
 obtain⟨o,z,B⟩:=u N 0 (List.replicate ((b.A.length:Int):Int).toNat 0) (by simp) Ω (Agr _);have i:Ea N b (Ec N b) N 0 (List.replicate ((b.A.length:Int):Int).toNat 0)=_:=B;rw[i];unfold Ec;obtain⟨C,H,D⟩:=sU m b c t (DM N) N 0 o z Ω (Agr _);have j:B7 N b (DM N) N 0 o=_:=D;rw[j];exact Abv Ω C Ω
def kP(N:Nat)(n z:Int):GQ N n z=some (kN n 0 (BO (z-1))):=rfl
structure W8(b:AF)(t:Li):Prop where
 place:0<=t.Ap/\t.Ap<b.A.length
 flood:KW t.Bq
 lead:0<=t.Bo/\t.Bo<=24
 watch:KW t.Br
 quorum:0<=t.Bn/\t.Bn<=128
def gW(w:1000<N)(b:AF)(a:Ii b):∃v,JQ N b=some v/\(v=true->∀t∈b.Af,W8 b t):=by
 have x:=a.pl;have y:=a.to;have z:=a.sh;have j:Df (Eu N b):=by
  unfold Eu;rcases KZ b.Ak.length (Es N b (G2 N)) (G2 N) (λ_=>True) (λn k D=>by
   simp only[Es];rw[Ek D];rfl) (λn k D=>by
   simp only[Es];rw[ER D,Ago,BC D];simp only[Agm,Ow,BA (show k<4611686018427387904 from Ω)];cases kN (b.Ak[k]).Aj 0 1073741824
   ·exact .inl rfl
   ·exact .inr ⟨trivial,rfl⟩) N 0 Ω (Agr _)with D|⟨_,D⟩
  ·exact⟨_,D⟩
  ·exact⟨true,D⟩
 unfold JQ;rcases KZ b.Af.length (Et N b (Eu N b)) (Eu N b) (λi=>∀t,b.Af[i]? =some t->W8 b t) (λn k D=>by
  simp only[Et];rw[Ek D];rfl) (λn k D=>by
  simp only[Et];rw[ER D,Ago,BC D];simp only[Agm,Ow,NV,SO N _ (show b.A.length<4611686018427387904 from Ω),HB,Mw,BA (show k<4611686018427387904 from Ω)];generalize d:(_|| !kN (b.Af[k]).Bn 0 128)=B
  cases B
  ·simp only[Ahk,Ai1]at d;obtain⟨⟨⟨⟨⟨l,m⟩,o⟩,C⟩,p⟩,q⟩:=d;refine .inr ⟨λt c=>?_,rfl⟩;have:t=b.Af[k]:=by simpa[D]using c.symm
   rw[this];have s:=MC l;exact⟨⟨s.1,Ω⟩,MJ m,MC o,MJ p,MC q⟩
  ·exact .inl rfl) N 0 Ω (Agr _)with D|⟨hp,D⟩
 ·exact⟨false,D,λD=>by cases D⟩
 ·obtain⟨v,u⟩:=j;refine⟨v,D.trans u,λ_ t c=>?_⟩;obtain⟨i,g,rfl⟩:=Ake.1 c;exact hp i (Agr _) g _ (by simp[g])
def dM(j:1000<N)(b:AF)(c:Ii b):Df (In N b):=by
 have m:=c.ga;unfold In;rcases KZ b.Ah.length (Ed N b (Gf N)) (Gf N) (λ_=>True) (λn k o=>by
  simp only[Ed];rw[Ek o];rfl) (λn k o=>by
  simp only[Ed];rw[ER o,Ago,BC o];simp only[Agm,Ow,kP,HB,Mw,BA (show k<4611686018427387904 from Ω)];generalize a:(_|| !kN (b.Ah[k]).Bs 0 1440)=B
  cases B
  ·simp only[Ahk,Ai1]at a;have d:=MC a.1.1;obtain⟨z,g⟩:=Df.ix (l:=[(b.A.length:Int),b.L,(b.E.length:Int)]) (i:=(b.Ah[k]).H) d.1 (by simp;omega);rw[g];simp only[Agq,Agm];cases kN (b.Ah[k]).Aa 0 (BO (z-1))
   ·exact .inl rfl
   ·exact .inr ⟨trivial,rfl⟩
  ·exact .inl rfl) N 0 Ω (Agr _)with o|⟨_,o⟩
 ·exact⟨_,o⟩
 ·exact⟨true,o⟩
def iZ(d:1000<N)(b:AF)(a:Ii b):Df (JR N b):=by
 have g:=a.ro;unfold JR;rcases KZ b.Ai.length (Ev N b (G3 N)) (G3 N) (λ_=>True) (λn k i=>by
  simp only[Ev];rw[Ek i];rfl) (λn k i=>by
  simp only[Ev];rw[ER i,Ago,BC i];simp only[Agm,Ow,NV,kP,HB,Mw,Rh,BA (show k<4611686018427387904 from Ω)];generalize (_|| !VN (b.Ai[k]).Bl)=B
  cases B
  ·simp only[Agq];generalize ((decide ((b.Ai[k]).Bj= -1)&&decide ((b.Ai[k]).Bl≠0))||_)=c
   cases c
   ·exact .inr ⟨trivial,rfl⟩
   ·exact .inl rfl
  ·exact .inl rfl) N 0 Ω (Agr _)with i|⟨_,i⟩
 ·exact⟨_,i⟩
 ·exact⟨true,i⟩
structure Kw(b:AF):Prop where
 head:Ii b
 places:∀p∈b.A,JV b p
 links:∀l∈b.E,LA b l
 towns:∀t∈b.Af,W8 b t
def chainB{b:Bool}{x:Option Bool}(Q:Prop)(i:b=true->∃v,x=some v/\(v=true->Q))(k:∀c,(c=true->b=true/\Q)->G (f c)):G ((cond b (x.bind λy=>some y) (some false)).bind f):=by
 cases b
 ·exact k false λi=>by cases i
 ·obtain⟨v,a,d⟩:=i rfl;rw[a];exact k v λg=>⟨rfl,d g⟩
def Df.q{x:Option Bool}(b:Df x):∃v,x=some v/\(v=true->True):=by obtain⟨v,a⟩:=b;exact⟨v,a,λ_=>trivial⟩
def Xy(s:18446744073709551616<N)(b:AF):∃v,HA N b=some v/\(v=true->Kw b):=by
 have a:1000<N:=Ω
 unfold HA;obtain⟨F,z,k⟩:=pF a b;rw[z];simp only[Agm];refine chainB True (G:=λx=>∃v,x=some v/\(v=true->Kw b)) (λQ=>(jO a (k Q)).q) λH u=>?_;refine chainB (∀p∈b.A,JV b p) (G:=λx=>∃v,x=some v/\(v=true->Kw b)) (λQ=>dB a b (k (u Q).1)) λB w=>?_;have m:B=true->Ii b/\∀p∈b.A,JV b p:=λQ=>⟨k (u (w Q).1).1,(w Q).2⟩
 refine chainB (∀l∈b.E,LA b l) (G:=λx=>∃v,x=some v/\(v=true->Kw b)) (λQ=>jY s b (m Q).1) λC n=>?_;have c:C=true->Ii b/\(∀p∈b.A,JV b p)/\∀l∈b.E,LA b l:=λQ=>⟨(m (n Q).1).1,(m (n Q).1).2,(n Q).2⟩
 refine chainB True (G:=λx=>∃v,x=some v/\(v=true->Kw b)) (λQ=>(ZF a b (c Q).1 (c Q).2.1 (c Q).2.2).q) λI g=>?_;refine chainB True (G:=λx=>∃v,x=some v/\(v=true->Kw b)) (λQ=>(cQ s b (c (g Q).1).1 (c (g Q).1).2.1 (c (g Q).1).2.2).q) λJ i=>?_;refine chainB (∀t∈b.Af,W8 b t) (G:=λx=>∃v,x=some v/\(v=true->Kw b)) (λQ=>gW a b (c (g (i Q).1).1).1) λK j=>?_;refine chainB True (G:=λx=>∃v,x=some v/\(v=true->Kw b)) (λQ=>(dM a b (c (g (i (j Q).1).1).1).1).q) λM o=>?_;refine chainB True (G:=λx=>∃v,x=some v/\(v=true->Kw b)) (λQ=>(iZ a b (c (g (i (j (o Q).1).1).1).1).1).q) λD y=>?_;refine⟨D,rfl,λQ=>?_⟩;have d:=c (g (i (j (o (y Q).1).1).1).1).1;exact⟨d.1,d.2.1,d.2.2,(j (o (y Q).1).1).2⟩
def EO{σ q:Type}(L:Nat)(f:Nat->Int->σ->Option q)(kj:σ->Option q)(I:Nat->σ->Prop)(a:∀n (k:Nat) s,L<=k->f (n+1) (k:Int) s=kj s)(b:∀n (k:Nat) s,I k s->k<L->∃s',I (k+1) s'/\f (n+1) (k:Int) s=f n ((k+1:Nat):Int) s'):
  ∀n (k:Nat) s,I k s->L<n+k->k<=L->∃s',I L s'/\f n (k:Int) s=kj s'
 |0,k,s,_,t,g=>Ω
 |n+1,k,s,d,t,g=>by
  rcases Ag7 k L with c|c
  ·obtain⟨i,j,l⟩:=b n k s d c;obtain⟨m,o,p⟩:=EO L f kj I a b n (k+1) i j Ω Ω;exact⟨m,o,l.trans p⟩
  ·have:k=L:=Ω
   subst this;exact⟨s,d,a n k s c⟩
def M3{σ l:Type}(L:Nat)(f:Nat->Int->σ->Option l)(kj:σ->Option l)(c:Option l)(I:Nat->σ->Prop)(a:∀n (k:Nat) s,L<=k->f (n+1) (k:Int) s=kj s)(b:∀n (k:Nat) s,I k s->k<L->f (n+1) (k:Int) s=c\/∃s',I (k+1) s'/\f (n+1) (k:Int) s=f n ((k+1:Nat):Int) s'):
  ∀n (k:Nat) s,I k s->L<n+k->k<=L->f n (k:Int) s=c\/∃s',I L s'/\f n (k:Int) s=kj s'
 |0,k,s,_,m,j=>Ω
 |n+1,k,s,i,m,j=>by
  rcases Ag7 k L with d|d
  ·rcases b n k s i d with h0|⟨s1,i1,h1⟩
   ·exact .inl h0
   ·rcases M3 L f kj c I a b n (k+1) s1 i1 Ω Ω with g|⟨s2,i2,g⟩
    ·exact .inl (h1.trans g)
    ·exact .inr ⟨s2,i2,h1.trans g⟩
  ·have:k=L:=Ω
   subst this;exact .inr ⟨s,i,a n k s d⟩
def YD(L:Nat)(f:Nat->Int->Option Bool)(kj:Option Bool)(c:Nat->Bool)(a:∀n (k:Nat),L<=k->f (n+1) (k:Int)=kj)(b:∀n (k:Nat),k<L->f (n+1) (k:Int)=cond (c k) (f n ((k+1:Nat):Int)) (some false)):
  ∀n (k:Nat),L<n+k->k<=L->((∀i,k<=i->i<L->c i=true)/\f n (k:Int)=kj)\/((∃i,k<=i/\i<L/\c i=false)/\f n (k:Int)=some false)
 |0,k,s,p=>Ω
 |n+1,k,s,p=>by
  rcases Ag7 k L with j|j
  ·have d:=b n k j;cases l:c k with
   |false=>rw[l]at d;exact .inr ⟨⟨k,Ag5 _,j,l⟩,d⟩
   |true=>
    rw[l]at d;rcases YD L f kj c a b n (k+1) Ω Ω with⟨o,m⟩|⟨⟨i,o,m,h4⟩,h5⟩
    ·refine .inl ⟨λi q g=>?_,d.trans m⟩;by_cases e:i=k
     ·subst e;exact l
     ·exact o i Ω g
    ·exact .inr ⟨⟨i,Ω,m,h4⟩,d.trans h5⟩
  ·exact .inl ⟨λi q g=>Ω,a n k j⟩
def LZ{l:xq}(a:k<l.length):(l.take (k+1)).sum=(l.take k).sum+l[k]:=by
 rw[Ah8 a,Ah9];simp
def KX:∀{l:xq},(∀x∈l,0<=x)->0<=l.sum
 |[],_=>by simp
 |a::l,g=>by
  have c:=g a (Ahf ..);have d:=KX (l:=l) λx b=>g x (Aht _ b);simp only[Ahs];omega
def KU{l:xq}(g:∀x∈l,0<=x)(k:Nat):0<=(l.take k).sum/\(l.take k).sum<=l.sum:=by
 have b:=KX (l:=l.take k) λx a=>g x (Ajn a);have c:=KX (l:=l.drop k) λx a=>g x (List.mem_of_mem_drop a);have d:(l.take k).sum+(l.drop k).sum=l.sum:=by rw[<-Ah9,List.take_append_drop]
 omega
def TH(N:Nat){a b:Int}(l: -4611686018427387903<=a)(m:a<=4611686018427387903)(n: -4611686018427387903<=b)(o:b<=4611686018427387903):Hb N a b=some (a+b):=by
 unfold Hb;have d:BO (a+b)=a+b:=D6 Ω Ω;by_cases p:0<b
 ·have i:BO (9223372036854775807-b)=9223372036854775807-b:=D6 Ω Ω;rw[i,d];have g:decide (9223372036854775807-b<a)=false:=by simp;omega
  have c:decide (b<0)=false:=by simp;omega
  rw[g,c];simp
 ·have g:decide (0<b)=false:=by simp;omega
  rw[g];by_cases j:b<0
  ·have k:BO (-9223372036854775808-b)= -9223372036854775808-b:=D6 Ω Ω;have c:decide (a< -9223372036854775808-b)=false:=by simp;omega
   rw[k,d,c];simp
  ·have c:decide (b<0)=false:=by simp;omega
   rw[c,d];simp
def iB(N:Nat){a b:Int}(l: -4611686018427387903<=a)(m:a<=4611686018427387903)(n: -4611686018427387903<=b)(o:b<=4611686018427387903):H3 N a b=some (a-b):=by
 unfold H3;have d:BO (a-b)=a-b:=D6 Ω Ω;by_cases p:b<0
 ·have i:BO (9223372036854775807+b)=9223372036854775807+b:=D6 Ω Ω;have g:decide (9223372036854775807+b<a)=false:=by simp;omega
  have c:decide (0<b)=false:=by simp;omega
  rw[i,d,g,c];simp
 ·have g:decide (b<0)=false:=by simp;omega
  rw[g];by_cases j:0<b
  ·have k:BO (-9223372036854775808+b)= -9223372036854775808+b:=D6 Ω Ω;have c:decide (a< -9223372036854775808+b)=false:=by simp;omega
   rw[k,d,c];simp
  ·have c:decide (0<b)=false:=by simp;omega
   rw[c,d];simp
def M1{α}{l:List α}(d:k<l.length){P:α->Prop}(b:∀x∈l.take k,P x)(c:P l[k]):∀x∈l.take (k+1),P x:=by
 intro x a;rw[Ah8 d,Ahi]at a;rcases a with a|a
 ·exact b x a
 ·simp only[Aho]at a;subst a;exact c
def MB{α}{f:α->Int}{l:List α}(a:k<l.length):((l.take (k+1)).map f).sum=((l.take k).map f).sum+f l[k]:=by
 rw[Ah8 a,Ah5,Ah9];simp
def T4{α}{f:α->Int}{l:List α}(c:∀x∈l,0<=f x):0<=(l.map f).sum:=KX λy a=>by
 obtain⟨x,b,rfl⟩:=Ahr.1 a;exact c x b
def Fu{n:Nat}(c:n*a<=175921860444160){α}(x:Option α)(b:a<=274877906944:=by decide):chk (HN n a) x=x:=by
 unfold chk HN;rw[Ag8 c,Ag8 b,Bool.and_self,Bool.or_true];rfl
def M2{g:Type}(L:Nat)(f:Nat->Int->Option g)(kj:Option g)(a:∀n (k:Nat),L<=k->f (n+1) (k:Int)=kj)(b:∀n (k:Nat),k<L->f (n+1) (k:Int)=f n ((k+1:Nat):Int)):
  ∀n (k:Nat),L<n+k->k<=L->f n (k:Int)=kj
 |0,k,i,d=>Ω
 |n+1,k,i,d=>by
  rcases Ag7 k L with c|c
  ·rw[b n k c];exact M2 L f kj a b n (k+1) Ω Ω
  ·exact a n k c
def ZX(N:Nat)(a b:Int):Df (Hb N a b):=by
 unfold Hb;exact Df.cond (λ_=>Df.mk _) λ_=>Df.cond (λ_=>Df.mk _) λ_=>Df.mk _
def UN(N:Nat)(a b:Int):Df (H3 N a b):=by
 unfold H3;exact Df.cond (λ_=>Df.mk _) λ_=>Df.cond (λ_=>Df.mk _) λ_=>Df.mk _
def Lu(b:k<=1000)(c:Nat)(a:c<=1000){α}(x:Option α):chk (ME (k:Int) (k:Int) c) x=x:=by
 have:ME (k:Int) (k:Int) c=true:=by
  simp only[ME,Agu,Ahb];refine⟨⟨Ω,Ω⟩,?_⟩;have:(c:Int)*(k:Int)<=1000*1000:=Int.mul_le_mul Ω Ω Ω Ω;omega
 rw[this];rfl
def Aga{α}{l:List α}{i:Nat}(a:i<l.length):∃x,ix l (i:Int)=some x/\x∈l:=⟨l[i],BC a,Agy a⟩
def qD{α}(l xs:List α):(Qp l xs).length=l.length:=by unfold Qp;simp;omega
def lR{α}{l xs:List α}(a:l.length=xs.length):Qp l xs=xs:=by
 unfold Qp;rw[a,Ahe,List.drop_of_length_le Ω,Ahz]
def PC(k:Nat)(z:Int):(List.replicate ((k:Int)).toNat z).length=k:=by simp
def SB{α}(k:Nat)(z:α):(List.replicate ((k:Int)).toNat z).length=k:=by simp
def Wx(p:xq):Qp (List.replicate ((p.length:Int)).toNat (0:Int)) p=p:=lR (by simp)
def Ni{α}(l:List α)(i:Int)(x:α):(upd l i x).length=l.length:=by simp[upd]
def Nq(N:Nat)(a:p.length<=1000000):BR N p=some p:=by
 unfold BR;rw[Fu (by simp;omega)];rfl
def ZP(N:Nat){p:List A8}(a:p.length<=1000000):By N p=some p:=by
 unfold By;rw[Fu (by simp;omega)];rfl
def jJ(l:8000000000000<N){q:xq}(m:p.length<=1000)(o:q.length<=1000):∃r,Hs N p q=some r/\r.length=max p.length q.length:=by
 unfold Hs;have c:max (p.length:Int) (q.length:Int)=((max p.length q.length:Nat):Int):=Ω
 rw[c,Lu Ω _ (by decide)];obtain⟨s,d,e⟩:=EO q.length (λn i s=>G7 N q (Iy N) n i s) (Iy N) (λ_ s=>s.length=max p.length q.length) (λn k s a=>by
  simp only[G7];rw[Ek a];rfl) (λn k s g a=>by
  simp only[G7];have b:k<s.length:=Ω
  obtain⟨v,j⟩:=ZX N s[k] q[k];rw[ER a,Ago,BC a];simp only[BC b,Agm];rw[j,Agm,BA Ω];exact⟨_,by rw[Ni];exact g,rfl⟩) N 0 (Qp (List.replicate (((max p.length q.length:Nat):Int)).toNat (0:Int)) p) (by rw[qD,PC]) Ω (Agr _)
 exact⟨s,e,d⟩
def dA(l:8000000000000<N)(m:p.length<=1000):∃v,Jv N p=some v/\(v=true->(∀x∈p,0<=x)/\p.sum<=1125899906842624):=by
 unfold Jv;rcases M3 p.length (λn i s=>Ff N p (H0 N) n s i) (λ_=>H0 N) (some false) (λk s=>(∀x∈p.take k,0<=x)/\s=(p.take k).sum/\s<=1125899906842624/\0<=s) (λn k s a=>by
  simp only[Ff];rw[Ek a];rfl) (λn k s d a=>by
  obtain⟨b,c,g,o⟩:=d;simp only[Ff];rw[ER a,Ago,BC a,Agm,D6 (n:=1125899906842624-s) Ω Ω];cases j:(decide (p[k]<0)||decide (1125899906842624-s<p[k]))
  ·simp only[Ahk,Ahd]at j;rw[Agq,BA Ω,D6 (n:=s+p[k]) Ω Ω];exact .inr ⟨_,⟨M1 a b Ω,by rw[LZ a,c],Ω,Ω⟩,rfl⟩
  ·exact .inl rfl) N 0 0 ⟨by simp,rfl,by decide,by decide⟩ Ω (Agr _)with e|⟨s,⟨b,c,g,_⟩,e⟩
 ·exact⟨false,e,λq=>by cases q⟩
 ·rw[Ahe]at b c;exact⟨true,e,λ_=>⟨b,Ω⟩⟩
def pL{t:Int}(hd:0<=d)(a:0<=n)(b:t<=t'):t*n/d<=t'*n/d:=by
 rcases Int.lt_or_eq_of_le hd with c|c
 ·exact Int.ediv_le_ediv c (Ajg b a)
 ·rw[<-c];simp
def YI{t:Int}(hd:0<=d)(a:0<=n)(b:0<=t):0<=t*n/d:=Int.ediv_nonneg (Int.mul_nonneg b a) hd
def kX{t:Int}(hd:0<=d)(b:n<=d)(a:0<=t):t*n/d<=t:=by
 rcases Int.lt_or_eq_of_le hd with h0|h0
 ·refine Int.ediv_le_of_le_mul h0 (Int.mul_le_mul_of_nonneg_left b a)
 ·rw[<-h0];simp[a]
def Aed(e:List B3):Prop:=∀k l r,e[k]? =some l->e[k+1]? =some r->l.R<r.R/\l.X<=r.X
def JW.vol(b:JW c){p:B3}(a:c[k]? =some p):KW p.R/\KW p.X:=⟨(b.2.2 k p a).1,(b.2.2 k p a).2.1⟩
def JW.step(d:JW c){p q:B3}(a:c[k]? =some p)(b:c[k+1]? =some q):p.R<q.R/\p.X<=q.X:=(d.2.2 (k+1) q b).2.2 p Ω a
def Aed.mono{e:List B3}(s:Aed e){i:Nat}:∀{j:Nat}{a b:B3},i<=j->e[i]? =some a->e[j]? =some b->a.R<=b.R/\a.X<=b.X/\(i<j->a.R<b.R)
 |j,a,b,l,g,d=>by
  rcases Ag7 i j with n|hge
  ·obtain⟨j,rfl⟩:∃m,j=m+1:=⟨j-1,Ω⟩
   have o:=(Ag0.1 d).1;obtain⟨c,k⟩:∃c,e[j]? =some c:=⟨e[j],by simp[show j<e.length from Ω]⟩
   have p:=Aed.mono s (j:=j) Ω g k;have q:=s j c b k d;exact⟨Ω,Ω,λ_=>Ω⟩
  ·have:i=j:=Ω
   subst this;rw[g]at d;cases d;exact⟨Ahq _,Ahq _,λs=>Ω⟩
structure Ad6(e:List B3)(x:Int)(k:Nat)(l r:B3):Prop where
 l_:e[k]? =some l
 r_:e[k+1]? =some r
 lo:l.R<=x
 hi:x<r.R
def Tl(l r:B3)(x:Int):Int:=l.X+(x-l.R)*(r.X-l.X)/(r.R-l.R)
def cL(l r:B3)(x:Int):Int:=(x-l.R)*(r.X-l.X)%(r.R-l.R)
def Ad6.bounds(m:Aed e){x:Int}(a:Ad6 e x k l r):l.X<=Tl l r x/\Tl l r x<=r.X:=by
 have b:=m k l r a.l_ a.r_;have c:=a.lo;have g:=a.hi;have i:=YI (t:=x-l.R) (n:=r.X-l.X) (d:=r.R-l.R) Ω Ω Ω;have j:(x-l.R)*(r.X-l.X)/(r.R-l.R)<=r.X-l.X:=by
  refine Int.ediv_le_of_le_mul Ω ?_;rw[Int.mul_comm];exact Int.mul_le_mul_of_nonneg_left Ω Ω
 unfold Tl;omega
def Ad6.mono(v:Aed e){x c:Int}{i:B3}(a:Ad6 e x k l r)(b:Ad6 e c g i r')(u:x<=c):Tl l r x<=Tl i r' c:=by
 rcases Nat.lt_trichotomy k g with m|heq|hgt
 ·have j:=v.mono (show k+1<=g from Ω) a.r_ b.l_;have o:=(a.bounds v).2;have p:=(b.bounds v).1;omega
 ·subst heq;have q:=a.l_.symm.trans b.l_;have s:=a.r_.symm.trans b.r_;cases q;cases s;have j:=v k l r a.l_ a.r_;have:=pL (t:=x-l.R) (t':=c-l.R) (n:=r.X-l.X) (d:=r.R-l.R) Ω Ω Ω;unfold Tl;omega
 ·have j:=v.mono (show g+1<=k from Ω) b.r_ a.l_;have o:=a.lo;have p:=b.hi;omega
def Afr(e:List B3)(s:Int):Prop:=∀k l r,e[k]? =some l->e[k+1]? =some r->(r.X-l.X)*1099511627776<=s*(r.R-l.R)
def Afr.mono{e:List B3}{s:Int}(t:Afr e s){i:Nat}:∀{j:Nat}{a b:B3},i<=j->e[i]? =some a->e[j]? =some b->(b.X-a.X)*1099511627776<=s*(b.R-a.R)
 |j,a,b,l,g,d=>by
  rcases Ag7 i j with n|hge
  ·obtain⟨j,rfl⟩:∃m,j=m+1:=⟨j-1,Ω⟩
   have o:=(Ag0.1 d).1;obtain⟨c,k⟩:∃c,e[j]? =some c:=⟨e[j],by simp[show j<e.length from Ω]⟩
   have p:=Afr.mono t (j:=j) Ω g k;have q:=t j c b k d;grind
  ·have:i=j:=Ω
   subst this;rw[g]at d;cases d;grind
def wI{a:Int}(b:0<=a/\a<=1125899906842624)(c:0<=n/\n<=1125899906842624)(g:1<=d/\d<=1125899906842624)(i:a*n/d<=1125899906842624):Aba a n d=(a*n/d,a*n%d,true):=by
 unfold Aba;rw[Agp ⟨b,c,g,i⟩]
def Rg(i:33<N)(o:JW c):Fo N c=some true:=by
 unfold Fo;have j:=o.1;have l:=o.2.1;rw[show(decide ((c.length:Int)<1)||decide (32<(c.length:Int)))=false by simp;omega,Agq];exact M2 c.length (Fm N c (IG N)) (IG N) (λn k a=>by
  simp only[Fm];rw[Ek a];rfl) (λn k a=>by
  have b:c[k]? =some c[k]:=by simp[a]
  have v:=o.vol b;unfold KW at v;simp only[Fm];rw[ER a,Ago,BC a,Agm,show(((decide ((c[k]).R<0)||decide (1125899906842624<(c[k]).R))||decide ((c[k]).X<0))||decide (1125899906842624<(c[k]).X))=false by simp only[Ahk,Ahd];omega,Agq,BA Ω];by_cases h0:k=0
  ·subst h0;rfl
  ·have d:c[k-1]? =some c[k-1]:=by simp
   have m:=o.step d (q:=c[k]) (by rw[show k-1+1=k from Ω];exact b);have g:BO ((k:Int)-1)=((k-1:Nat):Int):=by rw[D6 Ω Ω];omega
   rw[show decide ((0:Int)<(k:Int))=true by simp;omega,Ago,g,BC (show k-1<c.length from Ω)];simp only[Agm];rw[show decide ((c[k]).R<=(c[k-1]).R)=false by simp only[Ahd];omega,show decide ((c[k]).X<(c[k-1]).X)=false by simp only[Ahd];omega];rfl) N 0 Ω (Agr _)
def YE(l r:B3)(x:Int):Int:=l.X*(r.R-l.R)+(x-l.R)*(r.X-l.X)
def Vd(a:l.R<r.R)(x:Int):Tl l r x*(r.R-l.R)+cL l r x=YE l r x:=by
 have:=Int.ediv_mul_add_emod ((x-l.R)*(r.X-l.X)) (r.R-l.R);unfold Tl cL YE;grind
def Zn(a:l.R<r.R)(x:Int):0<=cL l r x/\cL l r x<r.R-l.R:=⟨Int.emod_nonneg _ Ω,Int.emod_lt_of_pos _ Ω⟩
def uJ(l r a r':B3)(x:Int):Prop:=YE l r x*(r'.R-a.R)<=YE a r' x*(r.R-l.R)
def uJ.mid{b:B3}{x u v:Int}(c:uJ l r b r' u)(d:uJ l r b r' v)(i:u<=x)(j:x<=v)(g:u<v):uJ l r b r' x:=by
 unfold uJ YE at*;have k:=Ajg c (show 0<=v-x from Ω);have m:=Ajg d (show 0<=x-u from Ω);refine Int.le_of_mul_le_mul_right (a:=v-u) ?_ Ω;grind
def uJ.val{c:B3}{x:Int}(z:uJ l r c r' x)(j:l.R<r.R)(g:c.R<r'.R):Tl l r x<=Tl c r' x:=by
 have k:=Vd j x;have n:=Vd g x;have o:=Zn j x;have p:=Zn g x;unfold uJ at z;rw[<-k,<-n]at z;refine Int.not_lt.1 λt=>?_;generalize Tl l r x=a at*
 generalize Tl c r' x=b at*
 generalize cL l r x=m at*
 generalize cL c r' x=q at*
 have s:0<r.R-l.R:=Ω
 have u:0<r'.R-c.R:=Ω
 generalize r.R-l.R=d at*
 generalize r'.R-c.R=i at*
 have v:(b+1)*(d*i)<=a*(d*i):=Ajg Ω (Int.mul_nonneg Ω Ω);have w:0<=m*i:=Int.mul_nonneg o.1 Ω;have y:q*d<i*d:=Int.mul_lt_mul_of_pos_right p.2 s;grind
def HO{α}{l:List α}(a:k<l.length)(x:α):(upd l (k:Int) x)[k]? =some x:=by
 simp[upd,a]
def JA{α}{l:List α}(a:k≠j)(x:α):(upd l (k:Int) x)[j]? =l[j]? :=by
 simp[upd,Aiu a]
def Gh(p q:xq):xq:=List.zipWith (· + ·) p q
def JZ(p q:xq):xq:=List.zipWith (· - ·) p q
def LY{q:xq}{W:Nat}(a:p.length=W)(b:q.length=W):(Gh p q).length=W:=by simp[Gh,a,b]
def Xd{q:xq}{W:Nat}(a:p.length=W)(b:q.length=W):(JZ p q).length=W:=by simp[JZ,a,b]
def I9:∀{p q:xq},p.length=q.length->(Gh p q).sum=p.sum+q.sum
 |[],[],_=>rfl
 |a::p,b::q,c=>by
  have:=I9 (p:=p) (q:=q) (by simpa using c);simp only[Gh,List.zipWith_cons_cons,Ahs]at this ⊢;omega
def UG:∀{p q:xq},p.length=q.length->(JZ p q).sum=p.sum-q.sum
 |[],[],_=>rfl
 |a::p,b::q,c=>by
  have:=UG (p:=p) (q:=q) (by simpa using c);simp only[JZ,List.zipWith_cons_cons,Ahs]at this ⊢;omega
structure PX(W:Nat)(p:xq):Prop where
 len:p.length=W
 nn:∀x∈p,0<=x
 mv:p.sum<=1125899906842624
def IC:∀{p:xq},(∀x∈p,0<=x)->∀x∈p,x<=p.sum
 |a::p,g,x,b=>by
  have h0:=KX (l:=p) λy c=>g y (Aht _ c);have d:=g a (Ahf ..);rw[Ahs];rcases Agv.1 b with rfl|b
  ·omega
  ·have:=IC (p:=p) (λy c=>g y (Aht _ c)) x b;omega
def PX.mem{W:Nat}(b:PX W p){x:Int}(a:x∈p):0<=x/\x<=1125899906842624:=⟨b.nn x a,Int.le_trans (IC b.nn x a) b.mv⟩
def PX.sum0{W:Nat}(a:PX W p):0<=p.sum:=KX a.nn
def Qf{q:xq}(d:∀x∈p,0<=x)(g:∀x∈q,0<=x):∀x∈Gh p q,0<=x:=λx j=>by
 obtain⟨i,c⟩:=Aio.1 j;rw[Gh,Aiv]at c;split at c
 ·rename_i a b k l;have:=d a (Ahx k);have:=g b (Ahx l);cases c;omega
 ·cases c
def PX.add{W:Nat}{q:xq}(a:PX W p)(b:PX W q)(c:p.sum+q.sum<=1125899906842624):PX W (Gh p q):=
 ⟨LY a.len b.len,Qf a.nn b.nn,by rw[I9 (a.len.trans b.len.symm)];exact c⟩
def PX.zero(W:Nat):PX W (List.replicate W 0):=⟨by simp,λx a=>by rw[(List.mem_replicate.1 a).2];exact Ahq 0,by simp⟩
def Z8(W:Nat):(List.replicate W (0:Int)).sum=0:=by simp
structure Yq(t p:xq):Prop where
 len:t.length=p.length
 le:∀(i:Nat)(x y:Int),t[i]? =some x->p[i]? =some y->0<=x/\x<=y
def Yq.sub{W:Nat}(z:Yq t p)(j:PX W p):PX W (JZ p t)/\(JZ p t).sum=p.sum-t.sum/\PX W t:=by
 have n:t.length=W:=z.len.trans j.len;have d:∀x∈t,0<=x:=λx k=>by
  obtain⟨i,c⟩:=Aio.1 k;have l:=(Ag0.1 c).1;have m:i<p.length:=by rw[<-z.len];exact l
  exact(z.le i x _ c (Agw m)).1
 have o:=UG (p:=p) (q:=t) z.len.symm;have g:∀x∈JZ p t,0<=x:=λx k=>by
  obtain⟨i,c⟩:=Aio.1 k;rw[JZ,Aiv]at c;split at c
  ·rename_i a b s u;have:=z.le i b a u s;cases c;omega
  ·cases c
 have v:=KX g;have w:=KX d;have y:=j.mv;exact⟨⟨Xd j.len n,g,Ω⟩,o,n,d,Ω⟩
def cK{W:Nat}(d:p.length=W)(g:t.length=W)(j:∀x∈t,x=0):JZ p t=p:=by
 apply Ah1;intro i;rw[JZ,Aiv];rcases Ag7 i W with b|b
 ·have c:i<p.length:=Ω
  have a:i<t.length:=Ω
  rw[Agw c,Agw a];have:=j _ (Agy a);simp[this]
 ·rw[Ahj (show p.length<=i from Ω)]
def XY:∀{t:xq},(∀x∈t,0<=x)->t.sum<=0->∀x∈t,x=0:=λ{t} g b x a=>by
 have c:=IC g x a;have d:=g x a;omega
def R4(j:8000000000000<N)(l:p.length<=1000)(h0:∀x∈p,0<=x)(m:p.sum<=2305843009213693952):Dr N p=some p.sum:=by
 unfold Dr;obtain⟨s,⟨b,c⟩,e⟩:=EO p.length (λn i s=>H1 N p (Jp N) n s i) (Jp N) (λk s=>s=(p.take k).sum/\0<=s) (λn k s a=>by
  simp only[H1];rw[Ek a];rfl) (λn k s d a=>by
  obtain⟨b,c⟩:=d;have g:=KU h0 (k+1);have o:=KU h0 k;have q:=h0 _ (Agy a);rw[LZ a]at g;simp only[H1];rw[ER a,Ago,BC a,Agm,TH N Ω Ω Ω Ω,Agm,BA Ω];exact⟨_,⟨by rw[LZ a,b],Ω⟩,rfl⟩) N 0 0 ⟨rfl,Ahq _⟩ Ω (Agr _)
 rw[Ahe]at b;subst b;exact e
def Wi(y:8000000000000<N){q:xq}(t:p.length<=1000)(z:q.length=p.length)(u:∀x∈p, -2305843009213693952<=x/\x<=2305843009213693952)(v:∀x∈q, -2305843009213693952<=x/\x<=2305843009213693952):Hs N p q=some (Gh p q):=by
 unfold Hs;have w:max (p.length:Int) (q.length:Int)=(p.length:Int):=Ω
 rw[w,Lu t _ (by decide),Wx];obtain⟨s,⟨o,j,l⟩,e⟩:=EO q.length (λn i s=>G7 N q (Iy N) n i s) (Iy N) (λk s=>s.length=p.length/\(∀i,k<=i->s[i]? =p[i]?)/\∀i,i<k->s[i]? =(Gh p q)[i]?) (λn k s c=>by
  simp only[G7];rw[Ek c];rfl) (λn k s g c=>by
  obtain⟨o,j,l⟩:=g;simp only[G7];have a:k<s.length:=Ω
  have b:k<p.length:=Ω
  have m:s[k]=p[k]:=by
   have:=j k (Ag5 _);rw[Agw a,Agw b]at this;exact Ags this
  have A:=u _ (Agy b);have B:=v _ (Agy c);rw[ER c,Ago,BC c,Agm,BC a,Agm,Agm,m,TH N Ω Ω Ω Ω,Agm,Agm,Agm,BA Ω];refine⟨_,⟨by rw[Ni];exact o,λi g=>by rw[JA Ω];exact j i Ω,λi g=>?_⟩,rfl⟩;by_cases d:k=i
  ·subst d;rw[HO a,Gh,Aiv,Agw b,Agw c]
  ·rw[JA d];exact l i Ω) N 0 p ⟨rfl,λi _=>rfl,λi g=>Ω⟩ Ω (Agr _)
 have:s=Gh p q:=Ah1 λi=>by
  rcases Ag7 i q.length with C|C
  ·exact l i C
  ·rw[Ahj Ω,Ahj (by simp[Gh];omega)]
 subst this;exact e
def Yt(w:8000000000000<N)(q:p.length<=1000)(y:t.length=p.length)(u:∀x∈p, -2305843009213693952<=x/\x<=2305843009213693952)(v:∀x∈t, -2305843009213693952<=x/\x<=2305843009213693952):JK N p t=some (JZ p t):=by
 unfold JK;rw[Lu q _ (by decide),Wx];obtain⟨s,⟨o,j,l⟩,e⟩:=EO t.length (λn i s=>Gu N t (Ia N) n i s) (Ia N) (λk s=>s.length=p.length/\(∀i,k<=i->s[i]? =p[i]?)/\∀i,i<k->s[i]? =(JZ p t)[i]?) (λn k s c=>by
  simp only[Gu];rw[Ek c];rfl) (λn k s g c=>by
  obtain⟨o,j,l⟩:=g;simp only[Gu];have a:k<s.length:=Ω
  have b:k<p.length:=Ω
  have m:s[k]=p[k]:=by
   have:=j k (Ag5 _);rw[Agw a,Agw b]at this;exact Ags this
  have z:=u _ (Agy b);have A:=v _ (Agy c);rw[ER c,Ago,BC c,Agm,BC a,Agm,Agm,Agm,Agm,m,D6 (n:=p[k]-t[k]) Ω Ω,BA Ω];refine⟨_,⟨by rw[Ni];exact o,λi g=>by rw[JA Ω];exact j i Ω,λi g=>?_⟩,rfl⟩;by_cases d:k=i
  ·subst d;rw[HO a,JZ,Aiv,Agw b,Agw c]
  ·rw[JA d];exact l i Ω) N 0 p ⟨rfl,λi _=>rfl,λi g=>Ω⟩ Ω (Agr _)
 have:s=JZ p t:=Ah1 λi=>by
  rcases Ag7 i t.length with B|B
  ·exact l i B
  ·rw[Ahj Ω,Ahj (by simp[JZ];omega)]
 subst this;exact e
def PX.big{W:Nat}(b:PX W p):∀x∈p, -2305843009213693952<=x/\x<=2305843009213693952:=λx a=>by
 have:=b.mem a;omega
def PX.total{W:Nat}(a:8000000000000<N)(b:W<=1000)(c:PX W p):Dr N p=some p.sum:=R4 a (by rw[c.len];exact b) c.nn (by have:=c.mv;omega)
def PX.padd{W:Nat}(c:8000000000000<N)(d:W<=1000){q:xq}(a:PX W p)(b:PX W q):Hs N p q=some (Gh p q):=Wi c (by rw[a.len];exact d) (b.len.trans a.len.symm) a.big b.big
def PX.wo{W:Nat}(c:8000000000000<N)(d:W<=1000)(a:PX W p)(b:PX W t):JK N p t=some (JZ p t):=Yt c (by rw[a.len];exact d) (b.len.trans a.len.symm) a.big b.big
def O8:∀{l:xq}{i:Nat}(b:i<l.length)(x:Int),(l.set i x).sum=l.sum-l[i]+x
 |a::l,0,_,x=>by simp;omega
 |a::l,i+1,b,x=>by
  have:=O8 (l:=l) (i:=i) (by simpa using b) x;simp only[List.set_cons_succ,Ahs,List.getElem_cons_succ,this];omega
def pK{W:Nat}(A:8000000000000<N)(v:W<=1000)(a:PX W p)(o n:Int):∃t,NM N p o n=some (t,JZ p t)/\Yq t p/\(t=List.replicate W 0\/∃i:Nat,o=(i:Int)/\i<W/\0<n/\0<p.getD i 0/\t=(List.replicate W 0).set i (min n (p.getD i 0)))/\((∃i:Nat,o=(i:Int)/\i<W/\0<n)->t=(List.replicate W 0).set o.toNat (min n (p.getD o.toNat 0))):=by
 have d:Yq (List.replicate W 0) p:=⟨by simp[a.len],λi x y b g=>by
  rw[Aiy]at b;split at b
  ·cases b;exact⟨Ahq _,a.nn y (Ahx g)⟩
  ·cases b⟩
 have q:∀t,Yq t p->KK N p t=some (t,JZ p t):=λt B=>by
  unfold KK;rw[a.wo A v (B.sub a).2.2,Agm]
 have C:List.replicate ((p.length:Int)).toNat (0:Int)=List.replicate W 0:=by rw[a.len];rfl
 unfold NM Lw;rw[Lu (by rw[a.len];exact v) _ (by decide),C];by_cases D:0<=o/\o<W
 ·obtain⟨i,rfl⟩:∃i:Nat,o=i:=⟨o.toNat,Ω⟩
  have c:i<p.length:=by rw[a.len];omega
  have s:p.getD i 0=p[i]:=by simp[Ahc,c]
  have h0:=a.nn _ (Agy c);rw[Agx (show ¬(i:Int)<0 from Ω),Agx (show ¬(p.length:Int)<=(i:Int)from Ω),Bool.or_self,Agq,BC c,Agm,Agm,Agx (show ¬p[i]<0 from Ω),Agq,Agm,Agm];rw[Ahl,s];by_cases w:0<min n p[i]
  ·rw[Ag8 w,Ago,BC (show i<(List.replicate W (0:Int)).length by simp;omega),Agm,Agm];have z:Yq ((List.replicate W (0:Int)).set i (min n p[i])) p:=⟨by simp[a.len],λj x y b g=>by
    by_cases l:i=j
    ·subst l;rw[Aiz (by simp;omega)]at b;rw[Agw c]at g;cases b;cases g;omega
    ·rw[Aiu l]at b;exact d.le j x y b g⟩
   exact⟨_,q _ z,z,.inr ⟨i,rfl,Ω,Ω,by rw[s];omega,by rw[s];rfl⟩,λ_=>rfl⟩
  ·rw[Agx w,Agq];refine⟨_,q _ d,d,.inl rfl,λ⟨j,F,u,H⟩=>?_⟩;have:min n p[i]=0:=Ω
   rw[this];apply Ah1;intro k;by_cases m:i=k
   ·subst m;rw[Aiz (by simp;omega),Aiy,Agp Ω]
   ·rw[Aiu m]
 ·have G:(decide (o<0)||decide ((p.length:Int)<=o))=true:=by
   rw[a.len];simp only[Ahg,Ahb];omega
  rw[G,Ago,Agm,Ago,Agm,Agx (show ¬0<min n 0 from Ω),Agq];exact⟨_,q _ d,d,.inl rfl,λ⟨j,F,u,_⟩=>absurd ⟨Ω,Ω⟩ D⟩
end Go.Proofs.YtabonambpbofgaaGreat
