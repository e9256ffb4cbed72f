import Derived.Test.YtabonambpbofgaaGreatQPureRc
import Derived.Test.YtabonambpbofgaaGreatQCore10
import Derived.ProofKit
import Derived.OpenShut
import Derived.JoinedCond
import Derived.Deep.Slices
import Derived.SizedLaws
namespace Go.Proofs.YtabonambpbofgaaGreat
set_option linter.all false
open Go.RowKit
variable {D:AA->Int}{N R c c' cap g j:Nat}{cr k n p place sort:Int}{part:xq}{o:List xq}{s t:AH}{b:AF}{ms:List AM}{vs:List (Int×Dy)}{e:Int×Dy}{y:AH×List AM×xq}{inp:AX}{kj:List (List AX)->Option F8->Option Bool}{P:Program}{cs:List Value}{d:Bool}{a:Nat->Bool}{w:World}{l:Array Field}{L:(Nat->Prop)->AV->Prop}{f:Field}{u:Value}
def Vt{u v:Type}{kv:u->Value}(i:∀k d,Kp (kv k) (kv d)=true↔k=d)(k:u)(x:v):∀(m:List (u×v)),m.Pairwise (λa c=>a.1≠c.1)->(Mj kv m k x).Pairwise (λa c=>a.1≠c.1)/\(∀e∈Mj kv m k x,e=(k,x)\/(e∈m/\e.1≠k))/\(k,x)∈Mj kv m k x/\∀e∈m,e.1≠k->e∈Mj kv m k x
 |[],_=>⟨List.pairwise_singleton _ _,λe b=> .inl (Aho.1 b),.head _,λe b=>by cases b⟩
 |(d,y)::r,w=>by
  obtain⟨j,o⟩:=List.pairwise_cons.1 w;obtain⟨q,p,s,t⟩:=Vt i k x r o;simp only[Mj];by_cases e:Kp (kv k) (kv d)=true
  ·have g:=(i _ _).1 e;subst g;rw[Agp e];refine⟨List.pairwise_cons.2 ⟨j,o⟩,λe b=>?_,.head _,λe b l=>?_⟩
   ·rcases Agv.1 b with rfl|b
    ·exact .inl rfl
    ·exact .inr ⟨.tail _ b,λw=>j e b w.symm⟩
   ·rcases Agv.1 b with rfl|b
    ·exact absurd rfl l
    ·exact .tail _ b
  ·have g:d≠k:=λw=>e ((i _ _).2 w.symm);rw[Agn e];refine⟨List.pairwise_cons.2 ⟨λa n=>?_,q⟩,λe b=>?_,.tail _ s,λe b l=>?_⟩
   ·rcases p a n with rfl|⟨n,_⟩
    ·exact g
    ·exact j a n
   ·rcases Agv.1 b with rfl|b
    ·exact .inr ⟨.head _,g⟩
    ·rcases p e b with w|⟨w,h'⟩
     ·exact .inl w
     ·exact .inr ⟨.tail _ w,h'⟩
   ·rcases Agv.1 b with rfl|b
    ·exact .head _
    ·exact .tail _ (t e b l)
def Vu{n o:Type}{kv:n->Value}(c:∀k b,Kp (kv k) (kv b)=true↔k=b)(k:n):∀(m:List (n×o)),(∃x,KT kv m k=some x/\(k,x)∈m)\/(KT kv m k=none/\∀e∈m,e.1≠k)
 |[]=> .inr ⟨rfl,λe j=>by cases j⟩
 |(b,y)::r=>by
  unfold KT;by_cases e:Kp (kv k) (kv b)=true
  ·have l:=(c _ _).1 e;subst l;rw[List.find?_cons_of_pos (by exact e)];exact .inl ⟨y,rfl,.head _⟩
  ·rw[List.find?_cons_of_neg (by exact e)];rcases Vu c k r with⟨x,d,g⟩|⟨d,g⟩
   ·exact .inl ⟨x,d,.tail _ g⟩
   ·refine .inr ⟨d,λa i=>?_⟩;rcases Agv.1 i with rfl|i
    ·exact λp=>e ((c _ _).2 p.symm)
    ·exact g a i
def mU(k a:AA):Kp (Value.agg (AA.v k).toArray) (Value.agg (AA.v a).toArray)=true↔k=a:=by
 cases k;cases a;simp[Kp,Rf,WA]
abbrev BM:=List (AA×AJ)
variable {m:BM}
structure uC(w:AJ)(v:Int):Prop where
 val:w.hi*18446744073709551616+w.lo=v
 lo0:0<=w.lo
 lo1:w.lo<=18446744073709551615
structure MA(c:Nat)(m:BM)(D:AA->Int):Prop where
 nd:m.Pairwise λa c=>a.1≠c.1
 val:∀e∈m,uC e.2 (D e.1)
 out:∀k,(∀e∈m,e.1≠k)->D k=0
 bd:∀k, -((c:Int)*2305843009213693952)<=D k/\D k<=(c:Int)*2305843009213693952
def MA.nil:MA 0 [] λ_=>0:=⟨.nil,λe a=>(by cases a),λ_ _=>rfl,λk=>⟨by simp,by simp⟩⟩
def MA.get(d:MA c m D)(k:AA):∃w,(KT (λk:AA=>Value.agg (AA.v k).toArray) m k).getD (⟨0,0⟩:AJ)=w/\uC w (D k):=by
 rcases Vu mU k m with⟨x,a,b⟩|⟨a,b⟩
 ·exact⟨x,by rw[a];rfl,d.val _ b⟩
 ·exact⟨⟨0,0⟩,by rw[a];rfl,by rw[d.out k b];exact⟨rfl,by decide,by decide⟩⟩
def MA.put{a:AA->Int}(u:MA c m D){k:AA}{w:AJ}(n:uC w (a k))(g:∀j,j≠k->a j=D j)(o:∀j, -((c':Int)*2305843009213693952)<=a j/\a j<=(c':Int)*2305843009213693952):MA c' (Mj (λk:AA=>Value.agg (AA.v k).toArray) m k w) a:=by
 obtain⟨p,q,s,t⟩:=Vt mU k w m u.nd;refine⟨p,λe d=>?_,λj i=>?_,o⟩
 ·rcases q e d with rfl|⟨h1,h2⟩
  ·exact n
  ·rw[g _ h2];exact u.val e h1
 ·have b:j≠k:=λe=>i _ s e.symm;rw[g j b];refine u.out j λe d l=>?_;exact i e (t e d (by rw[l];exact b)) l
def WR{w:AJ}{v:Int}(g:uC w v)(c: -1298074214633706907132624082305024<=v/\v<=1298074214633706907132624082305024):BO w.hi=w.hi/\IntKind.wrap .u64 w.lo=w.lo/\ -70368744177665<=w.hi/\w.hi<=70368744177664:=by
 have d:=g.val;have a:=g.lo0;have b:=g.lo1;exact⟨D6 Ω Ω,Tz (WS.2 ⟨a,b⟩),Ω,Ω⟩
def fG{w:AJ}{v:Int}(o:uC w v)(a: -1298074214633706907132624082305024<=v/\v<=1298074214633706907132624082305024)(d:0<=n/\n<=2305843009213693952):∃w',K3 N (⟨BO w.hi,IntKind.wrap .u64 w.lo⟩:AJ) n=some w'/\uC w' (v+n):=by
 obtain⟨b,c,g,i⟩:=WR o a;have j:=o.val;have l:=o.lo0;have m:=o.lo1;unfold K3 MH;rw[b,c,Tz (k:= .u64) (x:=n) (WS.2 ⟨Ω,Ω⟩)];refine⟨_,rfl,?_,?_,?_⟩<;>simp only
 ·rw[D6 (n:=(w.lo+n+0)/18446744073709551616) Ω Ω,D6 Ω Ω];omega
 ·omega
 ·omega
def fF{w:AJ}{v:Int}(p:uC w v)(a: -1298074214633706907132624082305024<=v/\v<=1298074214633706907132624082305024)(g:0<=n/\n<=2305843009213693952):∃w',K2 N (⟨BO w.hi,IntKind.wrap .u64 w.lo⟩:AJ) n=some w'/\uC w' (v-n):=by
 obtain⟨b,d,i,j⟩:=WR p a;have l:=p.val;have m:=p.lo0;have o:=p.lo1;unfold K2 MG;rw[b,d,Tz (k:= .u64) (x:=n) (WS.2 ⟨Ω,Ω⟩)];refine⟨_,rfl,?_,?_,?_⟩<;>simp only
 ·by_cases c:w.lo<n+0
  ·rw[Agp c,D6 (n:=(1:Int)) (by decide) (by decide),D6 Ω Ω];omega
  ·rw[Agn c,D6 (n:=(0:Int)) (by decide) (by decide),D6 Ω Ω];omega
 ·omega
 ·omega
def Oy(sort place:Int)(part:xq)(k:AA):Int:=if k.sort=sort/\k.place=place/\0<=k.owner then part.getD k.owner.toNat 0 else 0
def Ze(W:Nat)(l:xq):Prop:=l.length=W/\∀x∈l,0<=x/\x<=2305843009213693952
def kS{l:xq}(a:∀x∈l,0<=x/\x<=2305843009213693952)(o:Nat):0<=l.getD o 0/\l.getD o 0<=2305843009213693952:=by
 rw[Ahc];cases e:l[o]? with
 |none=>exact⟨by decide,by decide⟩
 |some x=>exact a x (Ahx e)
def lM(a:∀x∈part,0<=x/\x<=2305843009213693952)(k:AA):0<=Oy sort place part k/\Oy sort place part k<=2305843009213693952:=by
 unfold Oy;split
 ·exact kS a _
 ·exact⟨by decide,by decide⟩
def YU{i:Nat}(b:i<part.length):Oy sort place (part.take i) ⟨sort,place,(i:Int)⟩=0/\Oy sort place (part.take (i+1)) ⟨sort,place,(i:Int)⟩=part[i]/\∀j,j≠(⟨sort,place,(i:Int)⟩:AA)->Oy sort place (part.take (i+1)) j=Oy sort place (part.take i) j:=by
 unfold Oy;refine⟨?_,?_,λj d=>?_⟩
 ·simp only;rw[Agp ⟨trivial,trivial,Ω⟩,Ahl,Ahc,Ahj (by rw[Ah3];omega)];rfl
 ·simp only;rw[Agp ⟨trivial,trivial,Ω⟩,Ahl,Ahc,Ai4,Agp Ω,Agw b];rfl
 ·by_cases c:j.sort=sort/\j.place=place/\0<=j.owner
  ·rw[Agp c,Agp c];have:j.owner.toNat≠i:=λe=>d (by
    obtain⟨g,a,k⟩:=c;cases j;simp only at*;subst g a;congr 1;omega)
   rw[Ahc,Ahc,Ai4,Ai4];by_cases a:j.owner.toNat<i
   ·rw[Agp Ω,Agp a]
   ·rw[Agn Ω,Agn a]
  ·rw[Agn c,Agn c]
def MA.v(b:MA c m D)(a:c<=200000000000000)(k:AA): -1298074214633706907132624082305024<=D k-2305843009213693952/\D k+2305843009213693952<=1298074214633706907132624082305024:=by
 have:=b.bd k;omega
def SI(G:8000000000000<N)(M:MA c m D)(H:c<=190000000000000)(sort place:Int)(p:∀x∈part,0<=x/\x<=2305843009213693952)(I:part.length<=1000):∃d,FU N m sort place part=some d/\MA (c+1) d (λk=>D k+Oy sort place part k):=by
 unfold FU;have b:∀(i:Nat) k, -(((c+1:Nat):Int)*2305843009213693952)<=D k+Oy sort place (part.take i) k/\D k+Oy sort place (part.take i) k<=((c+1:Nat):Int)*2305843009213693952:=λi k=>by
  have J:=M.bd k;have K:=lM (sort:=sort) (place:=place) (part:=part.take i) (λx g=>p x (Ajn g)) k;omega
 obtain⟨d,q,e⟩:=EO part.length (λn i l=>Em N sort place part n i l) (λl=>some l) (λk l=>MA (c+1) l (λj=>D j+Oy sort place (part.take k) j)) (λn k l a=>by
  simp only[Em];rw[Ek a];rfl) (λn k l o a=>by
  obtain⟨s,t2,u⟩:=YU (sort:=sort) (place:=place) a;have g:=p _ (Agy a);obtain⟨w,y,t⟩:=o.get ⟨sort,place,(k:Int)⟩;have z:=o.v Ω ⟨sort,place,(k:Int)⟩;rw[s]at t;rw[s]at z;obtain⟨w',A,B⟩:=fG (N:=N) (n:=part[k]) t Ω g;simp only[Em];rw[ER a,Ago,BC a,Agm,y,A,Agm,BA Ω];exact⟨_,o.put (by rw[t2];simpa using B) (λj C=>by rw[u j C]) (b (k+1)),rfl⟩) N 0 m (by
   refine⟨M.nd,λe F=>?_,λk a=>?_,b 0⟩
   ·have:Oy sort place (part.take 0) e.1=0:=by unfold Oy;split<;>simp
    rw[this,Int.add_zero];exact M.val e F
   ·have:Oy sort place (part.take 0) k=0:=by unfold Oy;split<;>simp
    rw[this,Int.add_zero];exact M.out k a) Ω (Agr _)
 rw[Ahe]at q;exact⟨d,e,q⟩
def PF(G:8000000000000<N)(M:MA c m D)(H:c<=190000000000000)(sort place:Int)(p:∀x∈part,0<=x/\x<=2305843009213693952)(I:part.length<=1000):∃d,D9 N m sort place part=some d/\MA (c+1) d (λk=>D k-Oy sort place part k):=by
 unfold D9;have b:∀(i:Nat) k, -(((c+1:Nat):Int)*2305843009213693952)<=D k-Oy sort place (part.take i) k/\D k-Oy sort place (part.take i) k<=((c+1:Nat):Int)*2305843009213693952:=λi k=>by
  have J:=M.bd k;have K:=lM (sort:=sort) (place:=place) (part:=part.take i) (λx g=>p x (Ajn g)) k;omega
 obtain⟨d,q,e⟩:=EO part.length (λn i l=>En N sort place part n i l) (λl=>some l) (λk l=>MA (c+1) l (λj=>D j-Oy sort place (part.take k) j)) (λn k l a=>by
  simp only[En];rw[Ek a];rfl) (λn k l o a=>by
  obtain⟨s,t2,u⟩:=YU (sort:=sort) (place:=place) a;have g:=p _ (Agy a);obtain⟨w,y,t⟩:=o.get ⟨sort,place,(k:Int)⟩;have z:=o.v Ω ⟨sort,place,(k:Int)⟩;rw[s]at t;rw[s]at z;obtain⟨w',A,B⟩:=fF (N:=N) (n:=part[k]) t Ω g;simp only[En];rw[ER a,Ago,BC a,Agm,y,A,Agm,BA Ω];exact⟨_,o.put (by rw[t2];simpa using B) (λj C=>by rw[u j C]) (b (k+1)),rfl⟩) N 0 m (by
   refine⟨M.nd,λe F=>?_,λk a=>?_,b 0⟩
   ·have:Oy sort place (part.take 0) e.1=0:=by unfold Oy;split<;>simp
    rw[this,Int.sub_zero];exact M.val e F
   ·have:Oy sort place (part.take 0) k=0:=by unfold Oy;split<;>simp
    rw[this,Int.sub_zero];exact M.out k a) Ω (Agr _)
 rw[Ahe]at q;exact⟨d,e,q⟩
structure U7(P W:Nat)(s:AH):Prop where
 len:s.D.length=P
 own:∀x∈s.D,Ze W x
 que:∀l∈s.F,Ze W l.N/\0<=l.C/\l.C<P
 inn:Ze W s.K
 out:Ze W s.O
structure dY(P W:Nat)(m:AM):Prop where
 px:Ze W m.N
 fr:m.J= -1\/(0<=m.J/\m.J<P)
 to:m.C= -1\/(0<=m.C/\m.C<P)
def OZ(o:List xq)(k:AA):Int:=if k.sort=0/\0<=k.place/\0<=k.owner then(o.getD k.place.toNat []).getD k.owner.toNat 0 else 0
def jG(q:List AY)(k:AA):Int:=(q.map λl=>Oy 0 l.C l.N k).sum
def TU(s:AH)(k:AA):Int:=OZ s.D k+jG s.F k+Oy 1 (-1) s.K k+Oy 2 (-1) s.O k
def eH(m:AM)(k:AA):Int:=(if m.J= -1 then -Oy 1 (-1) m.N k else Oy 0 m.J m.N k)-(if m.C= -1 then Oy 2 (-1) m.N k else Oy 0 m.C m.N k)
def SG(l:List AM)(k:AA):Int:=(l.map λm=>eH m k).sum
def Vq{i:Nat}(d:i<o.length)(k:AA):OZ (o.take (i+1)) k=OZ (o.take i) k+Oy 0 (i:Int) o[i] k:=by
 unfold OZ Oy;by_cases c:k.sort=0/\0<=k.place/\0<=k.owner
 ·rw[Agp c,Agp c];have g:∀j,(o.take j).getD k.place.toNat []=if k.place.toNat<j then o.getD k.place.toNat [] else []:=λj=>by
   rw[Ahc,Ai4];split
   ·rw[Ahc]
   ·rfl
  rw[g,g];by_cases a:k.place=(i:Int)
  ·rw[Agp Ω,Agn Ω,Agp ⟨c.1,a,c.2.2⟩,a,Ahl,Ahc (l:=o),Agw d];simp
  ·rw[Agn (show ¬(k.sort=0/\k.place=(i:Int)/\0<=k.owner)from λm=>a m.2.1)];by_cases b:k.place.toNat<i
   ·rw[Agp Ω,Agp b];omega
   ·rw[Agn Ω,Agn b];rfl
 ·rw[Agn c,Agn c,Agn (λm=>c ⟨m.1,Ω,m.2.2⟩)];rfl
def My{a:AA->Int}(g:MA c m D)(b:c=c')(d:∀k,D k=a k):MA c' m a:=by
 subst b;rw[show a=D from funext λk=>(d k).symm];exact g
def wA(g:8000000000000<N){P W:Nat}(I:P<=1000)(J:W<=1000)(b:U7 P W s)(K:s.F.length<=4000000000000)(X:MA c m D)(M:c<=100000000000000):∃o,G5 N m s=some o/\MA (c+s.D.length+s.F.length+2) o (λk=>D k+TU s k):=by
 have Q:=b.len;unfold G5;obtain⟨p,v,x⟩:=EO s.D.length (λn i l=>DD N s (DF N s) n i l) (λl=>DF N s l) (λk l=>MA (c+k) l (λj=>D j+OZ (s.D.take k) j)) (λn k l a=>by
  simp only[DD];rw[Ek a];rfl) (λn k l q a=>by
  have d:=b.own _ (Agy a);obtain⟨o,t,u⟩:=SI g q Ω 0 (k:Int) d.2 (by have:=d.1;omega);simp only[DD];rw[ER a,Ago,BC a,Agm,t,Agm,BA Ω];exact⟨_,My u rfl λj=>by rw[Vq a];omega,rfl⟩) N 0 m (My X rfl λj=>by
   have:OZ (s.D.take 0) j=0:=by unfold OZ;split<;>simp
   rw[this];omega) Ω (Agr _)
 rw[show DD N s (DF N s) N 0 m=DF N s p from x];rw[Ahe]at v;unfold DF;obtain⟨y,w,z⟩:=EO s.F.length (λn i l=>DC N s (DE N s) n i l) (λl=>DE N s l) (λk l=>MA (c+s.D.length+k) l (λj=>D j+OZ s.D j+jG (s.F.take k) j)) (λn k l a=>by
  simp only[DC];rw[Ek a];rfl) (λn k l q a=>by
  have d:=(b.que _ (Agy a)).1;obtain⟨o,t,u⟩:=SI g q Ω 0 (s.F[k]).C d.2 (by have:=d.1;omega);simp only[DC];rw[ER a,Ago,BC a,Agm,t,Agm,BA Ω];exact⟨_,My u Ω λj=>by unfold jG;rw[MB (f:=λl:AY=>Oy 0 l.C l.N j) a];omega,rfl⟩) N 0 p (My v rfl λj=>by
   show _=_+(0:Int);omega) Ω (Agr _)
 rw[show DC N s (DE N s) N 0 p=DE N s y from z];rw[Ahe]at w;unfold DE;obtain⟨U,A,B⟩:=SI g w Ω 1 (-1) b.inn.2 (by have:=b.inn.1;omega);obtain⟨V,G,H⟩:=SI g B Ω 2 (-1) b.out.2 (by have:=b.out.1;omega);rw[A,Agm,G,Agm];exact⟨_,rfl,My H Ω λj=>by unfold TU;omega⟩
def wB(g:8000000000000<N){P W:Nat}(I:P<=1000)(J:W<=1000)(b:U7 P W s)(K:s.F.length<=4000000000000)(X:MA c m D)(M:c<=100000000000000):∃o,G4 N m s=some o/\MA (c+s.D.length+s.F.length+2) o (λk=>D k-TU s k):=by
 have Q:=b.len;unfold G4;obtain⟨p,v,x⟩:=EO s.D.length (λn i l=>C9 N s (DB N s) n i l) (λl=>DB N s l) (λk l=>MA (c+k) l (λj=>D j-OZ (s.D.take k) j)) (λn k l a=>by
  simp only[C9];rw[Ek a];rfl) (λn k l q a=>by
  have d:=b.own _ (Agy a);obtain⟨o,t,u⟩:=PF g q Ω 0 (k:Int) d.2 (by have:=d.1;omega);simp only[C9];rw[ER a,Ago,BC a,Agm,t,Agm,BA Ω];exact⟨_,My u rfl λj=>by rw[Vq a];omega,rfl⟩) N 0 m (My X rfl λj=>by
   have:OZ (s.D.take 0) j=0:=by unfold OZ;split<;>simp
   rw[this];omega) Ω (Agr _)
 rw[show C9 N s (DB N s) N 0 m=DB N s p from x];rw[Ahe]at v;unfold DB;obtain⟨y,w,z⟩:=EO s.F.length (λn i l=>C8 N s (DA N s) n i l) (λl=>DA N s l) (λk l=>MA (c+s.D.length+k) l (λj=>D j-OZ s.D j-jG (s.F.take k) j)) (λn k l a=>by
  simp only[C8];rw[Ek a];rfl) (λn k l q a=>by
  have d:=(b.que _ (Agy a)).1;obtain⟨o,t,u⟩:=PF g q Ω 0 (s.F[k]).C d.2 (by have:=d.1;omega);simp only[C8];rw[ER a,Ago,BC a,Agm,t,Agm,BA Ω];exact⟨_,My u Ω λj=>by unfold jG;rw[MB (f:=λl:AY=>Oy 0 l.C l.N j) a];omega,rfl⟩) N 0 p (My v rfl λj=>by
   show _=_-(0:Int);omega) Ω (Agr _)
 rw[show C8 N s (DA N s) N 0 p=DA N s y from z];rw[Ahe]at w;unfold DA;obtain⟨U,A,B⟩:=PF g w Ω 1 (-1) b.inn.2 (by have:=b.inn.1;omega);obtain⟨V,G,H⟩:=PF g B Ω 2 (-1) b.out.2 (by have:=b.out.1;omega);rw[A,Agm,G,Agm];exact⟨_,rfl,My H Ω λj=>by unfold TU;omega⟩
def jT(l:8000000000000<N){P W:Nat}(s:W<=1000){x:AM}(d:dY P W x)(v:MA c m D)(t:c<=150000000000000):∃g,JH N m x=some g/\MA (c+2) g (λk=>D k+eH x k):=by
 have u:=d.px.1;have i:∀(n:BM)(o:AA->Int),MA (c+1) n o->(∀k,o k=D k-(if x.C= -1 then Oy 2 (-1) x.N k else Oy 0 x.C x.N k))->∃g,G0 N x n=some g/\MA (c+2) g (λk=>D k+eH x k):=λn o p q=>by
  unfold G0;by_cases e:x.J= -1
  ·obtain⟨j,a,b⟩:=PF l p Ω 1 (-1) d.px.2 Ω;rw[Ag8 e,Ago,a,Agm];exact⟨_,rfl,My b rfl λk=>by rw[q k];unfold eH;rw[Agp e];omega⟩
  ·obtain⟨j,a,b⟩:=SI l p Ω 0 x.J d.px.2 Ω;rw[Agx e,Agq,a,Agm];exact⟨_,rfl,My b rfl λk=>by rw[q k];unfold eH;rw[Agn e];omega⟩
 unfold JH;by_cases e:x.C= -1
 ·obtain⟨j,a,b⟩:=PF l v Ω 2 (-1) d.px.2 Ω;rw[Ag8 e,Ago,a,Agm];exact i j _ b λk=>by rw[Agp e]
 ·obtain⟨j,a,b⟩:=PF l v Ω 0 x.C d.px.2 Ω;rw[Agx e,Agq,a,Agm];exact i j _ b λk=>by rw[Agn e]
def Uu(c:8000000000000<N){l:xq}(g:Ze b.I.length l)(d:l.length<=1000):Ka N b l=some true:=by
 unfold Ka;rw[g.1,Agx (by simp),Agq];exact M2 l.length (λn i=>Ix N l (Kn N) n i) (Kn N) (λn k a=>by
  simp only[Ix];rw[Ek a];rfl) (λn k a=>by
  have:=g.2 _ (Agy a);simp only[Ix];rw[ER a,Ago,BC a,Agm,Agx (show ¬l[k]<0 from Ω),Agx (show ¬2305843009213693952<l[k]from Ω),Bool.or_false,Agq,BA Ω]) N 0 Ω (Agr _)
def Z3(d:8000000000000<N)(g:b.I.length<=1000)(o:b.A.length<=1000)(q:U7 b.A.length b.I.length s)(p:s.F.length<=4000000000000):Jo N b s=some true:=by
 have j:=q.len;unfold Jo;rw[j,Agx (by simp),Agq,Uu d q.inn (by rw[q.inn.1];exact g),Agm,Agm,Ahm,Agq,Uu d q.out (by rw[q.out.1];exact g),Agm,Agm,Ahm,Agq];rw[show FT N b s (GM N b s) N 0=GM N b s from
  M2 s.D.length (λn i=>FT N b s (GM N b s) n i) _ (λn k a=>by
   simp only[FT];rw[Ek a];rfl) (λn k a=>by
   have c:=q.own _ (Agy a);simp only[FT];rw[ER a,Ago,BC a,Agm,Uu d c (by rw[c.1];exact g),Agm,Ahm,Agq,BA Ω]) N 0 Ω (Agr _)]
 unfold GM;exact M2 s.F.length (λn i=>GL N b s (JG N) n i) _ (λn k a=>by
   simp only[GL];rw[Ek a];rfl) (λn k a=>by
   obtain⟨c,l,m⟩:=q.que _ (Agy a);simp only[GL,Iw];rw[ER a,Ago,BC a,Agm,Ov.2 ⟨l,m⟩,Agm,Ahm,Agq,Uu d c (by rw[c.1];exact g),Agm,Agm,Ahm,Agq,BA Ω]) N 0 Ω (Agr _)
def oZ(c:8000000000000<N)(d:b.I.length<=1000){m:AM}(j:dY b.A.length b.I.length m):K4 N b m=some true:=by
 have a:∀i:Int,(i= -1\/(0<=i/\i<b.A.length))->cond (decide (i= -1)) (some true) ((Iw N b i).bind λy=>some y)=some true:=λi g=>by
  by_cases e:i= -1
  ·rw[Ag8 e];rfl
  ·rw[Agx e,Agq,Iw,Ov.2 (g.resolve_left e)];rfl
 unfold K4;rw[Uu c j.px (by rw[j.px.1];exact d),Agm,Ago,a _ j.fr,Agm,Agm,Ago,a _ j.to];rfl
def ZV(o:8000000000000<N)(p:b.I.length<=1000)(x:b.A.length<=1000)(B:U7 b.A.length b.I.length s)(C:U7 b.A.length b.I.length t)(J:∀m∈ms,dY b.A.length b.I.length m)(K:s.F.length<=4000000000000)(u:t.F.length<=4000000000000)(hl:ms.length<=20000):∃v,Ko N b s t ms=some v/\(v=true↔∀k,TU t k-TU s k+SG ms k=0):=by
 have e1:=B.len;have e2:=C.len;unfold Ko;rw[Z3 o p x B K,Agm,Ahm,Agq,Z3 o p x C u,Agm,Agm,Ahm,Agq];rw[show GX N b ms (HX N s t ms) N 0=HX N s t ms from
  M2 ms.length (λn i=>GX N b ms (HX N s t ms) n i) _ (λn k a=>by
   simp only[GX];rw[Ek a];rfl) (λn k a=>by
   simp only[GX];rw[ER a,Ago,BC a,Agm,oZ o p (J _ (Agy a)),Agm,Ahm,Agq,BA Ω]) N 0 Ω (Agr _)]
 unfold HX;obtain⟨m1,X,Y⟩:=wA o x p C u MA.nil Ω;obtain⟨M,Z,y⟩:=wB o x p B K Y Ω;rw[X,Agm,Z,Agm];obtain⟨w,q,e⟩:=EO ms.length (λn i l=>GW N ms (GY N) n i l) (λl=>GY N l) (λk l=>MA (50000000000000+2*k) l (λj=>TU t j-TU s j+SG (ms.take k) j)) (λn k l a=>by
  simp only[GW];rw[Ek a];rfl) (λn k l z a=>by
  obtain⟨m',em,im⟩:=jT o p (J _ (Agy a)) z Ω;simp only[GW];rw[ER a,Ago,BC a,Agm,em,Agm,BA Ω];exact⟨_,My im Ω λj=>by unfold SG;rw[MB (f:=λm:AM=>eH m j) a];omega,rfl⟩) N 0 M (by
   refine⟨y.nd,λe d=>?_,λk a=>?_,λk=>?_⟩
   ·have:=y.val e d;rw[show TU t e.1-TU s e.1+SG (ms.take 0) e.1=0+TU t e.1-TU s e.1 by show _+(0:Int)=_;omega];exact this
   ·have:=y.out k a;show _+(0:Int)=0
    omega
   ·have:=y.bd k;show _<=_+(0:Int)/\_+(0:Int)<=_
    omega) Ω (Agr _)
 rw[Ahe]at q;rw[show GW N ms (GY N) N 0 M=GY N w from e];unfold GY;have c:(List.all w (λe=>(HW N e).isNone))=true↔∀k,TU t k-TU s k+SG ms k=0:=by
  rw[Agz];have Q:∀e∈w,((HW N e).isNone=true↔e.2=⟨0,0⟩):=λe d=>by
   have hv:=q.bd e.1;obtain⟨g1,g2,_,_⟩:=WR (q.val e d) Ω;unfold HW;rw[g1,g2];have:Rf (⟨e.2.hi,e.2.lo⟩:AJ).v (⟨0,0⟩:AJ).v=(decide (e.2.hi=0)&&decide (e.2.lo=0)):=by simp[Rf,WA]
   rw[this];cases e.2 with
   |mk z U=>
    by_cases D:z=0
    ·by_cases V:U=0
     ·simp[D,V]
     ·simp[D,V]
    ·simp[D]
  constructor
  ·intro h k;by_cases a:∃e∈w,e.1=k
   ·obtain⟨e,d,rfl⟩:=a;have g:=q.val e d;rw[(Q e d).1 (h e d)]at g;exact g.val.symm
   ·exact q.out k λe d h=>a ⟨e,d,h⟩
  ·intro h e d;have g:=q.val e d;rw[h e.1]at g;have a1:=g.val;have a2:=g.lo0;have a3:=g.lo1;rw[Q e d];have G:e.2.lo=0:=Ω
   have H:e.2.hi=0:=Ω
   cases h2:e.2 with
   |mk z U=>rw[h2]at G H;simp only at G H;rw[G,H]
 cases W:(List.all w (λe=>(HW N e).isNone))with
 |true=>exact⟨true,rfl,by rw[W]at c;exact c⟩
 |false=>exact⟨false,rfl,by rw[W]at c;exact c⟩
def Qn(o:Nat)(x:xq):Int:=x.getD o 0
def xC(W o:Nat):eN W (Qn o):=by
 by_cases c:o<W
 ·exact pC c
 ·have z:∀{x:xq},x.length=W->Qn o x=0:=λ{x} d=>by unfold Qn;rw[Ahc,Ahj Ω];rfl
  exact⟨λa b=>by rw[z a,z b,z (LY a b)];rfl,λa b=>by rw[z a,z b,z (Xd a b)];rfl⟩
def IW(a p:Int)(x:xq)(b d:Int)(o:Nat):Oy a p x ⟨b,d,(o:Int)⟩=if b=a/\d=p then Qn o x else 0:=by
 unfold Oy Qn;simp only[Ahl];by_cases c:b=a/\d=p
 ·rw[Agp ⟨c.1,c.2,Ω⟩,Agp c]
 ·rw[Agn (λg=>c ⟨g.1,g.2.1⟩),Agn c]
def Z0(s:AH)(p:Int)(o:Nat):TU s ⟨0,p,(o:Int)⟩=(if 0<=p then Qn o (s.D.getD p.toNat []) else 0)+Y9 (Qn o) p s.F:=by
 unfold TU;rw[IW,IW,Agn (c:=(0:Int)=1/\p= -1) (λd=>by cases d.1),Agn (c:=(0:Int)=2/\p= -1) (λd=>by cases d.1)];have a:OZ s.D ⟨0,p,(o:Int)⟩=(if 0<=p then Qn o (s.D.getD p.toNat []) else 0):=by
  unfold OZ Qn;simp only[Ahl];by_cases c:0<=p
  ·rw[Agp ⟨trivial,c,Ω⟩,Agp c]
  ·rw[Agn (λd=>c d.2.1),Agn c]
 have b:jG s.F ⟨0,p,(o:Int)⟩=Y9 (Qn o) p s.F:=by
  unfold jG Y9;congr 1;refine Ai3 λl _=>?_;rw[IW];by_cases c:l.C=p
  ·rw[Agp ⟨rfl,c.symm⟩,Agp c]
  ·rw[Agn (λd=>c d.2.symm),Agn c]
 rw[a,b];omega
def jF(q:List AY){a:Int}(b:a≠0)(p:Int)(o:Nat):jG q ⟨a,p,(o:Int)⟩=0:=by
 unfold jG
 induction q with
 |nil=>rfl
 |cons l q c=>rw[Ag9,Ahs,c,IW,Agn (λd=>b d.1)];rfl
def Zz(s:AH)(p:Int)(o:Nat):TU s ⟨1,p,(o:Int)⟩=if p= -1 then Qn o s.K else 0:=by
 unfold TU;rw[jF _ (by decide),IW,IW,Agn (c:=(1:Int)=2/\p= -1) (λa=>by cases a.1)];have:OZ s.D ⟨1,p,(o:Int)⟩=0:=by unfold OZ;rw[Agn (λa=>by cases a.1)]
 rw[this];by_cases c:p= -1
 ·rw[Agp ⟨rfl,c⟩,Agp c];omega
 ·rw[Agn (λa=>c a.2),Agn c];rfl
def Zy(s:AH)(p:Int)(o:Nat):TU s ⟨2,p,(o:Int)⟩=if p= -1 then Qn o s.O else 0:=by
 unfold TU;rw[jF _ (by decide),IW,IW,Agn (c:=(2:Int)=1/\p= -1) (λa=>by cases a.1)];have:OZ s.D ⟨2,p,(o:Int)⟩=0:=by unfold OZ;rw[Agn (λa=>by cases a.1)]
 rw[this];by_cases c:p= -1
 ·rw[Agp ⟨rfl,c⟩,Agp c];omega
 ·rw[Agn (λa=>c a.2),Agn c];rfl
def sT(s:AH){a:Int}(h0:a≠0)(b:a≠1)(c:a≠2)(p:Int)(o:Nat):TU s ⟨a,p,(o:Int)⟩=0:=by
 unfold TU;rw[jF _ h0,IW,IW,Agn (λd=>b d.1),Agn (λd=>c d.1)];unfold OZ;rw[Agn (λd=>h0 d.1)];rfl
def UA(a p:Int)(x:xq){k:AA}(b:k.owner<0):Oy a p x k=0:=by unfold Oy;rw[Agn (λc=>Ω)]
def Zx(s:AH){k:AA}(a:k.owner<0):TU s k=0:=by
 unfold TU;rw[UA _ _ _ a,UA _ _ _ a];have b:OZ s.D k=0:=by unfold OZ;rw[Agn (λg=>Ω)]
 have c:∀q:List AY,jG q k=0:=λq=>by
  unfold jG
  induction q with
  |nil=>rfl
  |cons l q d=>rw[Ag9,Ahs,d,UA _ _ _ a];rfl
 rw[b,c];rfl
def Uh(m:AM)(l:List AM)(k:AA):SG (m::l) k=eH m k+SG l k:=by unfold SG;rw[Ag9,Ahs]
def jP(l:List AM){k:AA}(a:k.owner<0):SG l k=0:=by
 induction l with
 |nil=>rfl
 |cons m l b=>
  rw[Uh,b];unfold eH;simp only[UA _ _ _ a];split<;>split<;>rfl
def jS(l:List AM)(p:Int)(o:Nat):SG l ⟨0,p,(o:Int)⟩=if p= -1 then 0 else YA (Qn o) p l-X9 (Qn o) p l:=by
 induction l with
 |nil=>split<;>rfl
 |cons m l i=>
  rw[Uh,i,Uk,Uj];unfold eH;rw[IW,IW,IW,IW];by_cases c:p= -1
  ·rw[Agp c,Agp c];subst c;have d:(if m.J= -1 then -(if(0:Int)=1/\(-1:Int)= -1 then Qn o m.N else 0) else if(0:Int)=0/\(-1:Int)=m.J then Qn o m.N else 0)=0:=by
    by_cases a:m.J= -1
    ·rw[Agp a,Agn (λj=>by cases j.1)];rfl
    ·rw[Agn a,Agn (λj=>a j.2.symm)]
   have g:(if m.C= -1 then(if(0:Int)=2/\(-1:Int)= -1 then Qn o m.N else 0) else if(0:Int)=0/\(-1:Int)=m.C then Qn o m.N else 0)=0:=by
    by_cases a:m.C= -1
    ·rw[Agp a,Agn (λj=>by cases j.1)]
    ·rw[Agn a,Agn (λj=>a j.2.symm)]
   rw[d,g];rfl
  ·rw[Agn c,Agn c];have d:(if m.J= -1 then -(if(0:Int)=1/\p= -1 then Qn o m.N else 0) else if(0:Int)=0/\p=m.J then Qn o m.N else 0)=if m.J=p then Qn o m.N else 0:=by
    by_cases a:m.J= -1
    ·rw[Agp a,Agn (λj=>by cases j.1),Agn Ω];rfl
    ·rw[Agn a];by_cases b:m.J=p
     ·rw[Agp ⟨rfl,b.symm⟩,Agp b]
     ·rw[Agn (λj=>b j.2.symm),Agn b]
   have g:(if m.C= -1 then(if(0:Int)=2/\p= -1 then Qn o m.N else 0) else if(0:Int)=0/\p=m.C then Qn o m.N else 0)=if m.C=p then Qn o m.N else 0:=by
    by_cases a:m.C= -1
    ·rw[Agp a,Agn (λj=>by cases j.1),Agn Ω]
    ·rw[Agn a];by_cases b:m.C=p
     ·rw[Agp ⟨rfl,b.symm⟩,Agp b]
     ·rw[Agn (λj=>b j.2.symm),Agn b]
   rw[d,g];omega
def jR(l:List AM)(p:Int)(o:Nat):SG l ⟨1,p,(o:Int)⟩=if p= -1 then -YA (Qn o) (-1) l else 0:=by
 induction l with
 |nil=>split<;>rfl
 |cons m l a=>
  rw[Uh,a,Uk];unfold eH;rw[IW,IW,IW,IW];have b:(if m.C= -1 then(if(1:Int)=2/\p= -1 then Qn o m.N else 0) else if(1:Int)=0/\p=m.C then Qn o m.N else 0)=0:=by
   rw[Agn (c:=(1:Int)=2/\p= -1) (λd=>by cases d.1),Agn (c:=(1:Int)=0/\p=m.C) (λd=>by cases d.1)];split<;>rfl
  rw[b,Agn (c:=(1:Int)=0/\p=m.J) (λd=>by cases d.1)];by_cases c:p= -1
  ·rw[Agp c,Agp c,Agp (c:=(1:Int)=1/\p= -1) ⟨rfl,c⟩];split<;>omega
  ·rw[Agn c,Agn c,Agn (c:=(1:Int)=1/\p= -1) (λd=>c d.2)];split<;>rfl
def jQ(l:List AM)(p:Int)(o:Nat):SG l ⟨2,p,(o:Int)⟩=if p= -1 then -X9 (Qn o) (-1) l else 0:=by
 induction l with
 |nil=>split<;>rfl
 |cons m l a=>
  rw[Uh,a,Uj];unfold eH;rw[IW,IW,IW,IW];have b:(if m.J= -1 then -(if(2:Int)=1/\p= -1 then Qn o m.N else 0) else if(2:Int)=0/\p=m.J then Qn o m.N else 0)=0:=by
   rw[Agn (c:=(2:Int)=1/\p= -1) (λd=>by cases d.1),Agn (c:=(2:Int)=0/\p=m.J) (λd=>by cases d.1)];split<;>rfl
  rw[b,Agn (c:=(2:Int)=0/\p=m.C) (λd=>by cases d.1)];by_cases c:p= -1
  ·rw[Agp c,Agp c,Agp (c:=(2:Int)=2/\p= -1) ⟨rfl,c⟩];split<;>omega
  ·rw[Agn c,Agn c,Agn (c:=(2:Int)=2/\p= -1) (λd=>c d.2)];split<;>rfl
def wX(l:List AM){a:Int}(h0:a≠0)(b:a≠1)(d:a≠2)(p:Int)(o:Nat):SG l ⟨a,p,(o:Int)⟩=0:=by
 induction l with
 |nil=>rfl
 |cons m l g=>
  rw[Uh,g];unfold eH;rw[IW,IW,IW,IW];rw[Agn (c:=a=1/\p= -1) (λi=>b i.1),Agn (c:=a=0/\p=m.J) (λi=>h0 i.1),Agn (c:=a=2/\p= -1) (λi=>d i.1),Agn (c:=a=0/\p=m.C) (λi=>h0 i.1)];split<;>split<;>rfl
def jH{c:xq->Int}{q:List AY}(d:∀l∈q,l.C≠p):Y9 c p q=0:=by
 induction q with
 |nil=>rfl
 |cons l q a=>rw[aE,Agn (d l (.head _)),a λx b=>d x (.tail _ b)];rfl
def wY{c:xq->Int}{q:List AM}(d:∀l∈q,l.C≠p):X9 c p q=0:=by
 induction q with
 |nil=>rfl
 |cons l q a=>rw[Uj,Agn (d l (.head _)),a λx b=>d x (.tail _ b)];rfl
def xA{c:xq->Int}{q:List AM}(d:∀l∈q,l.J≠p):YA c p q=0:=by
 induction q with
 |nil=>rfl
 |cons l q a=>rw[Uk,Agn (d l (.head _)),a λx b=>d x (.tail _ b)];rfl
def dP{P W:Nat}(q:U7 P W s)(v:U7 P W t)(w:∀m∈ms,dY P W m):(∀k,TU t k-TU s k+SG ms k=0)↔∀o:Nat,VD P (Qn o) s ms t:=by
 constructor
 ·intro B o;refine⟨λp y=>?_,?_,?_⟩
  ·have:=B ⟨0,(p:Int),(o:Int)⟩;rw[Z0,Z0,jS,Agp Ω,Agp Ω,Agn Ω,Ahl]at this;unfold Ad4;omega
  ·have:=B ⟨1, -1,(o:Int)⟩;rw[Zz,Zz,jR,Agp rfl,Agp rfl,Agp rfl]at this;omega
  ·have:=B ⟨2, -1,(o:Int)⟩;rw[Zy,Zy,jQ,Agp rfl,Agp rfl,Agp rfl]at this;omega
 ·intro B k;by_cases b:k.owner<0
  ·rw[Zx _ b,Zx _ b,jP _ b];rfl
  ·obtain⟨a,p,x⟩:=k;obtain⟨o,rfl⟩:∃o:Nat,x=(o:Int):=⟨x.toNat,by simp only at b;omega⟩
   have g:=B o;by_cases h0:a=0
   ·subst h0;rw[Z0,Z0,jS];by_cases y:0<=p/\p<P
    ·obtain⟨j,rfl⟩:∃j:Nat,p=(j:Int):=⟨p.toNat,Ω⟩
     have:=g.at_ j Ω;unfold Ad4 at this;rw[Agp Ω,Agp Ω,Agn Ω,Ahl];omega
    ·have z:∀u:AH,U7 P W u->(if 0<=p then Qn o (u.D.getD p.toNat []) else 0)=0:=λu A=>by
      split
      ·have:=A.len;rw[Ahc,Ahj Ω];unfold Qn;simp
      ·rfl
     rw[z s q,z t v,jH λl i=>by have:=v.que l i;omega,jH λl i=>by have:=q.que l i;omega];split
     ·rfl
     ·rw[xA λm n=>by have:=(w m n).fr;omega,wY λm n=>by have:=(w m n).to;omega];rfl
   ·by_cases c:a=1
    ·subst c;rw[Zz,Zz,jR];have:=g.inn;split<;>omega
    ·by_cases d:a=2
     ·subst d;rw[Zy,Zy,jQ];have:=g.out;split<;>omega
     ·rw[sT _ h0 c d,sT _ h0 c d,wX _ h0 c d];rfl
def W3(i:8000000000000<N)(j:b.I.length<=1000)(l:b.A.length<=1000)(c:U7 b.A.length b.I.length s)(d:U7 b.A.length b.I.length t)(g:∀m∈ms,dY b.A.length b.I.length m)(n:s.F.length<=4000000000000)(a:t.F.length<=4000000000000)(p:ms.length<=20000):∃v,Ko N b s t ms=some v/\(v=true↔∀o:Nat,VD b.A.length (Qn o) s ms t):=by
 obtain⟨v,e,k⟩:=ZV i j l c d g n a p;exact⟨v,e,k.trans (dP c d g)⟩
def PX.fit{W:Nat}{x:xq}(b:PX W x):Ze W x:=⟨b.len,λy a=>by have:=b.mem a;omega⟩
def Yi.fit(j:Yi b s):U7 b.A.length b.I.length s:=by
 have a:=j.rg.x;have g:=j.rg.outs;have i:=a.inns;have d:=a.own.sum0;have c:=(FP a.que 0).2;rw[Ah4,show GR ([]:List AY)=0 from rfl]at c;exact⟨a.own.len,λx j=>(a.own.all x j).fit,λl j=>⟨(a.que l j).1.fit,(a.que l j).2⟩,⟨a.inn,λx j=>by have:=IC a.inn0 x j;have:=a.inn0 x j;omega⟩,⟨a.out,λx h'=>by have:=IC j.rg.out0 x h';have:=j.rg.out0 x h';omega⟩⟩
def Af2.fit{m:AM}(a:Af2 b m):dY b.A.length b.I.length m:=⟨a.px.fit,a.fr,a.to⟩
def QB{l:xq}(a:l.length<=4000000000000):BR N l=some l:=by
 unfold BR;rw[Fu (by simp;omega)];rfl
def qM{l:List xq}(a:l.length<=4000000000000):Gk N l=some l:=by
 unfold Gk;rw[Fu (by simp;omega)];rfl
def qK{l:List AY}(a:l.length<=4000000000000):Cw N l=some l:=by
 unfold Cw;rw[Fu (by simp;omega)];rfl
def qO{l:List A8}(a:l.length<=4000000000000):By N l=some l:=by
 unfold By;rw[Fu (by simp;omega)];rfl
def yC{l:List ByteArray}(a:l.length<=1000):Fe N l=some l:=by
 unfold Fe;rw[Fu (by simp;omega)];rfl
def lV{l:List Ce}(a:l.length<=1000):Cf N l=some l:=by
 unfold Cf;rw[Fu (by simp;omega)];rfl
def SU{l:List B3}(a:l.length<=1000):BV N l=some l:=by
 unfold BV;rw[Fu (by simp;omega)];rfl
def qP{l:List Mf}(a:l.length<=1000):Cy N l=some l:=by
 unfold Cy;rw[Fu (by simp;omega)];rfl
def qL{l:List BG}(a:l.length<=1000):Cx N l=some l:=by
 unfold Cx;rw[Fu (by simp;omega)];rfl
def qH{l:List Li}(a:l.length<=1000):Cu N l=some l:=by
 unfold Cu;rw[Fu (by simp;omega)];rfl
def lW{l:List Jm}(a:l.length<=1000):Cg N l=some l:=by
 unfold Cg;rw[Fu (by simp;omega)];rfl
def qJ{l:List LU}(a:l.length<=1000):Cv N l=some l:=by
 unfold Cv;rw[Fu (by simp;omega)];rfl
def qI{l:List HD}(a:l.length<=1000):CS N l=some l:=by
 unfold CS;rw[Fu (by simp;omega)];rfl
def NC{α}{l:List α}{k:Nat}(a:k<l.length):upd l (k:Int) l[k]=l:=by
 unfold upd;simp
structure nL(b:AF):Prop where
 rm:b.Aj.length<=3
 pl:∀p∈b.A,p.An.length<=16/\p.U.length<=64
 li:∀l∈b.E,l.As.length<=32/\l.Ae.Aw.length<=32/\l.Ae.Ax.length<=32
def X1{N:Nat}(b:AF)(j:b.L<=64)(p:Ce)(a:Int)(kj:Int->Option Bool):∀(n:Nat)(s:Int)(k:Nat),k<=p.U.length->k<4611686018427387904->(k:Int)<=s+1->s<64->Cc N b p a kj n s (k:Int)=some true->p.U.length<=64
 |0,_,_,_,_,_,_,q=>by cases q
 |n+1,s,k,l,i,m,o,q=>by
  simp only[Cc]at q;rcases Ag7 k p.U.length with g|g
  ·rw[ER g,Ago,BC g,Agm]at q;obtain⟨c,d,q⟩:=bd q;cases c with
   |true=>cases q
   |false=>
    cases hd:(decide ((p.U[k]).Bg<=s)||decide (b.L<=(p.U[k]).Bg))with
    |true=>rw[hd]at d;cases d
    |false=>
     simp only[Ahk,Ahd]at hd;rw[Agq,BA i]at q;exact X1 b j p a kj n _ (k+1) g Ω Ω Ω q
  ·omega
def TW{N:Nat}{b:AF}(j:Ii b):∀(n:Nat)(s:Int)(k:Nat),0<=s->s+((b.A.length:Int)-k)*18014398509481984<=2305843009213693952->k<=b.A.length->B8 N b (CT N) n s (k:Int)=some true->∀p∈b.A.drop k,p.An.length<=16/\p.U.length<=64
 |0,s,k,h0,B,C,V=>by cases V
 |n+1,s,k,h0,B,C,V=>by
  have M:=j.own;have D:=j.pl;have F:=j.cells;simp only[B8]at V;rcases Ag7 k b.A.length with d|d
  ·rw[ER d,Ago,BC d,Agm]at V;obtain⟨_,_,V⟩:=bd V;obtain⟨_,_,V⟩:=bd V;obtain⟨_,_,V⟩:=bd V;obtain⟨_,_,V⟩:=bd V;obtain⟨_,_,V⟩:=bd V;obtain⟨m,_,V⟩:=bd V;obtain⟨o,g,V⟩:=bd V;obtain⟨q,t,u⟩:=bd V;cases q with
   |true=>cases u
   |false=>
    rw[Agq]at u;cases o with
    |true=>cases t
    |false=>
     cases a:(m||decide (((b.A[k]).An.length:Int)≠(b.I.length:Int)))with
     |true=>rw[a]at g;cases g
     |false=>
      simp only[Ahk,Ahd,ne_eq,Decidable.not_not]at a;have Q:(b.A[k]).An.length=b.I.length:=Ω
      obtain⟨v,w⟩:=Vh (N:=N) b.A[k] _ Ω N s 0 h0 Ω (Agr _) u;rw[List.drop_zero]at v w;have G:=X1 b Ω b.A[k] _ _ N (-1) 0 (Agr _) Ω Ω Ω v;have y:=X2 b b.A[k] _ _ N _ _ v;have H:=KX (l:=(b.A[k]).An) λx z=>(w x z).1;have J:=Ls (l:=(b.A[k]).An) (c:=1125899906842624) λx z=>(w x z).2;unfold C1 at y;rw[BA Ω]at y;have K:=TW j n _ (k+1) Ω Ω Ω y;rw[Ai2 d];intro p i;rcases Agv.1 i with rfl|i
      ·exact⟨Ω,G⟩
      ·exact K p i
  ·rw[Ais d];intro p i;cases i
def Un{N:Nat}{b:AF}(s:Ii b)(d:∀l∈b.E,LA b l):∀(n k:Nat),k<=b.E.length->CY N b (Dv N) n (k:Int)=some true->∀l∈b.E.drop k,l.As.length<=32/\l.Ae.Aw.length<=32/\l.Ae.Ax.length<=32
 |0,k,t,B=>by cases B
 |n+1,k,t,B=>by
  have u:=s.li;simp only[CY]at B;rcases Ag7 k b.E.length with c|c
  ·rw[ER c,Ago,BC c,Agm]at B;obtain⟨_,_,B⟩:=bd B;obtain⟨_,_,B⟩:=bd B;obtain⟨_,_,B⟩:=bd B;obtain⟨_,_,B⟩:=bd B;obtain⟨j,_,B⟩:=bd B;obtain⟨m,a,o⟩:=bd B;cases m with
   |true=>cases o
   |false=>
    rw[Agq,BA Ω]at o;have v:=Un s d n (k+1) c o;rw[Ai2 c];intro l q;rcases Agv.1 q with rfl|q
    ·by_cases g:(b.E[k]).H=0
     ·obtain⟨w,x,z,_⟩:=(d _ (Agy c)).gate g;exact⟨w.2.1,x.2.1,z.2.1⟩
     ·cases j with
      |true=>cases a
      |false=>
       rw[Agq]at a;obtain⟨y,i,a⟩:=bd a;unfold Fs at i;rw[Agx g,Bool.not_false,Bool.true_and]at i;cases hd:(((decide (0<((b.E[k]).As.length:Int))||decide (0<((b.E[k]).Ae.Aw.length:Int)))||decide (0<((b.E[k]).Ae.Ax.length:Int)))||decide ((b.E[k]).Bb≠0))with
       |true=>rw[hd,Ago]at i;cases i;cases a
       |false=>
        simp only[Ahk,Ahd]at hd;omega
    ·exact v l q
  ·rw[Ais c];intro p A;cases A
def pD(j:18446744073709551616<N)(o:HA N b=some true):nL b:=by
 obtain⟨k,_,g,i⟩:=TE j o;have m:=k.head.own;have n:=k.head.pl;refine⟨?_,?_,?_⟩
 ·unfold HA at o;obtain⟨l,a,o⟩:=bd o;cases l with
  |false=>
   simp only[Agq,Agm]at o;cases o
  |true=>
   unfold Ic at a;obtain⟨_,_,a⟩:=bd a;obtain⟨_,_,a⟩:=bd a;obtain⟨_,_,a⟩:=bd a;obtain⟨d,c,a⟩:=bd a;cases d with
   |true=>cases a
   |false=>
    by_cases e:(b.Aj.length:Int)≠3
    ·rw[Ag8 e,Bool.or_true,Ago]at c;cases c
    ·omega
 ·unfold Hw at g;exact TW k.head N 0 0 Ω Ω (Agr _) g
 ·unfold FY at i;exact Un k.head k.links N 0 (Agr _) i
def Wy(m:8000000000000<N)(o:s.D.length<=1000)(b:∀x∈s.D,x.length<=1000)(p:s.P.length<=1000)(c:s.F.length<=4000000000000)(d:∀l∈s.F,l.N.length<=1000)(q:s.Q.length<=1000)(t:s.K.length<=1000)(u:s.O.length<=1000):JM N s=some s:=by
 unfold JM;rw[qM Ω,Agm];have g:=M2 s.D.length (λn i=>EB N s.D (Ep N s) n i s.D) (Ep N s s.D) (λn k a=>by
  simp only[EB];rw[Ek a];rfl) (λn k a=>by
  simp only[EB];rw[ER a,Ago,BC a];simp only[Agm];rw[QB (by have:=b _ (Agy a);omega),Agm,NC a,BA Ω]) N 0 Ω (Agr _)
 rw[show EB N s.D (Ep N s) N 0 s.D=_ from g];unfold Ep;rw[qK c,Agm];have j:=M2 s.F.length (λn i=>EA N s.F (Eo N s s.D) n i s.F) (Eo N s s.D s.F) (λn k a=>by
  simp only[EA];rw[Ek a];rfl) (λn k a=>by
  simp only[EA];rw[ER a,Ago,BC a];simp only[Agm];rw[QB (by have:=d _ (Agy a);omega),Agm,NC a,BA Ω]) N 0 Ω (Agr _)
 rw[show EA N s.F (Eo N s s.D) N 0 s.F=_ from j];unfold Eo;rw[QB Ω,Agm,qO Ω,Agm,QB Ω,Agm,QB Ω,Agm]
def W0(p:8000000000000<N)(c:Kw b)(d:nL b):JO N b=some b:=by
 have q:=c.head.own;have s:=c.head.pl;have t:=c.head.li;have u:=c.head.to;have v:=c.head.ga;have w:=c.head.ro;have x:=c.head.sh;have y:=d.rm;unfold JO;rw[yC Ω,Agm,lV Ω,Agm];have g:=M2 b.A.length (λn i=>ED N b.A (Er N b b.I) n i b.A) (Er N b b.I b.A) (λn k a=>by
  simp only[ED];rw[Ek a];rfl) (λn k a=>by
  simp only[ED];have j:=(c.places _ (Agy a)).lev.2.1;obtain⟨l,m⟩:=d.pl _ (Agy a);rw[ER a,Ago,BC a];simp only[Agm];rw[SU Ω];simp only[Agm];rw[NC a,BC a];simp only[Agm];rw[QB Ω];simp only[Agm];rw[NC a,BC a];simp only[Agm];rw[qP Ω];simp only[Agm];rw[NC a,BA Ω]) N 0 Ω (Agr _)
 rw[show ED N b.A (Er N b b.I) N 0 b.A=_ from g];unfold Er;rw[qL Ω,Agm];have o:=M2 b.E.length (λn i=>EC N b.E (Eq N b b.I b.A) n i b.E) (Eq N b b.I b.A b.E) (λn k a=>by
  simp only[EC];rw[Ek a];rfl) (λn k a=>by
  simp only[EC];obtain⟨j,l,m⟩:=d.li _ (Agy a);rw[ER a,Ago,BC a];simp only[Agm];rw[SU Ω];simp only[Agm];rw[NC a,BC a];simp only[Agm];rw[SU Ω];simp only[Agm];rw[NC a,BC a];simp only[Agm];rw[SU Ω];simp only[Agm];rw[NC a,BA Ω]) N 0 Ω (Agr _)
 rw[show EC N b.E (Eq N b b.I b.A) N 0 b.E=_ from o];unfold Eq;rw[qH Ω,Agm,lW Ω,Agm,qJ Ω,Agm,qI Ω,Agm,QB Ω,Agm]
def Wz{i:AX}(j:eO i):JN N i=some i:=by
 obtain⟨a,b,c,d,g⟩:=j;unfold JN;rw[QB Ω,Agm];unfold Da Dq Dg Dh;rw[Fu (by simp;omega),Agm,Fu (by simp;omega),Agm,Fu (by simp;omega),Agm,Fu (by simp;omega),Agm];rfl
def aZ{α}(a b:List α)(s:a.length=b.length)(u:a.length<N)(f:Nat->Int->Option Bool)(q:α->α->Bool)(l:∀x y,q x y=true↔x=y)(c:∀n (k:Nat),a.length<=k->f (n+1) (k:Int)=some true)(d:∀n (k:Nat) (m:k<a.length) (g:k<b.length),f (n+1) (k:Int)=cond (q a[k] b[k]) (f n ((k+1:Nat):Int)) (some false)):∃v,f N 0=some v/\(v=true↔a=b):=by
 rcases YD a.length f (some true) (λk=>match a[k]?,b[k]? with|some x,some y=>q x y|_,_=>true) c (λn k o=>by
  have g:k<b.length:=Ω
  rw[d n k o g,Agw o,Agw g]) N 0 Ω (Agr _)with⟨m,g⟩|⟨⟨i,_,h3,j⟩,h5⟩
 ·refine⟨true,g,λ_=>List.ext_getElem s λi p t=>?_,λ_=>rfl⟩;have:=m i (Agr _) p;rw[Agw p,Agw t]at this;exact(l _ _).1 this
 ·refine⟨false,h5,λw=>(by cases w),λw=>?_⟩;subst w;rw[Agw h3]at j;have j:q a[i] a[i]=false:=j;rw[(l _ _).2 rfl]at j;cases j
def Afk(l:8000000000000<N)(a b:xq)(m:a.length<=1000):∃v,Hp N a b=some v/\(v=true↔a=b):=by
 unfold Hp;by_cases e:a.length=b.length
 ·rw[Agx Ω,Agq];exact aZ a b e Ω (λn i=>Dw N a b (Gj N) n i) (λx y=>decide (x=y)) (λx y=>decide_eq_true_iff) (λn k g=>by
   simp only[Dw];rw[Ek g];rfl) (λn k d j=>by
   simp only[Dw];rw[ER d,Ago,BC d,BC j];simp only[Agm];rw[BA Ω];by_cases c:a[k]=b[k]
   ·rw[Agx (by simpa using c),Ag8 c];rfl
   ·rw[Ag8 (by simpa using c),Agx c];rfl)
 ·rw[Ag8 Ω,Ago];exact⟨false,rfl,λm=>(by cases m),λm=>absurd (Agt List.length m) e⟩
def pY{α}(m:8000000000000<N)(vv:α->List Value)(g:∀x y,Rf (vv x) (vv y)=true↔x=y)(a b:List α)(o:a.length<=1000)(f:List α->List α->Option Bool->Nat->Int->Option Bool)(c:∀a b kj n i,f a b kj (n+1) i=cond (decide (i<(a.length:Int))) ((ix a i).bind λx=>(ix b i).bind λy=>cond (!(Rf (vv x) (vv y))) (some false) (f a b kj n (BO (i+1)))) kj):∃v,cond (decide ((a.length:Int)≠(b.length:Int))) (some false) (f a b (some true) N 0)=some v/\(v=true↔a=b):=by
 by_cases e:a.length=b.length
 ·rw[Agx Ω,Agq];exact aZ a b e Ω (λn i=>f a b (some true) n i) (λx y=>Rf (vv x) (vv y)) g (λn k j=>by
   simp only[c];rw[Ek j];rfl) (λn k d l=>by
   simp only[c];rw[ER d,Ago,BC d,BC l];simp only[Agm];rw[BA Ω];cases Rf (vv a[k]) (vv b[k])<;>rfl)
 ·rw[Ag8 Ω,Ago];exact⟨false,rfl,λo=>(by cases o),λo=>absurd (Agt List.length o) e⟩
def dQ(x y:HE):Rf x.v y.v=true↔x=y:=by cases x;cases y;simp[Rf,WA,HE.v]
def pZ(x y:L9):Rf x.v y.v=true↔x=y:=by cases x;cases y;simp[Rf,WA,L9.v]
def lE(x y:FO):Rf x.v y.v=true↔x=y:=by cases x;cases y;simp[Rf,WA,FO.v]
def lF(x y:I3):Rf x.v y.v=true↔x=y:=by cases x;cases y;simp[Rf,WA,I3.v]
def Sa{p q:Prop}{x:Option Bool}{b:Bool}(d:∃v,x=some v/\(v=true↔q))(a:b=true↔p):∃v,cond b (x.bind λy=>some y) (some false)=some v/\(v=true↔p/\q):=by
 obtain⟨v,rfl,c⟩:=d;cases b with
 |false=>exact⟨false,rfl,λd=>(by cases d),λd=>absurd (a.2 d.1) (by simp)⟩
 |true=>exact⟨v,rfl,λd=>⟨a.1 rfl,c.1 d⟩,λd=>c.2 d.2⟩
def WY(g:8000000000000<N)(x y:AX)(X:eO x):∃v,JL N x y=some v/\(v=true↔x=y):=by
 obtain⟨G,H,I,J,K⟩:=X;have j:∃v,Jx N (⟨x.U,y.U⟩:DP)=some v/\(v=true↔x.U=y.U):=by
  obtain⟨v,e,k⟩:=Afk g x.U y.U Ω;exact⟨v,by unfold Jx;simp only[e,Agm],k⟩
 have l:∃v,E6 N (⟨x.Ab,y.Ab⟩:Ke)=some v/\(v=true↔x.Ab=y.Ab):=by
  obtain⟨v,e,k⟩:=pY g HE.v dQ x.Ab y.Ab Ω (λa b kj n i=>CF N a b kj n i) (λ_ _ _ _ _=>rfl);exact⟨v,by unfold E6 DZ CV;simp only[e,Agm],k⟩
 have m:∃v,Fg N (⟨x.Ac,y.Ac⟩:OG)=some v/\(v=true↔x.Ac=y.Ac):=by
  obtain⟨v,e,k⟩:=pY g L9.v pZ x.Ac y.Ac Ω (λa b kj n i=>CN N a b kj n i) (λ_ _ _ _ _=>rfl);exact⟨v,by unfold Fg Dp Cq;simp only[e,Agm],k⟩
 have o:∃v,FE N (⟨x.V,y.V⟩:L7)=some v/\(v=true↔x.V=y.V):=by
  obtain⟨v,e,k⟩:=pY g FO.v lE x.V y.V Ω (λa b kj n i=>CJ N a b kj n i) (λ_ _ _ _ _=>rfl);exact⟨v,by unfold FE Dd CZ;simp only[e,Agm],k⟩
 have p:∃v,FG N (⟨x.Ad,y.Ad⟩:L8)=some v/\(v=true↔x.Ad=y.Ad):=by
  obtain⟨v,e,k⟩:=pY g I3.v lF x.Ad y.Ad Ω (λa b kj n i=>CL N a b kj n i) (λ_ _ _ _ _=>rfl);exact⟨v,by unfold FG De Ca;simp only[e,Agm],k⟩
 unfold JL;obtain⟨v1,q,s⟩:=j;obtain⟨M,t,u⟩:=Sa l s;obtain⟨Q,w,z⟩:=Sa m u;obtain⟨W,A,B⟩:=Sa o z;obtain⟨C,D,F⟩:=Sa p B;rw[q,Agm,t,Agm,w,Agm,A,Agm,D,Agm];refine⟨C,rfl,F.trans ?_⟩;constructor
 ·rintro⟨⟨⟨⟨a,b⟩,c⟩,d⟩,e⟩;cases x;cases y;simp_all
 ·rintro rfl;exact⟨⟨⟨⟨rfl,rfl⟩,rfl⟩,rfl⟩,rfl⟩
def gY{a:List (Int×Dy)}:C3 (vs++a) k=(C3 vs k).or (C3 a k):=by
 unfold C3;rw[Aj0];cases vs.find? λe=>decide (e.1=k)<;>rfl
def Px:C3 [] k=none:=rfl
def Ms:C3 (e::vs) k=if e.1=k then some e.2 else C3 vs k:=by
 unfold C3;rw[Aje];by_cases a:e.1=k
 ·rw[Ag8 a,Agp a];rfl
 ·rw[Agx a,Agn a]
def UL{p k:Int}{y:Dy}:∀{vs:List (Int×Dy)},C3 (Mo vs p y) k=if k=p then(C3 vs p).map (λ_=>y) else C3 vs k
 |[]=>by simp[Mo,Px]
 |e::vs=>by
  have b:=UL (p:=p) (k:=k) (y:=y) (vs:=vs);unfold Mo at b ⊢;rw[Ag9,Ms,Ms,Ms,b];by_cases c:e.1=p
  ·subst c;by_cases a:k=e.1
   ·subst a;simp
   ·simp[a,Ne.symm a]
  ·by_cases a:k=p
   ·subst a;simp[c]
   ·simp[c,a]
def UM{c:Int}{x y z:Dy}(b:C3 vs p=some x)(i:C3 vs c=none):C3 (Mo vs p y++[(c,z)]) k=if k=c then some z else if k=p then some y else C3 vs k:=by
 rw[gY,UL,Ms,Px,b];have d:p≠c:=λe=>by rw[e,i]at b;cases b
 by_cases g:k=c
 ·subst g;rw[Agp rfl,Agn (Ne.symm d),i,Agp rfl];rfl
 ·rw[Agn g,Agn (Ne.symm g)];by_cases a:k=p
  ·rw[Agp a,Agp a];rfl
  ·rw[Agn a,Agn a];cases C3 vs k<;>rfl
structure VK(N:Nat)(b:AF)(s:AH)(vs:List (Int×Dy))(c:Nat):Prop where
 key:∀k x,C3 vs k=some x->0<=k/\k<(c:Int)
 root:∃x,C3 vs 0=some x/\x.par= -1/\x.st=s
 node:∀k x,C3 vs k=some x->k≠0->∃y ms pk,0<=x.par/\x.par<k/\C3 vs x.par=some y/\Aa0 N b y.st x.inp (x.st,ms,pk)
 kid:∀k x j,C3 vs k=some x->j∈x.kids->∃z,C3 vs j=some z/\z.par=k
 all:∀j z,C3 vs j=some z->j≠0->∃y,C3 vs z.par=some y/\j∈y.kids
 ql:∀k x,C3 vs k=some x->Yi b x.st/\(x.st.F.length:Int)<=s.F.length+232*k/\x.kids.length<=c/\eO x.inp
 len:vs.length<=c
def VK.par(m:VK N b s vs c){x:Dy}(i:C3 vs k=some x):x.par<k/\(k≠0->(C3 vs x.par).isSome=true)/\(k=0->x.par= -1):=by
 by_cases e:k=0
 ·subst e;obtain⟨y,a,d,_⟩:=m.root;rw[i]at a;cases a;exact⟨Ω,λg=>absurd rfl g,λ_=>d⟩
 ·obtain⟨y,ms,l,a,d,j,_⟩:=m.node k x i e;exact⟨d,λ_=>by rw[j];rfl,λg=>absurd g e⟩
def VK.neg1(g:VK N b s vs c)(d:k<0):C3 vs k=none:=by
 cases a:C3 vs k with
 |none=>rfl
 |some x=>have:=(g.key k x a).1;omega
def VK.big(g:VK N b s vs c)(d:(c:Int)<=k):C3 vs k=none:=by
 cases a:C3 vs k with
 |none=>rfl
 |some x=>have:=(g.key k x a).2;omega
def VK.add(h:VK N b s vs c){x:Dy}(u:C3 vs p=some x)(Y:eO inp)(o:Aa0 N b x.st inp y):VK N b s (Mo vs p { x with kids:=x.kids++[(c:Int)]}++[((c:Int),⟨p,inp,y.1,[]⟩)]) (c+1):=by
 have W:C3 vs (c:Int)=none:=h.big (Ahq _);obtain⟨G,H⟩:=h.key p x u;have v:=λk=>UM (k:=k) (y:={ x with kids:=x.kids++[(c:Int)]}) (z:=⟨p,inp,y.1,[]⟩) u W;generalize Z:Mo vs p { x with kids:=x.kids++[(c:Int)]}++[((c:Int),(⟨p,inp,y.1,[]⟩:Dy))]=V at v ⊢
 have A:∀k z,C3 vs k=some z->∃a,C3 V k=some a/\a.par=z.par/\a.inp=z.inp/\a.st=z.st/\∀j∈z.kids,j∈a.kids:=λk z d=>by
  have I:k≠c:=λe=>by rw[e,W]at d;cases d
  rw[v,Agn I];by_cases e:k=p
  ·subst e;rw[u]at d;cases d;exact⟨_,Agp rfl,rfl,rfl,rfl,λj i=>Ait _ i⟩
  ·exact⟨z,by rw[Agn e];exact d,rfl,rfl,rfl,λj i=>i⟩
 have g:∀k a,C3 V k=some a->(k=c/\a=⟨p,inp,y.1,[]⟩)\/(k≠c/\∃z,C3 vs k=some z/\a.par=z.par/\a.inp=z.inp/\a.st=z.st/\(∀j∈a.kids,j∈z.kids\/(j=c/\k=p))/\a.kids.length<=z.kids.length+1):=λk a d=>by
  rw[v]at d;by_cases e:k=c
  ·rw[Agp e]at d;cases d;exact .inl ⟨e,rfl⟩
  ·rw[Agn e]at d;by_cases D:k=p
   ·rw[Agp D]at d;cases d;refine .inr ⟨e,x,by rw[D];exact u,rfl,rfl,rfl,λj i=>?_,by simp⟩;rcases Ahi.1 i with i|i
    ·exact .inl i
    ·exact .inr ⟨Aho.1 i,D⟩
   ·rw[Agn D]at d;exact .inr ⟨e,a,d,rfl,rfl,rfl,λj i=> .inl i,Ω⟩
 have J:C3 V (c:Int)=some ⟨p,inp,y.1,[]⟩:=by rw[v,Agp rfl]
 have aa:=h.ql p x u;refine⟨λk a d=>?_,?_,λk a d K=>?_,λk a j d i=>?_,λj a d M=>?_,λk a d=>?_,?_⟩
 ·rcases g k a d with⟨rfl,_⟩|⟨_,z,l,_⟩
  ·omega
  ·have:=h.key k z l;omega
 ·obtain⟨z,l,n,B⟩:=h.root;obtain⟨a,m,Q,_,C,_⟩:=A 0 z l;exact⟨a,m,Q.trans n,C.trans B⟩
 ·rcases g k a d with⟨rfl,rfl⟩|⟨_,z,l,n,B,h4,_⟩
  ·obtain⟨x',m,_,_,C,_⟩:=A p x u;exact⟨x',y.2.1,y.2.2,G,H,m,by rw[C];exact o⟩
  ·obtain⟨w,ms,pk,q,t,X,U⟩:=h.node k z l K;obtain⟨w',m,_,_,C,_⟩:=A _ w X;exact⟨w',ms,pk,by rw[n];exact q,by rw[n];exact t,by rw[n];exact m,by rw[C,B,h4];exact U⟩
 ·rcases g k a d with⟨_,rfl⟩|⟨_,z,l,_,_,_,h5,_⟩
  ·cases i
  ·rcases h5 j i with i|⟨rfl,rfl⟩
   ·obtain⟨w,q,t⟩:=h.kid k z j l i;obtain⟨w',m,Q,_⟩:=A j w q;exact⟨w',m,Q.trans t⟩
   ·exact⟨_,J,rfl⟩
 ·rcases g j a d with⟨rfl,rfl⟩|⟨_,z,l,n,_⟩
  ·exact⟨{ x with kids:=x.kids++[(c:Int)]},by show C3 V p=_;rw[v,Agn Ω,Agp rfl],by simp⟩
  ·obtain⟨w,q,t⟩:=h.all j z l M;obtain⟨w',m,_,_,_,k5⟩:=A _ w q;exact⟨w',by rw[n];exact m,k5 j t⟩
 ·rcases g k a d with⟨rfl,rfl⟩|⟨_,z,l,_,B,h4,_,h6⟩
  ·have ab:=o.ql;exact⟨o.rg,by show(y.1.F.length:Int)<=_;omega,Agr _,Y⟩
  ·obtain⟨q,t,X,U⟩:=h.ql k z l;exact⟨by rw[h4];exact q,by rw[h4];exact t,Ω,by rw[B];exact U⟩
 ·rw[<-Z,Ahh];have:=h.len;simp[Mo];exact this
def uB{N:Nat}(m:8000000000000<N){vs:List (Int×Dy)}{p:Int}{ks:xq}{inp:AX}{fd:Int->Option (Int×Int×Option F8)}{kj:Option (Int×Int×Option F8)}(d:∀k∈ks,k≠p/\∃z,C3 vs k=some z/\eO z.inp)(o:ks.length<=1000):∀(n i:Nat),ks.length<n+i->i<=ks.length->(∃k∈ks,∃z,C3 vs k=some z/\z.inp=inp/\E4 N vs p ks inp fd kj n (i:Int)=fd k)\/((∀k∈ks.drop i,∀z,C3 vs k=some z->z.inp≠inp)/\E4 N vs p ks inp fd kj n (i:Int)=kj)
 |0,i,w,q=>Ω
 |n+1,i,w,q=>by
  simp only[E4];rcases Ag7 i ks.length with a|a
  ·obtain⟨s,z,g,j⟩:=d _ (Agy a);rw[ER a,Ago,BC a,Agm,Agx s,Agq,g,Agm];obtain⟨v,t,kv⟩:=WY m z.inp inp j;rw[t,Agm];cases v with
   |true=>exact .inl ⟨_,Agy a,z,g,kv.1 rfl,rfl⟩
   |false=>
    rw[Agq,BA Ω];rcases uB m d o n (i+1) Ω a with l|⟨l,h3⟩
    ·exact .inl l
    ·refine .inr ⟨λk b u c=>?_,h3⟩;rw[Ai2 a]at b;rcases Agv.1 b with rfl|b
     ·rw[g]at c;cases c;exact λe=>by have:=kv.2 e;cases this
     ·exact l k b u c
  ·rw[Ek a,Agq,Ais a];exact .inr ⟨λk d=>by(cases d),rfl⟩
def Aad(H:18446744073709551616<N)(I:Vb b)(U:s.F.length+100000<=4000000000000)(h:VK N b s vs c)(V:c<=200)(j:eO inp)(p:Int):
  (C3 vs p=none/\Dt N (some ⟨b,vs,c⟩) p inp=some (0,11,some ⟨b,vs,c⟩))\/∃x,C3 vs p=some x/\
   ((x.st.B=16777216/\Dt N (some ⟨b,vs,c⟩) p inp=some (0,15,some ⟨b,vs,c⟩))\/
   (x.st.B<16777216/\∃k z,C3 vs k=some z/\k≠0/\z.par=p/\z.inp=inp/\Dt N (some ⟨b,vs,c⟩) p inp=some (k,0,some ⟨b,vs,c⟩))\/
   (x.st.B<16777216/\(∀k z,C3 vs k=some z->k≠0->z.par=p->z.inp≠inp)/\∃y d,Aa0 N b x.st inp y/\d=Mo vs p { x with kids:=x.kids++[(c:Int)]}++[((c:Int),⟨p,inp,y.1,[]⟩)]/\Dt N (some ⟨b,vs,c⟩) p inp=some ((c:Int),0,some ⟨b,d,((c+1:Nat):Int)⟩)/\VK N b s d (c+1))):=by
 unfold Dt;rw[Agm];cases i:C3 vs p with
 |none=>exact .inl ⟨rfl,rfl⟩
 |some x=>
  refine .inr ⟨x,rfl,?_⟩;obtain⟨v,W,X,Y⟩:=h.ql p x i;obtain⟨J,K⟩:=h.key p x i;have Z:=v.rg.hour;simp only[Option.isSome_some,Ahm,Agq,Agm];by_cases l:x.st.B=16777216
  ·rw[Ag8 l,Ago];exact .inl ⟨l,rfl⟩
  ·rw[Agx l,Agq];have g:x.st.B<16777216:=Ω
   refine .inr ?_;have m:∀k∈x.kids,k≠p/\∃z,C3 vs k=some z/\eO z.inp:=λk n=>by
    obtain⟨z,a,A⟩:=h.kid p x k i n;have:=(h.par a).1;exact⟨Ω,z,a,(h.ql k z a).2.2.2⟩
   rcases uB (N:=N) Ω (fd:=λk=>some (k,0,some ⟨b,vs,c⟩)) (kj:=Ik N ⟨b,vs,c⟩ p inp x) (inp:=inp) m Ω N 0 Ω (Agr _)with⟨k,n,z,a,A,q⟩|⟨a,q⟩
   ·obtain⟨z',C,M⟩:=h.kid p x k i n;rw[a]at C;cases C;have:=(h.par a).1;exact .inl ⟨g,k,z,a,Ω,M,A,q⟩
   ·rw[List.drop_zero]at a;obtain⟨y,o⟩:=jL H I v g Ω j;have hl:=h.len;refine .inr ⟨g,λk z D t u=>?_,y,_,o,rfl,?_,h.add i j o⟩
    ·obtain⟨w,G,Q⟩:=h.all k z D t;rw[u,i]at G;cases G;exact a k Q z D
    ·rw[show E4 N vs p x.kids inp _ _ N 0=_ from q];unfold Ik;rw[Agx (by show ¬4096<=(vs.length:Int);omega),Agq,Wz j,Agm,o.er,Agm,show C3 vs (c:Int)=none from h.big (Ahq _)];simp only[Ajs,Agq];rw[Fu Ω,BA Ω]
def oA(vs:List (Int×Dy)):Nat->Int->xq
 |0,_=>[]
 |n+1,id=>match C3 vs id with
  |none=>[]
  |some x=>id::oA vs n x.par
def Ry{n:Nat}{id:Int}(a:C3 vs id=none):oA vs n id=[]:=by
 cases n with
 |zero=>rfl
 |succ n=>unfold oA;rw[a]
def Rx{n:Nat}{id:Int}{x:Dy}(a:C3 vs id=some x):oA vs (n+1) id=id::oA vs n x.par:=by
 rw[oA,a]
def Xf{N:Nat}{b:AF}{s:AH}{vs:List (Int×Dy)}{c:Nat}(i:VK N b s vs c):∀(m k:Nat)(id:Int),id<m->m<=k->oA vs k id=oA vs m id
 |0,k,id,d,_=>by rw[Ry (i.neg1 d)];rfl
 |m+1,k,id,d,g=>by
  cases a:C3 vs id with
  |none=>rw[Ry a,Ry a]
  |some x=>
   obtain⟨k,rfl⟩:∃j,k=j+1:=⟨k-1,Ω⟩
   have:=(i.par a).1;rw[Rx a,Rx a,Xf i m k x.par Ω Ω]
def Ad1{id:Int}:IH N (some ⟨b,vs,cr⟩) id=some (match C3 vs id with|none=>(st0,11)|some x=>(x.st,0)):=by
 unfold IH;rw[Agm];cases C3 vs id<;>rfl
def xS(p:8000000000000<N)(b:AF)(l:List BT):∃v,Jy N b l=some v/\(v=true->b.A.length<=6/\b.E.length<=6/\l.length<=16/\∀x∈l,eO x.K/\x.Bm.length<=8/\x.K.U.length<=8):=by
 unfold Jy;cases g:((decide (6<(b.A.length:Int))||decide (6<(b.E.length:Int)))||decide (16<(l.length:Int)))with
 |true=>exact⟨false,rfl,λD=>by cases D⟩
 |false=>
  simp only[Ahk,Ahd]at g;obtain⟨⟨q,s⟩,u⟩:=g;rw[Agq];rcases M3 l.length (λn i (_:Unit)=>FH N l (Hh N) n i) (λ_=>Hh N) (some false) (λk _=>∀x∈l.take k,eO x.K/\x.Bm.length<=8/\x.K.U.length<=8) (λn k t c=>by
   simp only[FH];rw[Ek c];rfl) (λn k t d c=>by
   simp only[FH];rw[ER c,Ago,BC c,Agm,BA Ω];cases m:((((decide (8<((l[k]).K.U.length:Int))||decide (6<((l[k]).K.Ab.length:Int)))||decide (6<((l[k]).K.Ac.length:Int)))||decide (6<((l[k]).K.V.length:Int)))||decide (6<((l[k]).K.Ad.length:Int)))
   ·simp only[Ahk,Ahd]at m;obtain⟨⟨⟨⟨w,y⟩,z⟩,B⟩,C⟩:=m;rw[Agq,Agm,Agm];by_cases o:8<((l[k]).Bm.length:Int)
    ·rw[Ag8 o];exact .inl rfl
    ·rw[Agx o];refine .inr ⟨(),λj a=>?_,rfl⟩;rw[Ah8 c]at a;rcases Ahi.1 a with a|a
     ·exact d j a
     ·cases Aho.1 a;exact⟨⟨Ω,Ω,Ω,Ω,Ω⟩,Ω,Ω⟩
   ·exact .inl rfl) N 0 () (λi d=>by cases d) Ω (Agr _)with e|⟨_,i1,e⟩
  ·exact⟨false,e,λD=>by cases D⟩
  ·rw[Ahe]at i1;exact⟨true,e,λ_=>⟨Ω,Ω,Ω,i1⟩⟩
def Aek(b:AF)(s:AH):F8:=⟨b,[(0,⟨-1,kO,s,[]⟩)],((1:Nat):Int)⟩
def mP(i:18446744073709551616<N)(b:AF)(s:AH)(l:s.F.length<=4000000000000):∃t,Il N b s=some t/\(t=none\/(t=some (Aek b s)/\HA N b=some true/\Yi b s)):=by
 unfold Il;obtain⟨v,c,kv⟩:=Xy i b;cases v with
 |false=>rw[c];exact⟨none,rfl,.inl rfl⟩
 |true=>
  rw[c,Agm,Ahm,Agq];obtain⟨a,p,_,_⟩:=TE i c;obtain⟨v,j,n⟩:=cP (N:=N) Ω a.head a.places s l;cases v with
  |false=>rw[j];exact⟨none,rfl,.inl rfl⟩
  |true=>
   have m:=n rfl;have x:=m.rg.x;have q:=a.head.own;have o:=a.head.pl;have u:=a.head.li;have w:=x.own.len;have z:=x.rem;have A:=x.gates;have B:=x.inn;have C:=x.out;have d:8000000000000<N:=Ω
   have g:LI N b s=some (some (Aek b s)):=by
    unfold LI;rw[c,Agm,Ahm,Agq,j,Agm,Agm,Ahm,Agq,Wy d Ω (λy k=>by have:=(x.own.all y k).len;omega) Ω l (λy k=>by have:=(x.que y k).1.len;omega) Ω Ω Ω,Agm,W0 d a (pD i c),Agm];rfl
   rw[j,Agm,Agm,Ahm,Agq,g];exact⟨_,rfl,.inr ⟨rfl,rfl,m⟩⟩
def vk1(c:Yi b s):VK N b s [(0,⟨-1,kO,s,[]⟩)] 1:=by
 have a:∀k x,C3 [(0,(⟨-1,kO,s,[]⟩:Dy))] k=some x->k=0/\x=⟨-1,kO,s,[]⟩:=λk x g=>by
  rw[Ms,Px]at g;by_cases e:(0:Int)=k
  ·rw[Agp e]at g;cases g;exact⟨e.symm,rfl⟩
  ·rw[Agn e]at g;cases g
 refine⟨λk x g=>?_,⟨_,rfl,rfl,rfl⟩,λk x g h0=>absurd (a k x g).1 h0,λk x j g d=>?_,λk x g h0=>absurd (a k x g).1 h0,λk x g=>?_,Ag5 _⟩
 ·obtain⟨rfl,_⟩:=a k x g;omega
 ·obtain⟨_,rfl⟩:=a k x g;cases d
 ·obtain⟨rfl,rfl⟩:=a k x g;exact⟨c,by show(s.F.length:Int)<=_;omega,Agr _,⟨Agr _,Agr _,Agr _,Agr _,Agr _⟩⟩
def Z1:Fp BN=some true:=by decide +kernel
def Xj{k:Int}:∀{vs:List (Int×Dy)},(C3 vs k).isSome=true↔k∈vs.map λe=>e.1
 |[]=>by simp[Px]
 |e::vs=>by
  rw[Ms,Ag9,Agv];by_cases b:e.1=k
  ·rw[Agp b];simp[b]
  ·rw[Agn b,Xj];exact⟨.inr,λa=>a.elim (λe=>absurd e.symm b) λx=>x⟩
def Yx{y:Dy}:((Mo vs p y).map λe=>e.1)=vs.map λe=>e.1:=by
 unfold Mo;rw[List.map_map];apply Ai3;intro e _;show(if e.1=p then(p,y) else e).1=e.1
 by_cases a:e.1=p
 ·rw[Agp a];exact a.symm
 ·rw[Agn a]
def KN(vs:List (Int×Dy)):Prop:=(vs.map λe=>e.1).Nodup
def KN.add(j:KN vs){c:Int}{y z:Dy}(i:C3 vs c=none):KN (Mo vs p y++[(c,z)]):=by
 unfold KN;rw[Ah5,Yx];refine Ajw.2 ⟨j,by simp,λa d b g e=>?_⟩;rw[Ag9,List.map_nil,Aho]at g;rw[e,g]at d;have:=Xj.2 d;rw[i]at this;cases this
structure FI(vs:List (Int×Dy))(c:Nat)(P:List (List AX)):Prop where
 len:P.length=c
 one:1<=c
 p0:P[0]? =some []
 nd:KN vs
 bd:∀p∈P,p.length<=c
 pt:∀k x,C3 vs k=some x->k≠0->∃q,P[x.par.toNat]? =some q/\P[k.toNat]? =some (q++[x.inp])
def sD:FI [(0,⟨-1,kO,s,[]⟩)] 1 [[]]:=
 ⟨rfl,Ag5 _,rfl,by simp[KN],λp b=>(by rw[Aho.1 b];exact Agr _),λk x a c=>(by(rw[Ms,Px,Agn (λe=>c e.symm)]at a;cases a))⟩
def FI.add{P:List (List AX)}(C:FI vs c P)(w:VK N b s vs c){x:Dy}(m:C3 vs p=some x)(A:eO inp){y:AH}{q:List AX}(n:P[p.toNat]? =some q):FI (Mo vs p { x with kids:=x.kids++[(c:Int)]}++[((c:Int),⟨p,inp,y,[]⟩)]) (c+1) (P++[q++[inp]]):=by
 have o:C3 vs (c:Int)=none:=w.big (Ahq _);have t:=C.len;have B:=C.one;have a:∀{i:Nat}{r:List AX},P[i]? =some r->(P++[q++[inp]])[i]? =some r:=λ{i r} d=>by
  rw[Aj6 (Ag0.1 d).1];exact d
 refine⟨by rw[Ahh,t];rfl,Ω,a C.p0,C.nd.add o,λr d=>?_,λk z g u=>?_⟩
 ·rcases Ahi.1 d with d|d
  ·have:=C.bd r d;omega
  ·rw[Aho.1 d,Ahh];have:=C.bd q (Ahx n);simpa using this
 ·rw[UM m o]at g;by_cases e:k=c
  ·subst e;rw[Agp rfl]at g;cases g;refine⟨q,a n,?_⟩;rw[Ahl,Aj7 Ω,t];simp
  ·rw[Agn e]at g;by_cases v:k=p
   ·subst v;rw[Agp rfl]at g;cases g;obtain⟨r,j,l⟩:=C.pt k x m u;exact⟨r,a j,a l⟩
   ·rw[Agn v]at g;obtain⟨r,j,l⟩:=C.pt k z g u;exact⟨r,a j,a l⟩
def FI.path{P:List (List AX)}(W:FI vs c P)(g:VK N b s vs c):∀(m k:Nat)(x:Dy),k<m->C3 vs (k:Int)=some x->∃q n ms p,P[k]? =some q/\UD N b s q n ms p x.st/\q.length+1=(oA vs c (k:Int)).length:=by
 intro m
 induction m with
 |zero=>intro k x J;omega
 |succ m z=>
  intro k x A d;have B:=g.key k x d;obtain⟨c',rfl⟩:∃j,c=j+1:=⟨c-1,Ω⟩
  by_cases h0:k=0
  ·subst h0;obtain⟨K,t,C,D⟩:=g.root;have i:C3 vs 0=some x:=d;rw[i]at t;cases t;refine⟨[],[],[],[],W.p0,by rw[D];exact .nil s,?_⟩;rw[Rx d,C,Ry (g.neg1 Ω)];rfl
  ·obtain⟨y,ms,M,Q,F,u,o⟩:=g.node k x d Ω;obtain⟨j,l⟩:∃j:Nat,x.par=(j:Int):=⟨x.par.toNat,Ω⟩
   rw[l]at F u;obtain⟨q,n,U,p,G,H,I⟩:=z j y Ω u;obtain⟨V,v,w⟩:=W.pt k x d Ω;rw[l,Ahl,G]at v;cases v;rw[Ahl]at w;refine⟨_,_,_,_,w,H.app (.cons o (.nil _)),?_⟩;rw[Rx d,l,Ahh,Ain (a:=(k:Int)),<-Xf g c' (c'+1) j Ω Ω,<-I];rfl
def uI(s:AH):Int:=Fa s.D+GR s.F+s.O.sum-s.K.sum
def Aa0.lit(d:18446744073709551616<N)(c:Vb b){i:AX}(o:Aa0 N b s i y):uI y.1=uI s:=by
 obtain⟨k,g,m,l,_,n,p,v,q,_⟩:=o.ex;have a:=W6 d c.r.head o.rg0.rg v;have j:y.1.K.sum=s.K.sum+g.sum:=by rw[v.inn,I9 (by rw[o.rg0.rg.x.inn,Mr]),RS c.r.head.own1]
 have t:=a.tot;have u:=a.os;unfold uI;omega
def UD.lit(a:18446744073709551616<N)(d:Vb b){l:List AX}{g:List AH}{i:List xq}(k:UD N b s l g ms i t):uI t=uI s:=by
 induction k with
 |nil s=>rfl
 |cons o c j=>rw[j,o.lit a d]
def Vv(a:8000000000000<N)(g:Ii b)(c:Yi b s)(i:s.F.length<=4000000000000):Hg N s=some (Fa s.D+GR s.F+s.O.sum)/\Dr N s.K=some s.K.sum:=by
 have m:=g.own;have n:=g.pl;have x:=c.rg.x;have o:=x.inn;have p:=x.out;have q:=x.inns;have t:=c.rg.outs;have u:=x.tot;have j:=x.own.sum0;have d:=(FP x.que 0).2;rw[Ah4,show GR ([]:List AY)=0 from rfl]at d;have w:=KX c.rg.out0;have y:=KX x.inn0;obtain⟨v,k,v1,l,_⟩:=oC (P:=b.A.length) (W:=b.I.length) a Ω x.own Ω i x.que x.inn x.tot;refine⟨?_,R4 a Ω x.inn0 Ω⟩;unfold Hg;rw[k,Agm,v1.total a Ω,Agm,R4 a Ω c.rg.out0 Ω,Agm,l,TH N Ω Ω Ω Ω,Agm]
def ZN(d:8000000000000<N){l:List AX}{a:List AH}{c:List xq}(i:UD N b s l a ms c t)(g:l.length<=400):MT N b s l=some (a,ms,c):=by
 unfold MT;exact ZM (ins:=l) (kj:=Kh N) i 0 N [] [] [] rfl Ω Ω (by simp;omega) (by simp;omega) (by simp;omega)
def WN(vs:List (Int×Dy))(c:Nat):Prop:=∀k:Nat,k<c->∃x,C3 vs (k:Int)=some x
def WN.add(i:WN vs c){x y z:Dy}(b:C3 vs p=some x)(d:C3 vs (c:Int)=none):WN (Mo vs p y++[((c:Int),z)]) (c+1):=λk g=>by
 rw[UM b d];by_cases e:(k:Int)=c
 ·exact⟨z,Agp e⟩
 ·rw[Agn e];by_cases a:(k:Int)=p
  ·exact⟨y,Agp a⟩
  ·rw[Agn a];exact i k Ω
def qE(g:8000000000000<N){P:List (List AX)}{k:Nat}{q:List AX}(b:ix P (k:Int)=some q)(l:q.length<=1000){kj:Option Bool}:CI N true P (k:Int) kj N 0=some true\/((∀i∈q,i.Ad=[])/\CI N true P (k:Int) kj N 0=kj):=by
 rcases M3 q.length (λn i (_:Unit)=>CI N true P (k:Int) kj n i) (λ_=>kj) (some true) (λj _=>∀i∈q.take j,i.Ad=[]) (λn j t c=>by
  simp only[CI];rw[b,Agm,Agm,Ek c];rfl) (λn j t d c=>by
  simp only[CI];rw[b];simp only[Agm];rw[ER c,Ago,BC c,Agm,BA Ω];by_cases e:0<((q[j]).Ad.length:Int)
  ·rw[Ag8 e];exact .inl rfl
  ·rw[Agx e,Agq];refine .inr ⟨(),λi a=>?_,rfl⟩;rw[Ah8 c]at a;rcases Ahi.1 a with a|a
   ·exact d i a
   ·rw[Aho.1 a];exact List.length_eq_zero_iff.1 Ω) N 0 () (λi d=>by(cases d)) Ω (Agr _)with e|⟨_,i1,e⟩
 ·exact .inl e
 ·rw[Ahe]at i1;exact .inr ⟨i1,e⟩
def qF(y:18446744073709551616<N)(p:Vb b)(z:Yi b s)(V:s.F.length+100000<=4000000000000){P:List (List AX)}(h:FI vs c P)(A:VK N b s vs c)(H:WN vs c)(W:c<=80):B0 N b s true P (some ⟨b,vs,cr⟩) (some true) N 0=some true:=by
 have X:=h.len;have a:8000000000000<N:=Ω
 have d:=p.r.head;have Y:=d.own;have I:=d.pl;obtain⟨J,t2⟩:=Vv a d z Ω;rcases M3 c (λn i (_:Unit)=>B0 N b s true P (some ⟨b,vs,cr⟩) (some true) n i) (λ_=>some true) (some true) (λ_ _=>True) (λn k t B=>by
  simp only[B0];rw[Ek Ω];rfl) (λn k t _ B=>by
  obtain⟨x,u⟩:=H k B;obtain⟨q,Z,ms,ps,C,j,p3⟩:=h.path A (k+1) k x Ω u;obtain⟨D,m2,_⟩:=A.ql k x u;have K:=h.bd q (Ahx C);have l:ix P (k:Int)=some q:=by unfold Go.Proofs.YtabonambpbofgaaGreat.ix;rw[Agn Ω,Ahl];exact C
  obtain⟨M,Q⟩:=Vv a d D Ω;have g:=j.lit y p;unfold uI at g;simp only[B0];rw[ER Ω,Ago,Ad1,u];simp only[Agm];rw[show(decide ((0:Int)≠0))=false from rfl,Agq,M,Agm,Q,Agm,J,Agm,t2,Agm,Agm,g];simp only[ne_eq,not_true_eq_false,decide_false,Agq];rcases qE (N:=N) a l Ω (kj:=Du N b s P (k:Int) (x.st,0) (B0 N b s true P (some ⟨b,vs,cr⟩) (some true) n))with e|⟨h0,e⟩
  ·exact .inl e
  ·refine .inr ⟨(),trivial,?_⟩;rw[e];unfold Du;obtain⟨n1,n2,n3⟩:=j.len;have w:=j.mvk d;obtain⟨v,G,kv⟩:=W3 a Ω Ω z.fit D.fit (ms:=ms) (λm U=>(w m U).fit) Ω Ω Ω;rw[kv.2 λo=>j.keepS y p (xC _ o) h0]at G;rw[l];simp only[Agm];rw[ZN a j Ω];simp only[Agm];rw[G,Agm,Ahm,Agq,BA Ω]) N 0 () trivial Ω (Agr _)with e|⟨_,_,e⟩
 ·exact e
 ·exact e
def qG(C:18446744073709551616<N)(D:Vb b)(G:Yi b s)(H:s.F.length+100000<=4000000000000){l:List BT}(V:l.length<=16)(v:∀x∈l,eO x.K):∃vs c P,VK N b s vs c/\FI vs c P/\WN vs c/\c<=17/\B6 N l kj N [[]] 0 (some (Aek b s))=kj P (some ⟨b,vs,(c:Int)⟩):=by
 obtain⟨⟨P,t⟩,⟨vs,c,rfl,a,d,p,I⟩,J⟩:=EO l.length (λn i (z:List (List AX)×Option F8)=>B6 N l kj n z.1 i z.2) (λz=>kj z.1 z.2) (λk z=>∃vs c,z.2=some ⟨b,vs,((c:Nat):Int)⟩/\VK N b s vs c/\FI vs c z.1/\WN vs c/\c<=k+1) (λn k z u=>by
  simp only[B6];rw[Ek u];rfl) (λn k z M u=>by
  obtain⟨P,t⟩:=z;obtain⟨vs,c,rfl,a,d,p,I⟩:=M;have d:FI vs c P:=d;have Q:P.length=c:=d.len;simp only[B6];rw[ER u,Ago,BC u];simp only[Agm];unfold EY;have B:=v _ (Agy u);rcases Aad C D H a Ω B (l[k]).Bf with⟨_,g⟩|⟨x,hx2,⟨_,g⟩|⟨_,j,z,hz,hj0,_,_,g⟩|⟨_,_,y,vs',o,rfl,g,a1⟩⟩
  ·rw[g,Agm,BA Ω];exact⟨(P,_),⟨_,c,rfl,a,d,p,Ω⟩,rfl⟩
  ·rw[g,Agm,BA Ω];exact⟨(P,_),⟨_,c,rfl,a,d,p,Ω⟩,rfl⟩
  ·have W:=a.key j z hz;rw[g,Agm,Agx (show ¬(j=(P.length:Int))from Ω),Bool.and_false,BA Ω];exact⟨(P,_),⟨_,c,rfl,a,d,p,Ω⟩,rfl⟩
  ·have X:=a.key _ x hx2;have w:(l[k]).Bf.toNat<P.length:=Ω
   obtain⟨q,m⟩:∃q,P[(l[k]).Bf.toNat]? =some q:=⟨_,Agw w⟩
   have A:ix P (l[k]).Bf=some q:=by unfold Go.Proofs.YtabonambpbofgaaGreat.ix;rw[Agn Ω];exact m
   have U:=d.bd q (Ahx m);rw[g,Agm,Ag8 (show((c:Int)=(P.length:Int))from Ω)];simp only[decide_true,Bool.and_self,Ago,Agm];rw[Ag8 (show 0<=(l[k]).Bf from Ω),Ago,Agm,Ag8 (show(l[k]).Bf<(c:Int)from Ω),Ago,A];simp only[Agm,Ag3,List.length_nil];rw[Fu Ω,Fu Ω,Fu Ω,BA Ω];exact⟨(_,_),⟨_,c+1,rfl,a1,d.add a hx2 B m,p.add hx2 (a.big (Ahq _)),Ω⟩,rfl⟩) N 0 ([[]],some (Aek b s)) ⟨_,1,rfl,vk1 G,sD,λk u=>⟨⟨-1,kO,s,[]⟩,(show k=0 from Ω)▸rfl⟩,Ω⟩ Ω (Agr _)
 exact⟨vs,c,P,a,d,p,Ω,J⟩
def Rn(a:18446744073709551616<N)(d:Fp N=some true)(b:AF)(s:AH)(i:s.F.length+100000<=4000000000000)(l:List BT):FJ N b s l=some true:=by
 unfold FJ;rw[d,Agm];obtain⟨v,m,kv⟩:=xS (N:=N) Ω b l;obtain⟨t,et,n⟩:=mP a b s Ω;rw[m,Agm,et,Agm];rcases n with rfl|⟨rfl,hr,hs⟩
 ·simp
 cases v with
 |false=>rfl
 |true=>
  obtain⟨o,p,q,u⟩:=kv rfl;obtain⟨g,w,_,_⟩:=TE a hr;have j:Vb b:=⟨g,w,o,p⟩
  obtain⟨vs,c,P,C,y,z,k,A⟩:=qG a j hs i q (λx B=>(u x B).1) (kj:=DL N b s true);simp only[Ahm,Option.isNone_some,Bool.or_self,Agq];rw[A];unfold DL DK;exact qF a j hs i y C z Ω
def Pb(b:AF)(s:AH)(a:s.F.length<=3600000000000)(l:List BT):FJ BN b s l=some true:=Rn Aeh Z1 b s Ω l
open Go.ChangeShapes Go.WideShapes Go.ChangeAt Go.RowKit Go.Deep
def Ft{α}(P:Program)(t:TypeId)(r:A9 α):Prop:=
 P.cellsOf t=r.sz/\∀{H:Type}{enc:TypeId×Value->H}{w:World}{c:Nat}{a:Nat->Bool}{d:Bool}{g:Nat}{cs:List Value}{x:DataW H×List MemPlace},
  DataW.trod enc P w c a d g t cs=some x->∃y,r.rd (λb=>b<w.heap.size) w.heap cs y
def pA(a:(Lit.int .i64 n).wf=true):AB n:=by
 simpa[Lit.wf,IntKind.min,IntKind.max,IntKind.signed,IntKind.bits,AB]using a
def dE{t:TypeId}(i:P.cellsOf t=1)(j:P.underlying t=some (.int .i64)):Ft P t AC:=by
 refine⟨i,λ{H enc w d b g a cs x} o=>?_⟩;cases a with
 |zero=>simp[DataW.trod]at o
 |succ n=>
  unfold DataW.trod at o;simp only[j]at o;split at o<;>simp_all;rename_i k l m;obtain⟨⟨rfl,c⟩,_⟩:=o;subst m;exact⟨l,rfl,pA c⟩
def ZE{t:TypeId}(g:P.cellsOf t=1)(i:P.underlying t=some .bool):Ft P t A9.bool:=by
 refine⟨g,λ{H enc w c b d a cs x} j=>?_⟩;cases a with
 |zero=>simp[DataW.trod]at j
 |succ n=>
  unfold DataW.trod at j;simp only[i]at j;split at j<;>first|(exact⟨_,rfl⟩)|simp_all
def dD{t:TypeId}(g:P.cellsOf t=1)(i:P.underlying t=some .string):Ft P t A9.str:=by
 refine⟨g,λ{H enc w c b d a cs x} j=>?_⟩;cases a with
 |zero=>simp[DataW.trod]at j
 |succ n=>
  unfold DataW.trod at j;simp only[i]at j;split at j<;>simp_all;exact⟨_,rfl,j.1⟩
def Ta{α}{p:Nat->α->Prop}:∀n,(∀i,i<n->∃x,p i x)->∃l:List α,l.length=n/\∀i x,l[i]? =some x->p i x
 |0,_=>⟨[],rfl,λi x j=>by simp at j⟩
 |n+1,j=>by
  obtain⟨l,b,c⟩:=Ta n λi d=>j i Ω;obtain⟨x,g⟩:=j n Ω;refine⟨l++[x],by simp[b],λi y a=>?_⟩;rw[List.getElem?_append]at a;split at a
  ·exact c i y a
  ·rename_i d;have:i-l.length=0:=by
    have:=(Ag0.1 a).1;simp at this;omega
   rw[this]at a;simp at a;subst a;have:i=n:=Ω
   subst this;exact g
def H6{t e:TypeId}{α}{r:A9 α}(Q:P.cellsOf t=1)(U:P.underlying t=some (.slice e))(A:Ft P e r)(V:Nat.blt 0 r.sz=true):Ft P t (A9.sl r):=by
 refine⟨Q,λ{H enc w J B K M cs x} h=>?_⟩;have k:0<r.sz:=(by simpa[Nat.blt]using V:1<=r.sz)
 rcases open_slice U h with⟨rfl,_⟩|⟨a,len,cap,m,n,D,Pl,rfl,hb,hlc,hcm,hm,_,hel⟩
 ·exact⟨[],_,rfl,.inl ⟨rfl,rfl⟩⟩
 ·have W:len<=m:=by rw[hm];split<;>omega
  obtain⟨l,X,C⟩:=Ta (p:=λi x=>a.spot=none/\Pt (λb=>b<w.heap.size) w.heap r (.pointer (some ⟨a.block,a.off+i*r.sz,none⟩)) x) len λi hi=>by
   obtain⟨cs',F,G⟩:=hel i Ω;obtain⟨y,Y⟩:=A.2 G;obtain⟨_,q,KE⟩:=World.cells?_some F;rw[A.1]at q KE;have u:a.spot=none:=by
    obtain⟨v,I,_⟩:=hel 0 Ω;obtain⟨_,g,c⟩:=World.cells?_some I;rw[A.1]at g c;have h0:=c 0 k;have Z:(a.add (0*r.sz)).add 0=a:=by simp[Addr.add]
    rw[Z]at h0;cases hs:a.spot with
    |none=>rfl
    |some s=>
     have:w.cell? a=none:=by
      unfold World.cell?;split
      ·simp[hs]
      ·rfl
     rw[this]at h0;have:v[0]? =some (v[0]' Ω):=Agw Ω;rw[this]at h0;cases h0
   obtain⟨b,o,s⟩:=a;simp only at u;subst u;have d:∀j,((⟨b,o,none⟩:Addr).add (i*r.sz)).add j=⟨b,o+i*r.sz+j,none⟩:=by
    intro j;have e1:(⟨b,o,none⟩:Addr).add (i*r.sz)=⟨b,o+i*r.sz,none⟩:=by unfold Addr.add;split<;>simp_all
    rw[e1];unfold Addr.add;split<;>simp_all
   have z:b<w.heap.size:=by
    have h0:=KE 0 k;rw[d]at h0;have:cs'[0]? =some (cs'[0]' Ω):=Agw Ω;rw[this]at h0;exact World.block_lt_of_cell? w _ h0
   refine⟨y,rfl,cs',⟨⟨b,o+i*r.sz,none⟩,rfl,rfl,z,λj hj=>?_⟩,Y⟩;have:=KE j Ω;rw[d]at this;exact this
  exact⟨l,_,rfl,.inr ⟨a,cap,by rw[X],Ω,hcm,C⟩⟩
def X7{t:TypeId}(q:P.underlying t=some (.struct l)){H:Type}{enc:TypeId×Value->H}{x:DataW H×List MemPlace}
  (v:DataW.trod enc P w c a d g t cs=some x):cs.length=P.cellsOf t/\∀(j:Nat)(f:Field){z}(r:A9 z),l[j]? =some f->Ft P f.type r->∃y,r.rd (λb=>b<w.heap.size) w.heap ((cs.drop f.offset).take r.sz) y:=by
 obtain⟨xs,n,_,_,s,i,u⟩:=DataW.trod_struct q v;refine⟨s,λj f z r m o=>?_⟩;have p:=u j f m;have k:j<xs.length:=by rw[i];exact(Ahu.1 m).1
 rw[Agw k,o.1]at p;exact o.2 p
def oI{S h c}(k:∃y,AC.rd S h [c] y):∃y,c= .int .i64 y/\AB y:=by obtain⟨y,e,r⟩:=k;exact⟨y,(List.cons.inj e).1,r⟩
def oT{S h c}(k:∃y,A9.str.rd S h [c] y):∃y,c= .string y/\y.size<=maxLen:=by obtain⟨y,e,r⟩:=k;exact⟨y,(List.cons.inj e).1,r⟩
def oB{S h c}(k:∃y,A9.bool.rd S h [c] y):∃y,c= .bool y:=by obtain⟨y,e⟩:=k;exact⟨y,(List.cons.inj e).1⟩
def oS{α S h c}{r:A9 α}(k:∃y,(A9.sl r).rd S h [c] y):∃y,Sl S h r c y:=by obtain⟨y,w,e,k⟩:=k;cases e;exact⟨y,k⟩
def MR{t:TypeId}{a:Array Field}{g}{r:A9 g}(d:P.underlying t=some (.struct a))(c:P.cellsOf t=r.sz)
  (H:∀{w:World}{cs:List Value},cs.length=r.sz->(∀(j:Nat)(f:Field){g}(r:A9 g),a[j]? =some f->Ft P f.type r->∃y,r.rd (λb=>b<w.heap.size) w.heap ((cs.drop f.offset).take r.sz) y)->
   ∃y,r.rd (λb=>b<w.heap.size) w.heap cs y):Ft P t r:=
 ⟨c,λ{_ _ _ _ _ _ _ _ _} i=>by have q:=X7 d i;exact H (q.1.trans c) q.2⟩
def mQ{t:TypeId}{α}{r:A9 α}(m:Ft P t r)(i:r.ag=true)(n:P.underlying t=some (.struct l)){H:Type}{enc:TypeId×Value->H}{j:Reach}{o:Nat}{g:Bool}{v:Value}{d:DataW H}{p:List MemPlace}
  (q:Value.okWide P w j o t v) (x:DataW.Trod enc P w c a g t v d p):∃y,Rd (λb=>b<w.heap.size) w.heap r v y:=by
 obtain⟨cs,rfl,_⟩:=okWide_struct n q;obtain⟨k,s⟩:=x;obtain⟨y,u⟩:=m.2 s;exact⟨y,cs.toList,by simp[A9.val,i],u⟩
def dV{v:Value}{c:Value}(b:v.cells.toList=[c])(a:c.oneCell'=true):v=c\/∃cs,v= .agg cs:=by
 cases v<;>first|(right;exact⟨_,rfl⟩)|(left;simpa[Value.cells]using b)
def qR{t:TypeId}{α}{r:A9 α}(u:Ft P t r)(m:r.ag=false)(n:r.sz=1){H:Type}{enc:TypeId×Value->H}{i:Bool}{v:Value}{d:DataW H}{p:List MemPlace}
  (o:∀cs,v≠ .agg cs) (z:DataW.Trod enc P w g a i t v d p):∃y,Rd (λb=>b<w.heap.size) w.heap r v y:=by
 obtain⟨q,x⟩:=z;obtain⟨y,l⟩:=u.2 x;have s:=r.len l;rw[n]at s
 match j:v.cells.toList,s with
 |[c],_=>
  rw[j]at l;have k:=r.one l c (by simp);rcases dV j k with rfl|⟨cs,rfl⟩
  ·exact⟨y,[v],by simp[A9.val,m],l⟩
  ·exact absurd rfl (o cs)
def jN{t e:TypeId}(b:P.underlying t=some (.slice e)){a:Reach}{v:Value}(d:Value.okWide P w a c t v):∀cs,v≠ .agg cs:=by
 rintro cs rfl;simp[Value.okWide,b,Cell.okWide,Cell.ok]at d
def RE{H:Type}{enc:TypeId×Value->H}{P:Program}(l:laidOutB P=true){W m:World}(n:Below W.heap.size W m):
  ∀{j:List TypeId}{vs:List Value}{ds:List (DataW H)}{b:List MemPlace},(∀t∈j,P.readableRec t=true/\t<P.types.size)->DataW.TrodAll enc P W 0 (λ_=>true) true j vs ds b->(∀x∈b,x.block<W.heap.size)->
   ∀c:Nat->Bool,(∀x∈b,c x.block=true)->DataW.TrodAll enc P m 0 c true j vs ds b
 |[],vs,ds,b,_,B,_,c,_=>by
  obtain⟨rfl,rfl,rfl⟩:=trodAll_nil B;exact rfl
 |t::j,vs,ds,b,o,B,g,c,i=>by
  obtain⟨v,s,d,u,p,q,rfl,rfl,rfl,w,y⟩:=trodAll_cons B;obtain⟨z,A⟩:=o t (by simp);refine⟨p,q,WideElems.Trod_stays l z A w (λx a=>n.same (g x (by simp[a]))) (λx a=>i x (by simp[a])),?_,rfl⟩;exact RE l n (λt k=>o t (by simp[k])) y (λx a=>g x (by simp[a])) c λx a=>i x (by simp[a])
def kC{H:Type}{enc:TypeId×Value->H}{f:Func}{s:ChangeSpec}{W k:World}{c:Array Value}{ds g:List (DataW H)}{a:List MemPlace}{tb:TypeId}
  (o:laidOutB P=true) (i:f.params.toList.all (λt=>P.readableRec t&&decide (t<P.types.size))=true) (j:DataW.Whole enc P f.params.toList s.vars false W c.toList ds g a)
  (q:f.resultTypes= #[tb]) (u:P.underlying tb=some .bool) (b:s.vars=[]) (v:(s.fn H (ds++g)).results=[.lit (.bool true)]) (w:(s.fn H (ds++g)).args=ds) (y:(s.fn H (ds++g)).vars=[])
  (l:Below W.heap.size W k):s.post enc P f false true false false W c (.bool true) k:=by
 have d:∀p∈a,p.block<W.heap.size:=λp z=>j.lt p z;obtain⟨m,pv,A,n,rfl,D,F⟩:=id j;rw[b]at n;obtain⟨rfl,rfl⟩:=trodVars_none n;simp only[Ahz]at*;refine⟨ds,[],m,[],m,[],by simpa using j,?_,?_,?_,?_,λG=>by cases G⟩
 ·simp only[Ahz];rw[v,q];exact trodAll_mk1 (shut_bool u true)
 ·simp only[Ahz];rw[w];refine RE o l (λt B=>?_) A d _ λx C=>by simpa using d x C
  have:=Agz.1 i t B;simpa using this
 ·simp only[Ahz];rw[y,b];exact rfl
 ·exact l.frame _
def dJ{f:FuncId}{a:Array Value}{W:World}(k:CG P f a (λb=>b<W.heap.size) W.heap (λv S' h'=>v= .bool true/\L S' h')):
  Calls P f a W λe d=>e= .returned (.bool true)/\Below W.heap.size W d:=
 (k W W ⟨rfl,rfl,rfl,rfl⟩).mono λe d ⟨v,S',h',i,c,g,j,_⟩=>by
  subst i;subst j;exact⟨rfl,c.os,c.tape,c.out,by rw[c.heap];exact g.siz,λb l=>by rw[c.heap];exact g.same b l⟩
open Go.ChangeShapes Go.WideShapes Go.ChangeAt Go.RowKit
namespace bcons
theorem bcons_n:Tryz.pinned.checked.prog.funcNamed Rows.branchConservesRow.func=some 7:=Γ
set_option maxHeartbeats 20000000 in
theorem bcons_j:joinedFacts Tryz.pinned.checked.prog 7 Tryz.f7 Rows.branchConservesSpec Rows.branchConservesRow=true:=by
 unfold joinedFacts
 iterate 31 refine Bool.and_eq_true_iff.2 ⟨?_,?_⟩
 all_goals as_aux_lemma=>kernel_rfl
end bcons
section
variable{H:Type}{enc:TypeId×Value->H}{P:Program}{w:World}{base:Nat}{spare:Nat->Bool}{held:Bool}
def WQ:∀{l:List TypeId}{ds:List (DataW H)}{j:Nat}{t:TypeId}{d:DataW H},l[j]? =some t->ds[j]? =some d->∀q∈d.weights P t,q∈DataW.weightsEach P l ds
 |[],_,j,t,d,i,_=>by cases j<;>cases i
 |_::_,[],j,t,d,_,i=>by cases j<;>cases i
 |a::l,x::ds,0,t,d,b,c=>λq g=>by
  cases b;cases c;simp only[DataW.weightsEach];exact Ait _ g
 |a::l,x::ds,j+1,t,d,b,c=>λq g=>by
  simp only[DataW.weightsEach];exact Ajy _ (WQ (l:=l) (ds:=ds) (j:=j) b c q g)
def Abj{t e:TypeId}(d:P.underlying t=some (.slice e)){b:Nat}{a:Option Addr}{len:Nat}{x:DataW H×List MemPlace}(j:DataW.trod enc P w base spare held b t [.slice a len cap]=some x)(g:∀q∈x.1.weights P t,q<=R):len*P.bytesOf e<=R:=by
 rcases open_slice d j with⟨c,_⟩|⟨a',len',cap',m,n,D,Pl,c,_,_,_,_,rfl,_⟩
 ·cases c;omega
 ·cases c;simp only[DataW.weights,d]at g;have i:=g _ (Ahf ..);rw[Ajt,List.length_range]at i;exact Ah2 (Aia _ (Nat.le_add_right _ _)) i
def Abi{t:TypeId}{i:Array Field}(k:P.underlying t=some (.struct i)){a:Nat}{x:DataW H×List MemPlace}(u:DataW.trod enc P w base spare held a t cs=some x)(g:i[j]? =some f):
  ∃n y,DataW.trod enc P w base spare held n f.type ((cs.drop f.offset).take (P.cellsOf f.type))=some y/\∀q∈y.1.weights P f.type,q∈x.1.weights P t:=by
 obtain⟨xs,n,_,m,s,b,o⟩:=DataW.trod_struct k u;have l:=o j f g;have c:j<xs.length:=by rw[b];exact(Ahu.1 g).1
 rw[Agw c]at l;refine⟨n,xs[j],l,λq p=>?_⟩;subst m;simp only[DataW.weights,k];refine WQ (j:=j) (t:=f.type) (d:=(xs[j]).1) ?_ ?_ q p
 ·rw[Aig,Array.getElem?_toList,g];rfl
 ·rw[Aig,Agw c];rfl
def mR{t:TypeId}{b:Array Field}(i:P.underlying t=some (.struct b)){v:Value}{d:DataW H}{p:List MemPlace}(F:DataW.Trod enc P w base spare held t v d p)(m:∀q∈d.weights P t,q<=R)(o:b[j]? =some f){e:TypeId}(s:P.underlying f.type=some (.slice e))(x:P.cellsOf f.type=1)
  (z:(v.cells.toList.drop f.offset).take 1=[u]) {α} {S:Nat->Prop} {A:AV} {r:A9 α} {l:List α} (k:Sl S A r u l):l.length*P.bytesOf e<=R:=by
 obtain⟨c,B⟩:=F;obtain⟨n,y,g,C⟩:=Abi i B o;obtain⟨a,cap,rfl,_⟩:=k.len;rw[x,z]at g;exact Abj s g λq D=>m q (C q D)
end
end Go.Proofs.YtabonambpbofgaaGreat
