import Derived.Test.YtabonambpbofgaaGreatMPureRu
import Derived.Test.YtabonambpbofgaaGreatMCore10
import Derived.ProofKit
import Derived.OpenShut
import Derived.JoinedCond
import Derived.Deep.Slices
import Derived.SizedLaws
namespace Go.Proofs.YtabonambpbofgaaGreat
set_option linter.all false
open Go.RowKit
def Og {N:Nat}{l:List Int}(a:l.length≤4000000000000):BG N l=some l:=by
 unfold BG;rw[GI (by simp;omega)];rfl
def jE {N:Nat}{l:List (List Int)}(a:l.length≤4000000000000):GG N l=some l:=by
 unfold GG;rw[GI (by simp;omega)];rfl
def jC {N:Nat}{l:List AV}(a:l.length≤4000000000000):Cq N l=some l:=by
 unfold Cq;rw[GI (by simp;omega)];rfl
def jF {N:Nat}{l:List A0}(a:l.length≤4000000000000):BR N l=some l:=by
 unfold BR;rw[GI (by simp;omega)];rfl
def qD {N:Nat}{l:List ByteArray}(a:l.length≤1000):E8 N l=some l:=by
 unfold E8;rw[GI (by simp;omega)];rfl
def dQ {N:Nat}{l:List Ca}(a:l.length≤1000):Cb N l=some l:=by
 unfold Cb;rw[GI (by simp;omega)];rfl
def Qg {N:Nat}{l:List BU}(a:l.length≤1000):BM N l=some l:=by
 unfold BM;rw[GI (by simp;omega)];rfl
def jG {N:Nat}{l:List LK}(a:l.length≤1000):Cs N l=some l:=by
 unfold Cs;rw[GI (by simp;omega)];rfl
def jD {N:Nat}{l:List A8}(a:l.length≤1000):Cr N l=some l:=by
 unfold Cr;rw[GI (by simp;omega)];rfl
def iZ {N:Nat}{l:List Kc}(a:l.length≤1000):Co N l=some l:=by
 unfold Co;rw[GI (by simp;omega)];rfl
def dR {N:Nat}{l:List Iz}(a:l.length≤1000):Cc N l=some l:=by
 unfold Cc;rw[GI (by simp;omega)];rfl
def jB {N:Nat}{l:List Kd}(a:l.length≤1000):Cp N l=some l:=by
 unfold Cp;rw[GI (by simp;omega)];rfl
def jA {N:Nat}{l:List Gi}(a:l.length≤1000):CM N l=some l:=by
 unfold CM;rw[GI (by simp;omega)];rfl
def Lk {α}{l:List α}{k:Nat}(a:k<l.length):upd l (k:Int) l[k]=l:=by
 unfold upd;simp
structure fN (b:AF):Prop where
 rm:b.Aj.length≤3
 pl:∀p∈b.A,p.An.length≤16∧p.T.length≤64
 li:∀l∈b.C,l.As.length≤32∧l.Ad.Av.length≤32∧l.Ad.Aw.length≤32
def Vm {N:Nat}(b:AF) (j:b.J≤64) (p:Ca) (a:Int) (kj:Int→Option Bool):∀(n:Nat) (s:Int) (k:Nat),k≤p.T.length→k<4611686018427387904→(k:Int)≤s+1→s<64→CX N b p a kj n s (k:Int)=some true→p.T.length≤64
 |0,_,_,_,_,_,_,q=>by cases q
 |n+1,s,k,l,i,m,o,q=>by
  simp only[CX] at q;rcases Abb k p.T.length with g|g
  ·rw[FW g,Aaq,BB g,Aap] at q;obtain⟨c,d,q⟩:=bd q;cases c with
   |true=>cases q
   |false=>
    cases hd:(decide ((p.T[k]).Bf≤s)||decide (b.J≤(p.T[k]).Bf)) with
    |true=>rw[hd] at d;cases d
    |false=>
     simp only[Abk,Abe] at hd;rw[Aar,A9 i] at q;exact Vm b j p a kj n _ (k+1) g (by omega) (by omega) (by omega) q
  ·omega
def RP {N:Nat}{b:AF}(j:Ig b):∀(n:Nat) (s:Int) (k:Nat),0≤s→s+((b.A.length:Int)-k)*18014398509481984≤2305843009213693952→k≤b.A.length→B1 N b (CN N) n s (k:Int)=some true→∀p∈b.A.drop k,p.An.length≤16∧p.T.length≤64
 |0,s,k,h0,B,C,U=>by cases U
 |n+1,s,k,h0,B,C,U=>by
  have M:=j.own;have D:=j.pl;have F:=j.cells;simp only[B1] at U;rcases Abb k b.A.length with d|d
  ·rw[FW d,Aaq,BB d,Aap] at U;obtain⟨_,_,U⟩:=bd U;obtain⟨_,_,U⟩:=bd U;obtain⟨_,_,U⟩:=bd U;obtain⟨_,_,U⟩:=bd U;obtain⟨_,_,U⟩:=bd U;obtain⟨m,_,U⟩:=bd U;obtain⟨o,g,U⟩:=bd U;obtain⟨q,t,u⟩:=bd U;cases q with
   |true=>cases u
   |false=>
    rw[Aar] at u;cases o with
    |true=>cases t
    |false=>
     cases a:(m||decide (((b.A[k]).An.length:Int)≠(b.H.length:Int))) with
     |true=>rw[a] at g;cases g
     |false=>
      simp only[Abk,Abe,ne_eq,Decidable.not_not] at a;have Q:(b.A[k]).An.length=b.H.length:=by omega
      obtain⟨v,w⟩:=To (N:=N) b.A[k] _ (by omega) N s 0 h0 (by omega) (Aaw _) u;rw[List.drop_zero] at v w;have G:=Vm b (by omega) b.A[k] _ _ N (-1) 0 (Aaw _) (by omega) (by omega) (by omega) v;have y:=Vn b b.A[k] _ _ N _ _ v;have I:=KN (l:=(b.A[k]).An) λx z=>(w x z).1;have J:=Kj (l:=(b.A[k]).An) (c:=1125899906842624) λx z=>(w x z).2;unfold Cw at y;rw[A9 (by omega)] at y;have K:=RP j n _ (k+1) (by omega) (by omega) (by omega) y;rw[Ade d];intro p i;rcases Aay.1 i with rfl|i
      ·exact⟨by omega,G⟩
      ·exact K p i
  ·rw[Acz d];intro p i;cases i
def Sq {N:Nat}{b:AF}(s:Ig b) (d:∀l∈b.C,KA b l):∀(n k:Nat),k≤b.C.length→CS N b (Dd N) n (k:Int)=some true→∀l∈b.C.drop k,l.As.length≤32∧l.Ad.Av.length≤32∧l.Ad.Aw.length≤32
 |0,k,t,B=>by cases B
 |n+1,k,t,B=>by
  have u:=s.li;simp only[CS] at B;rcases Abb k b.C.length with c|c
  ·rw[FW c,Aaq,BB c,Aap] at B;obtain⟨_,_,B⟩:=bd B;obtain⟨_,_,B⟩:=bd B;obtain⟨_,_,B⟩:=bd B;obtain⟨_,_,B⟩:=bd B;obtain⟨j,_,B⟩:=bd B;obtain⟨m,a,o⟩:=bd B;cases m with
   |true=>cases o
   |false=>
    rw[Aar,A9 (by omega)] at o;have v:=Sq s d n (k+1) c o;rw[Ade c];intro l q;rcases Aay.1 q with rfl|q
    ·by_cases g:(b.C[k]).F=0
     ·obtain⟨w,x,z,_⟩:=(d _ (Aa9 c)).gate g;exact⟨w.2.1,x.2.1,z.2.1⟩
     ·cases j with
      |true=>cases a
      |false=>
       rw[Aar] at a;obtain⟨y,i,a⟩:=bd a;unfold FK at i;rw[Aaz g,Bool.not_false,Bool.true_and] at i;cases hd:(((decide (0<((b.C[k]).As.length:Int))||decide (0<((b.C[k]).Ad.Av.length:Int)))||decide (0<((b.C[k]).Ad.Aw.length:Int)))||decide ((b.C[k]).Bb≠0)) with
       |true=>rw[hd,Aaq] at i;cases i;cases a
       |false=>
        simp only[Abk,Abe] at hd;omega
    ·exact v l q
  ·rw[Acz c];intro p A;cases A
def iB {N:Nat}(j:18446744073709551616<N) {b:AF}(o:Gg N b=some true):fN b:=by
 obtain⟨k,_,g,i⟩:=Q9 j o;have m:=k.head.own;have n:=k.head.pl;refine⟨?_,?_,?_⟩
 ·unfold Gg at o;obtain⟨l,a,o⟩:=bd o;cases l with
  |false=>
   simp only[Aar,Aap] at o;cases o
  |true=>
   unfold Hu at a;obtain⟨_,_,a⟩:=bd a;obtain⟨_,_,a⟩:=bd a;obtain⟨_,_,a⟩:=bd a;obtain⟨d,c,a⟩:=bd a;cases d with
   |true=>cases a
   |false=>
    by_cases e:(b.Aj.length:Int)≠3
    ·rw[Aba e,Bool.or_true,Aaq] at c;cases c
    ·omega
 ·unfold HI at g;exact RP k.head N 0 0 (by omega) (by omega) (Aaw _) g
 ·unfold Ew at i;exact Sq k.head k.links N 0 (Aaw _) i
def Uo {N:Nat}(m:8000000000000<N) {s:AN}(o:s.G.length≤1000) (b:∀x∈s.G,x.length≤1000) (p:s.N.length≤1000) (c:s.I.length≤4000000000000) (d:∀l∈s.I,l.W.length≤1000) (q:s.R.length≤1000) (t:s.L.length≤1000) (u:s.O.length≤1000):Ia N s=some s:=by
 unfold Ia;rw[jE (by omega),Aap];have g:=Nn s.G.length (λn i=>Dr N s.G (EO N s) n i s.G) (EO N s s.G) (λn k a=>by
  simp only[Dr];rw[Ft a];rfl) (λn k a=>by
  simp only[Dr];rw[FW a,Aaq,BB a];simp only[Aap];rw[Og (by have:=b _ (Aa9 a);omega),Aap,Lk a,A9 (by omega)]) N 0 (by omega) (Aaw _)
 rw[show Dr N s.G (EO N s) N 0 s.G=_ from g];unfold EO;rw[jC c,Aap];have j:=Nn s.I.length (λn i=>Dq N s.I (EN N s s.G) n i s.I) (EN N s s.G s.I) (λn k a=>by
  simp only[Dq];rw[Ft a];rfl) (λn k a=>by
  simp only[Dq];rw[FW a,Aaq,BB a];simp only[Aap];rw[Og (by have:=d _ (Aa9 a);omega),Aap,Lk a,A9 (by omega)]) N 0 (by omega) (Aaw _)
 rw[show Dq N s.I (EN N s s.G) N 0 s.I=_ from j];unfold EN;rw[Og (by omega),Aap,jF (by omega),Aap,Og (by omega),Aap,Og (by omega),Aap]
def Uq {N:Nat}(p:8000000000000<N) {b:AF}(c:Jw b) (d:fN b):Ic N b=some b:=by
 have q:=c.head.own;have s:=c.head.pl;have t:=c.head.li;have u:=c.head.to;have v:=c.head.ga;have w:=c.head.ro;have x:=c.head.sh;have y:=d.rm;unfold Ic;rw[qD (by omega),Aap,dQ (by omega),Aap];have g:=Nn b.A.length (λn i=>Du N b.A (ER N b b.H) n i b.A) (ER N b b.H b.A) (λn k a=>by
  simp only[Du];rw[Ft a];rfl) (λn k a=>by
  simp only[Du];have j:=(c.places _ (Aa9 a)).lev.2.1;obtain⟨l,m⟩:=d.pl _ (Aa9 a);rw[FW a,Aaq,BB a];simp only[Aap];rw[Qg (by omega)];simp only[Aap];rw[Lk a,BB a];simp only[Aap];rw[Og (by omega)];simp only[Aap];rw[Lk a,BB a];simp only[Aap];rw[jG (by omega)];simp only[Aap];rw[Lk a,A9 (by omega)]) N 0 (by omega) (Aaw _)
 rw[show Du N b.A (ER N b b.H) N 0 b.A=_ from g];unfold ER;rw[jD (by omega),Aap];have o:=Nn b.C.length (λn i=>Dt N b.C (EQ N b b.H b.A) n i b.C) (EQ N b b.H b.A b.C) (λn k a=>by
  simp only[Dt];rw[Ft a];rfl) (λn k a=>by
  simp only[Dt];obtain⟨j,l,m⟩:=d.li _ (Aa9 a);rw[FW a,Aaq,BB a];simp only[Aap];rw[Qg (by omega)];simp only[Aap];rw[Lk a,BB a];simp only[Aap];rw[Qg (by omega)];simp only[Aap];rw[Lk a,BB a];simp only[Aap];rw[Qg (by omega)];simp only[Aap];rw[Lk a,A9 (by omega)]) N 0 (by omega) (Aaw _)
 rw[show Dt N b.C (EQ N b b.H b.A) N 0 b.C=_ from o];unfold EQ;rw[iZ (by omega),Aap,dR (by omega),Aap,jB (by omega),Aap,jA (by omega),Aap,Og (by omega),Aap]
def Up {N:Nat}{i:By}(j:ZU i):Ib N i=some i:=by
 obtain⟨a,b,c,d,g⟩:=j;unfold Ib;rw[Og (by omega),Aap];unfold DJ Dc DQ DT;rw[GI (by simp;omega),Aap,GI (by simp;omega),Aap,GI (by simp;omega),Aap,GI (by simp;omega),Aap];rfl
def YA {α}{N:Nat}(a b:List α) (s:a.length=b.length) (u:a.length<N) (f:Nat→Int→Option Bool) (q:α→α→Bool) (l:∀x y,q x y=true↔x=y) (c:∀n (k:Nat),a.length≤k→f (n+1) (k:Int)=some true) (d:∀n (k:Nat) (m:k<a.length) (g:k<b.length),f (n+1) (k:Int)=cond (q a[k] b[k]) (f n ((k+1:Nat):Int)) (some false)):∃v,f N 0=some v∧(v=true↔a=b):=by
 rcases Vv a.length f (some true) (λk=>match a[k]?,b[k]? with|some x,some y=>q x y|_,_=>true) c (λn k o=>by
  have g:k<b.length:=by omega
  rw[d n k o g,Aa1 o,Aa1 g]) N 0 (by omega) (Aaw _) with ⟨m,g⟩|⟨⟨i,_,h3,j⟩,h5⟩
 ·refine⟨true,g,λ_=>List.ext_getElem s λi p t=>?_,λ_=>rfl⟩;have:=m i (Aaw _) p;rw[Aa1 p,Aa1 t] at this;exact(l _ _).1 this
 ·refine⟨false,h5,λw=>(by cases w),λw=>?_⟩;subst w;rw[Aa1 h3] at j;have j:q a[i] a[i]=false:=j;rw[(l _ _).2 rfl] at j;cases j
def zC {N:Nat}(l:8000000000000<N) (a b:List Int) (m:a.length≤1000):∃v,HB N a b=some v∧(v=true↔a=b):=by
 unfold HB;by_cases e:a.length=b.length
 ·rw[Aaz (by omega),Aar];exact YA a b e (by omega) (λn i=>De N a b (GF N) n i) (λx y=>decide (x=y)) (λx y=>decide_eq_true_iff) (λn k g=>by
   simp only[De];rw[Ft g];rfl) (λn k d j=>by
   simp only[De];rw[FW d,Aaq,BB d,BB j];simp only[Aap];rw[A9 (by omega)];by_cases c:a[k]=b[k]
   ·rw[Aaz (by simpa using c),Aba c];rfl
   ·rw[Aba (by simpa using c),Aaz c];rfl)
 ·rw[Aba (by omega),Aaq];exact⟨false,rfl,λm=>(by cases m),λm=>absurd (Aau List.length m) e⟩
def iV {α}{N:Nat}(m:8000000000000<N) (vv:α→List Value) (g:∀x y,Ra (vv x) (vv y)=true↔x=y) (a b:List α) (o:a.length≤1000) (f:List α→List α→Option Bool→Nat→Int→Option Bool) (c:∀a b kj n i,f a b kj (n+1) i=cond (decide (i<(a.length:Int))) ((ix a i).bind λx=>(ix b i).bind λy=>cond (!(Ra (vv x) (vv y))) (some false) (f a b kj n (BO (i+1)))) kj):∃v,cond (decide ((a.length:Int)≠(b.length:Int))) (some false) (f a b (some true) N 0)=some v∧(v=true↔a=b):=by
 by_cases e:a.length=b.length
 ·rw[Aaz (by omega),Aar];exact YA a b e (by omega) (λn i=>f a b (some true) n i) (λx y=>Ra (vv x) (vv y)) g (λn k j=>by
   simp only[c];rw[Ft j];rfl) (λn k d l=>by
   simp only[c];rw[FW d,Aaq,BB d,BB l];simp only[Aap];rw[A9 (by omega)];cases Ra (vv a[k]) (vv b[k])<;>rfl)
 ·rw[Aba (by omega),Aaq];exact⟨false,rfl,λo=>(by cases o),λo=>absurd (Aau List.length o) e⟩
def ZM (x y:Gj):Ra x.v y.v=true↔x=y:=by cases x;cases y;simp [Ra,V8,Gj.v]
def iW (x y:Kt):Ra x.v y.v=true↔x=y:=by cases x;cases y;simp [Ra,V8,Kt.v]
def dD (x y:E4):Ra x.v y.v=true↔x=y:=by cases x;cases y;simp [Ra,V8,E4.v]
def dE (x y:Ih):Ra x.v y.v=true↔x=y:=by cases x;cases y;simp [Ra,V8,Ih.v]
def Qk {p q:Prop}{x:Option Bool}{b:Bool}(d:∃v,x=some v∧(v=true↔q)) (a:b=true↔p):∃v,cond b (x.bind λy=>some y) (some false)=some v∧(v=true↔p∧q):=by
 obtain⟨v,rfl,c⟩:=d;cases b with
 |false=>exact⟨false,rfl,λd=>(by cases d),λd=>absurd (a.2 d.1) (by simp)⟩
 |true=>exact⟨v,rfl,λd=>⟨a.1 rfl,c.1 d⟩,λd=>c.2 d.2⟩
def UQ {N:Nat}(g:8000000000000<N) (x y:By) (W:ZU x):∃v,IZ N x y=some v∧(v=true↔x=y):=by
 obtain⟨G,H,I,J,K⟩:=W;have j:∃v,I7 N (⟨x.T,y.T⟩:DC)=some v∧(v=true↔x.T=y.T):=by
  obtain⟨v,e,k⟩:=zC g x.T y.T (by omega);exact⟨v,by unfold I7;simp only[e,Aap],k⟩
 have l:∃v,Ef N (⟨x.Ab,y.Ab⟩:Jj)=some v∧(v=true↔x.Ab=y.Ab):=by
  obtain⟨v,e,k⟩:=iV g Gj.v ZM x.Ab y.Ab (by omega) (λa b kj n i=>B9 N a b kj n i) (λ_ _ _ _ _=>rfl);exact⟨v,by unfold Ef DI CP;simp only[e,Aap],k⟩
 have m:∃v,FA N (⟨x.Ac,y.Ac⟩:Mt)=some v∧(v=true↔x.Ac=y.Ac):=by
  obtain⟨v,e,k⟩:=iV g Kt.v iW x.Ac y.Ac (by omega) (λa b kj n i=>CF N a b kj n i) (λ_ _ _ _ _=>rfl);exact⟨v,by unfold FA Db Ch;simp only[e,Aap],k⟩
 have o:∃v,Ek N (⟨x.U,y.U⟩:Kr)=some v∧(v=true↔x.U=y.U):=by
  obtain⟨v,e,k⟩:=iV g E4.v dD x.U y.U (by omega) (λa b kj n i=>CB N a b kj n i) (λ_ _ _ _ _=>rfl);exact⟨v,by unfold Ek DO CT;simp only[e,Aap],k⟩
 have p:∃v,El N (⟨x.Ae,y.Ae⟩:Ks)=some v∧(v=true↔x.Ae=y.Ae):=by
  obtain⟨v,e,k⟩:=iV g Ih.v dE x.Ae y.Ae (by omega) (λa b kj n i=>CC N a b kj n i) (λ_ _ _ _ _=>rfl);exact⟨v,by unfold El DP CU;simp only[e,Aap],k⟩
 unfold IZ;obtain⟨v1,q,s⟩:=j;obtain⟨M,t,u⟩:=Qk l s;obtain⟨Q,w,z⟩:=Qk m u;obtain⟨V,A,B⟩:=Qk o z;obtain⟨C,D,F⟩:=Qk p B;rw[q,Aap,t,Aap,w,Aap,A,Aap,D,Aap];refine⟨C,rfl,F.trans ?_⟩;constructor
 ·rintro⟨⟨⟨⟨a,b⟩,c⟩,d⟩,e⟩;cases x;cases y;simp_all
 ·rintro rfl;exact⟨⟨⟨⟨rfl,rfl⟩,rfl⟩,rfl⟩,rfl⟩
def aH {vs a:List (Int×D9)}{k:Int}:C6 (vs++a) k=(C6 vs k).or (C6 a k):=by
 unfold C6;rw[Ad0];cases vs.find? λe=>decide (e.1=k)<;>rfl
def SL {k:Int}:C6 [] k=none:=rfl
def NM {e:Int×D9}{vs:List (Int×D9)}{k:Int}:C6 (e::vs) k=if e.1=k then some e.2 else C6 vs k:=by
 unfold C6;rw[Adg];by_cases a:e.1=k
 ·rw[Aba a,Aav a];rfl
 ·rw[Aaz a,Aas a]
def SJ {p k:Int}{y:D9}:∀{vs:List (Int×D9)},C6 (Mb vs p y) k=if k=p then (C6 vs p).map (λ_=>y) else C6 vs k
 |[]=>by simp [Mb,SL]
 |e::vs=>by
  have b:=SJ (p:=p) (k:=k) (y:=y) (vs:=vs);unfold Mb at b ⊢;rw[Abg,NM,NM,NM,b];by_cases c:e.1=p
  ·subst c;by_cases a:k=e.1
   ·subst a;simp
   ·simp [a,Ne.symm a]
  ·by_cases a:k=p
   ·subst a;simp [c]
   ·simp [c,a]
def SO {vs:List (Int×D9)}{p c k:Int}{x y z:D9}(b:C6 vs p=some x) (i:C6 vs c=none):C6 (Mb vs p y++[(c,z)]) k=if k=c then some z else if k=p then some y else C6 vs k:=by
 rw[aH,SJ,NM,SL,b];have d:p≠c:=λe=>by rw[e,i] at b;cases b
 by_cases g:k=c
 ·subst g;rw[Aav rfl,Aas (Ne.symm d),i,Aav rfl];rfl
 ·rw[Aas g,Aas (Ne.symm g)];by_cases a:k=p
  ·rw[Aav a,Aav a];rfl
  ·rw[Aas a,Aas a];cases C6 vs k<;>rfl
structure VK (N:Nat) (b:AF) (s:AN) (vs:List (Int×D9)) (c:Nat):Prop where
 key:∀k x,C6 vs k=some x→0≤k∧k<(c:Int)
 root:∃x,C6 vs 0=some x∧x.par= -1∧x.st=s
 node:∀k x,C6 vs k=some x→k≠0→∃y ms pk,0≤x.par∧x.par<k∧C6 vs x.par=some y∧xJ N b y.st x.inp (x.st,ms,pk)
 kid:∀k x j,C6 vs k=some x→j∈x.kids→∃z,C6 vs j=some z∧z.par=k
 all:∀j z,C6 vs j=some z→j≠0→∃y,C6 vs z.par=some y∧j∈y.kids
 ql:∀k x,C6 vs k=some x→Zd b x.st∧(x.st.I.length:Int)≤s.I.length+232*k∧x.kids.length≤c∧ZU x.inp
 len:vs.length≤c
def VK.par {N:Nat}{b:AF}{s:AN}{vs:List (Int×D9)}{c:Nat}(n:VK N b s vs c) {k:Int}{x:D9}(i:C6 vs k=some x):x.par<k∧(k≠0→(C6 vs x.par).isSome=true)∧(k=0→x.par= -1):=by
 by_cases e:k=0
 ·subst e;obtain⟨y,a,d,_⟩:=n.root;rw[i] at a;cases a;exact⟨by omega,λg=>absurd rfl g,λ_=>d⟩
 ·obtain⟨y,l,m,a,d,j,_⟩:=n.node k x i e;exact⟨d,λ_=>by rw[j];rfl,λg=>absurd g e⟩
def VK.neg1 {N:Nat}{b:AF}{s:AN}{vs:List (Int×D9)}{c:Nat}(g:VK N b s vs c) {k:Int}(d:k<0):C6 vs k=none:=by
 cases a:C6 vs k with
 |none=>rfl
 |some x=>have:=(g.key k x a).1;omega
def VK.big {N:Nat}{b:AF}{s:AN}{vs:List (Int×D9)}{c:Nat}(g:VK N b s vs c) {k:Int}(d:(c:Int)≤k):C6 vs k=none:=by
 cases a:C6 vs k with
 |none=>rfl
 |some x=>have:=(g.key k x a).2;omega
def VK.add {N:Nat}{b:AF}{s:AN}{vs:List (Int×D9)}{c:Nat}(h:VK N b s vs c) {p:Int}{x:D9}(u:C6 vs p=some x) {inp:By}(Y:ZU inp) {y:AN×List AT×List Int}(o:xJ N b x.st inp y):VK N b s (Mb vs p { x with kids:=x.kids++[(c:Int)]}++[((c:Int),⟨p,inp,y.1,[]⟩)]) (c+1):=by
 have W:C6 vs (c:Int)=none:=h.big (Abo _);obtain⟨F,G⟩:=h.key p x u;have v:=λk=>SO (k:=k) (y:={ x with kids:=x.kids++[(c:Int)]}) (z:=⟨p,inp,y.1,[]⟩) u W;generalize Z:Mb vs p { x with kids:=x.kids++[(c:Int)]}++[((c:Int),(⟨p,inp,y.1,[]⟩:D9))]=V at v ⊢
 have A:∀k z,C6 vs k=some z→∃a,C6 V k=some a∧a.par=z.par∧a.inp=z.inp∧a.st=z.st∧∀j∈z.kids,j∈a.kids:=λk z d=>by
  have H:k≠c:=λe=>by rw[e,W] at d;cases d
  rw[v,Aas H];by_cases e:k=p
  ·subst e;rw[u] at d;cases d;exact⟨_,Aav rfl,rfl,rfl,rfl,λj i=>Acu _ i⟩
  ·exact⟨z,by rw[Aas e];exact d,rfl,rfl,rfl,λj i=>i⟩
 have g:∀k a,C6 V k=some a→(k=c∧a=⟨p,inp,y.1,[]⟩)∨(k≠c∧∃z,C6 vs k=some z∧a.par=z.par∧a.inp=z.inp∧a.st=z.st∧(∀j∈a.kids,j∈z.kids∨(j=c∧k=p))∧a.kids.length≤z.kids.length+1):=λk a d=>by
  rw[v] at d;by_cases e:k=c
  ·rw[Aav e] at d;cases d;exact .inl ⟨e,rfl⟩
  ·rw[Aas e] at d;by_cases D:k=p
   ·rw[Aav D] at d;cases d;refine .inr ⟨e,x,by rw[D];exact u,rfl,rfl,rfl,λj i=>?_,by simp⟩;rcases Abp.1 i with i|i
    ·exact .inl i
    ·exact .inr ⟨Ab0.1 i,D⟩
   ·rw[Aas D] at d;exact .inr ⟨e,a,d,rfl,rfl,rfl,λj i=> .inl i,by omega⟩
 have J:C6 V (c:Int)=some ⟨p,inp,y.1,[]⟩:=by rw[v,Aav rfl]
 have aa:=h.ql p x u;refine⟨λk a d=>?_,?_,λk a d K=>?_,λk a j d i=>?_,λj a d M=>?_,λk a d=>?_,?_⟩
 ·rcases g k a d with ⟨rfl,_⟩|⟨_,z,l,_⟩
  ·omega
  ·have:=h.key k z l;omega
 ·obtain⟨z,l,n,B⟩:=h.root;obtain⟨a,m,Q,_,C,_⟩:=A 0 z l;exact⟨a,m,Q.trans n,C.trans B⟩
 ·rcases g k a d with ⟨rfl,rfl⟩|⟨_,z,l,n,B,h4,_⟩
  ·obtain⟨x',m,_,_,C,_⟩:=A p x u;exact⟨x',y.2.1,y.2.2,F,G,m,by rw[C];exact o⟩
  ·obtain⟨w,ms,pk,q,t,X,U⟩:=h.node k z l K;obtain⟨w',m,_,_,C,_⟩:=A _ w X;exact⟨w',ms,pk,by rw[n];exact q,by rw[n];exact t,by rw[n];exact m,by rw[C,B,h4];exact U⟩
 ·rcases g k a d with ⟨_,rfl⟩|⟨_,z,l,_,_,_,h5,_⟩
  ·cases i
  ·rcases h5 j i with i|⟨rfl,rfl⟩
   ·obtain⟨w,q,t⟩:=h.kid k z j l i;obtain⟨w',m,Q,_⟩:=A j w q;exact⟨w',m,Q.trans t⟩
   ·exact⟨_,J,rfl⟩
 ·rcases g j a d with ⟨rfl,rfl⟩|⟨_,z,l,n,_⟩
  ·exact⟨{ x with kids:=x.kids++[(c:Int)]},by show C6 V p=_;rw[v,Aas (by omega),Aav rfl],by simp⟩
  ·obtain⟨w,q,t⟩:=h.all j z l M;obtain⟨w',m,_,_,_,k5⟩:=A _ w q;exact⟨w',by rw[n];exact m,k5 j t⟩
 ·rcases g k a d with ⟨rfl,rfl⟩|⟨_,z,l,_,B,h4,_,h6⟩
  ·have ab:=o.ql;exact⟨o.rg,by show(y.1.I.length:Int)≤_;omega,Aaw _,Y⟩
  ·obtain⟨q,t,X,U⟩:=h.ql k z l;exact⟨by rw[h4];exact q,by rw[h4];exact t,by omega,by rw[B];exact U⟩
 ·rw[←Z,Abi];have:=h.len;simp [Mb];exact this
def mP {N:Nat}(m:8000000000000<N) {vs:List (Int×D9)}{p:Int}{ks:List Int}{inp:By}{fd:Int→Option (Int×Int×Option E5)}{kj:Option (Int×Int×Option E5)}(d:∀k∈ks,k≠p∧∃z,C6 vs k=some z∧ZU z.inp) (o:ks.length≤1000):∀(n i:Nat),ks.length<n+i→i≤ks.length→(∃k∈ks,∃z,C6 vs k=some z∧z.inp=inp∧Ed N vs p ks inp fd kj n (i:Int)=fd k)∨((∀k∈ks.drop i,∀z,C6 vs k=some z→z.inp≠inp)∧Ed N vs p ks inp fd kj n (i:Int)=kj)
 |0,i,w,q=>by omega
 |n+1,i,w,q=>by
  simp only[Ed];rcases Abb i ks.length with a|a
  ·obtain⟨s,z,g,j⟩:=d _ (Aa9 a);rw[FW a,Aaq,BB a,Aap,Aaz s,Aar,g,Aap];obtain⟨v,t,kv⟩:=UQ m z.inp inp j;rw[t,Aap];cases v with
   |true=>exact .inl ⟨_,Aa9 a,z,g,kv.1 rfl,rfl⟩
   |false=>
    rw[Aar,A9 (by omega)];rcases mP m d o n (i+1) (by omega) a with l|⟨l,h3⟩
    ·exact .inl l
    ·refine .inr ⟨λk b u c=>?_,h3⟩;rw[Ade a] at b;rcases Aay.1 b with rfl|b
     ·rw[g] at c;cases c;exact λe=>by have:=kv.2 e;cases this
     ·exact l k b u c
  ·rw[Ft a,Aar,Acz a];exact .inr ⟨λk d=>by(cases d),rfl⟩
def W7 {N:Nat}(G:18446744073709551616<N) {b:AF}(H:fT b) {s:AN}(U:s.I.length+100000≤4000000000000) {vs:List (Int×D9)}{c:Nat}(h:VK N b s vs c) (V:c≤200) {inp:By}(j:ZU inp) (p:Int):
  (C6 vs p=none∧C8 N (some ⟨b,vs,c⟩) p inp=some (0,11,some ⟨b,vs,c⟩))∨∃x,C6 vs p=some x∧
   ((x.st.B=16777216∧C8 N (some ⟨b,vs,c⟩) p inp=some (0,15,some ⟨b,vs,c⟩))∨
   (x.st.B<16777216∧∃k z,C6 vs k=some z∧k≠0∧z.par=p∧z.inp=inp∧C8 N (some ⟨b,vs,c⟩) p inp=some (k,0,some ⟨b,vs,c⟩))∨
   (x.st.B<16777216∧(∀k z,C6 vs k=some z→k≠0→z.par=p→z.inp≠inp)∧∃y d,xJ N b x.st inp y∧d=Mb vs p { x with kids:=x.kids++[(c:Int)]}++[((c:Int),⟨p,inp,y.1,[]⟩)]∧C8 N (some ⟨b,vs,c⟩) p inp=some ((c:Int),0,some ⟨b,d,((c+1:Nat):Int)⟩)∧VK N b s d (c+1))):=by
 unfold C8;rw[Aap];cases i:C6 vs p with
 |none=>exact .inl ⟨rfl,rfl⟩
 |some x=>
  refine .inr ⟨x,rfl,?_⟩;obtain⟨v,W,X,Y⟩:=h.ql p x i;obtain⟨J,K⟩:=h.key p x i;have Z:=v.rg.hour;simp only[Option.isSome_some,Aby,Aar,Aap];by_cases l:x.st.B=16777216
  ·rw[Aba l,Aaq];exact .inl ⟨l,rfl⟩
  ·rw[Aaz l,Aar];have g:x.st.B<16777216:=by omega
   refine .inr ?_;have m:∀k∈x.kids,k≠p∧∃z,C6 vs k=some z∧ZU z.inp:=λk n=>by
    obtain⟨z,a,A⟩:=h.kid p x k i n;have:=(h.par a).1;exact⟨by omega,z,a,(h.ql k z a).2.2.2⟩
   rcases mP (N:=N) (by omega) (fd:=λk=>some (k,0,some ⟨b,vs,c⟩)) (kj:=H1 N ⟨b,vs,c⟩ p inp x) (inp:=inp) m (by omega) N 0 (by omega) (Aaw _) with ⟨k,n,z,a,A,q⟩|⟨a,q⟩
   ·obtain⟨z',C,M⟩:=h.kid p x k i n;rw[a] at C;cases C;have:=(h.par a).1;exact .inl ⟨g,k,z,a,by omega,M,A,q⟩
   ·rw[List.drop_zero] at a;obtain⟨y,o⟩:=bT G H v g (by omega) j;have hl:=h.len;refine .inr ⟨g,λk z D t u=>?_,y,_,o,rfl,?_,h.add i j o⟩
    ·obtain⟨w,F,Q⟩:=h.all k z D t;rw[u,i] at F;cases F;exact a k Q z D
    ·rw[show Ed N vs p x.kids inp _ _ N 0=_ from q];unfold H1;rw[Aaz (by show ¬4096≤(vs.length:Int);omega),Aar,Up j,Aap,o.er,Aap,show C6 vs (c:Int)=none from h.big (Abo _)];simp only[Adu,Aar];rw[GI (by omega),A9 (by omega)]
def ZX (vs:List (Int×D9)):Nat→Int→List Int
 |0,_=>[]
 |n+1,id=>match C6 vs id with
  |none=>[]
  |some x=>id::ZX vs n x.par
def QD {vs:List (Int×D9)}{n:Nat}{id:Int}(a:C6 vs id=none):ZX vs n id=[]:=by
 cases n with
 |zero=>rfl
 |succ n=>unfold ZX;rw[a]
def OL {vs:List (Int×D9)}{n:Nat}{id:Int}{x:D9}(a:C6 vs id=some x):ZX vs (n+1) id=id::ZX vs n x.par:=by
 rw[ZX,a]
def XY {vs:List (Int×D9)}:∀(m:Nat) (id:Int),(ZX vs m id).length≤m
 |0,_=>Aa7 _
 |m+1,id=>by
  cases a:C6 vs id with
  |none=>rw[QD a];exact Aaw _
  |some x=>rw[OL a,Ac3];have:=XY (vs:=vs) m x.par;omega
def bR {N:Nat}{b:AF}{s:AN}{vs:List (Int×D9)}{c:Nat}(k:VK N b s vs c) {M:Nat}:∀(m n:Nat) (l:List Int) (id:Int),id<m→m<n→l.length+m≤1000→DY M vs n l id=some (l++ZX vs m id)
 |0,n,l,id,d,g,_=>by
  obtain⟨n,rfl⟩:∃j,n=j+1:=⟨n-1,by omega⟩
  simp only[DY];rw[k.neg1 d];simp [ZX]
 |m+1,n,l,id,d,g,i=>by
  obtain⟨n,rfl⟩:∃j,n=j+1:=⟨n-1,by omega⟩
  simp only[DY];cases a:C6 vs id with
  |none=>rw[QD a];simp
  |some x=>
   have:=(k.par a).1;simp only[Option.isSome_some,Aaq,Aap];rw[GI (by omega),bR k m n (l++[id]) x.par (by omega) (by omega) (by simp;omega),OL a];simp
def WU (l:List Int) (i:Nat):List Int:=(List.range l.length).map λk=>if k<i∨l.length≤k+i then l.getD (l.length-1-k) 0 else l.getD k 0
def QH {l:List Int}{i k:Nat}(a:k<l.length):(WU l i)[k]? =some (if k<i∨l.length≤k+i then l.getD (l.length-1-k) 0 else l.getD k 0):=by
 unfold WU;rw[Acd,Adw a];rfl
def PC {l:List Int}{i:Nat}:(WU l i).length=l.length:=by simp [WU]
def tZ {l:List Int}:WU l 0=l:=by
 apply Abw;intro k;by_cases a:k<l.length
 ·rw[QH a,Aas (by omega),Ab1,Aa1 a];rfl
 ·rw[Abj (by rw[PC];omega),Abj (by omega)]
def gK {l:List Int}{i:Nat}(c:l.length≤2*i+1):WU l i=l.reverse:=by
 apply Abw;intro k;by_cases a:k<l.length
 ·rw[QH a,List.getElem?_reverse a,Aa1 (by omega)];by_cases b:k<i∨l.length≤k+i
  ·rw[Aav b,Ab1,Aa1 (by omega)];rfl
  ·rw[Aas b,Ab1,Aa1 a];simp only[Acc];have:l.length-1-k=k:=by omega
   simp only[this]
 ·rw[Abj (by rw[PC];omega),Abj (by simp;omega)]
def aM {l:List Int}{i k:Nat}(a:k<l.length) (b:i≤k) (c:k+i<l.length):ix (WU l i) (k:Int)=some (l.getD k 0):=by
 unfold ix;rw[Aas (by omega),Abx,QH a,Aas (by omega)]
def aL {l:List Int}{i:Nat}(g:2*i+1<l.length):((WU l i).set i (l.getD (l.length-1-i) 0)).set (l.length-1-i) (l.getD i 0)=WU l (i+1):=by
 apply Abw;intro k;by_cases a:k<l.length
 ·rw[List.getElem?_set,List.getElem?_set,QH a,QH a];simp only[List.length_set,PC];by_cases b:l.length-1-i=k
  ·subst b;rw[Aav rfl,Aav a,Aav (by omega)];congr 2;omega
  ·rw[Aas b];by_cases c:i=k
   ·subst c;rw[Aav rfl,Aav a,Aav (by omega)]
   ·rw[Aas c];by_cases d:k<i∨l.length≤k+i
    ·rw[Aav d,Aav (by omega)]
    ·rw[Aas d,Aas (by omega)]
 ·rw[Abj (by simp [PC];omega),Abj (by rw[PC];omega)]
def lQ {N:Nat}{l:List Int}(b:l.length≤1000):∀(n i:Nat),l.length<n+i→2*i≤l.length→Dh N n (i:Int) ((l.length:Int)-1-i) (WU l i)=some l.reverse
 |0,i,c,d=>by omega
 |n+1,i,c,d=>by
  simp only[Dh];by_cases g:2*i+1<l.length
  ·have j:(l.length:Int)-1-i=((l.length-1-i:Nat):Int):=by omega
   have k:ix (WU l i) ((l.length-1-i:Nat):Int)=some (l.getD (l.length-1-i) 0):=aM (by omega) (by omega) (by omega);have m:ix (WU l i) (i:Int)=some (l.getD i 0):=aM (by omega) (by omega) (by omega);have a:∃z,ix (upd (WU l i) (i:Int) (l.getD (l.length-1-i) 0)) ((l.length-1-i:Nat):Int)=some z:=by
    refine⟨_,BB (l:=upd (WU l i) (i:Int) (l.getD (l.length-1-i) 0)) (i:=l.length-1-i) ?_⟩;simp [upd,PC];omega
   obtain⟨z,a⟩:=a;rw[j,Aba (by omega),Aaq,k,m];simp only[Aap];rw[a];simp only[Aap];have o:upd (upd (WU l i) (i:Int) (l.getD (l.length-1-i) 0)) ((l.length-1-i:Nat):Int) (l.getD i 0)=WU l (i+1):=aL g;rw[o,A9 (by omega),D5 (by omega) (by omega),show((l.length-1-i:Nat):Int)-1=(l.length:Int)-1-((i+1:Nat):Int) by omega];exact lQ b n (i+1) (by omega) (by omega)
  ·rw[Aaz (by omega),Aar,gK (by omega)]
def oP {N:Nat}(b:8000000000000<N) {l:List Int}(a:l.length≤1000):Ga N l=some l.reverse:=by
 unfold Ga;rw[D5 (by omega) (by omega)];have c:=lQ (N:=N) a N 0 (by omega) (by omega);rw[tZ] at c;have e:(l.length:Int)-1-((0:Nat):Int)=(l.length:Int)-1:=by omega
 rw[e] at c;exact c
def Xm {N:Nat}(d:18446744073709551616<N) {b:AF}{s:AN}{vs:List (Int×D9)}{c:Nat}(i:VK N b s vs c) (g:c≤200) (id cr:Int):Fm N (some ⟨b,vs,cr⟩) id=some (ZX vs c id).reverse:=by
 unfold Fm;rw[Aap];have e:DY N vs N [] id=some (ZX vs c id):=by
  cases a:C6 vs id with
  |none=>
   obtain⟨M,rfl⟩:∃j,N=j+1:=⟨N-1,by omega⟩
   simp only[DY];rw[a,QD a];rfl
  |some x=>
   have:=i.key id x a;exact bR i c N [] id this.2 (by omega) (by simp;omega)
 rw[show DY N (E5.vs ⟨b,vs,cr⟩) N [] id=_ from e,Aap];have:=XY (vs:=vs) c id;exact oP (by omega) (by omega)
def pS {N:Nat}(p:8000000000000<N) (b:AF) (l:List BJ):∃v,I9 N b l=some v∧(v=true→b.A.length≤6∧b.C.length≤6∧l.length≤16∧∀x∈l,ZU x.L∧x.Bl.length≤8∧x.L.T.length≤8):=by
 unfold I9;cases g:((decide (6<(b.A.length:Int))||decide (6<(b.C.length:Int)))||decide (16<(l.length:Int))) with
 |true=>exact⟨false,rfl,λF=>by cases F⟩
 |false=>
  simp only[Abk,Abe] at g;obtain⟨⟨q,s⟩,u⟩:=g;rw[Aar];rcases My l.length (λn i (_:Unit)=>Em N l (G5 N) n i) (λ_=>G5 N) (some false) (λk _=>∀x∈l.take k,ZU x.L∧x.Bl.length≤8∧x.L.T.length≤8) (λn k t c=>by
   simp only[Em];rw[Ft c];rfl) (λn k t d c=>by
   simp only[Em];rw[FW c,Aaq,BB c,Aap,A9 (by omega)];cases m:((((decide (8<((l[k]).L.T.length:Int))||decide (6<((l[k]).L.Ab.length:Int)))||decide (6<((l[k]).L.Ac.length:Int)))||decide (6<((l[k]).L.U.length:Int)))||decide (6<((l[k]).L.Ae.length:Int)))
   ·simp only[Abk,Abe] at m;obtain⟨⟨⟨⟨w,y⟩,z⟩,B⟩,D⟩:=m;rw[Aar,Aap,Aap];by_cases o:8<((l[k]).Bl.length:Int)
    ·rw[Aba o];exact .inl rfl
    ·rw[Aaz o];refine .inr ⟨(),λj a=>?_,rfl⟩;rw[Ab9 c] at a;rcases Abp.1 a with a|a
     ·exact d j a
     ·cases Ab0.1 a;exact⟨⟨by omega,by omega,by omega,by omega,by omega⟩,by omega,by omega⟩
   ·exact .inl rfl) N 0 () (λi d=>by cases d) (by omega) (Aaw _) with e|⟨_,i1,e⟩
  ·exact⟨false,e,λF=>by cases F⟩
  ·rw[Abu] at i1;exact⟨true,e,λ_=>⟨by omega,by omega,by omega,i1⟩⟩
def xS (b:AF) (s:AN):E5:=⟨b,[(0,⟨-1,iD,s,[]⟩)],((1:Nat):Int)⟩
def eQ {N:Nat}(i:18446744073709551616<N) (b:AF) (s:AN) (l:s.I.length≤4000000000000):∃t,H2 N b s=some t∧(t=none∨(t=some (xS b s)∧Gg N b=some true∧Zd b s)):=by
 unfold H2;obtain⟨v,c,kv⟩:=Vi i b;cases v with
 |false=>rw[c];exact⟨none,rfl,.inl rfl⟩
 |true=>
  rw[c,Aap,Aby,Aar];obtain⟨a,p,_,_⟩:=Q9 i c;obtain⟨v,j,n⟩:=Yv (N:=N) (by omega) a.head a.places s l;cases v with
  |false=>rw[j];exact⟨none,rfl,.inl rfl⟩
  |true=>
   have m:=n rfl;have x:=m.rg.x;have q:=a.head.own;have o:=a.head.pl;have u:=a.head.li;have w:=x.own.len;have z:=x.rem;have A:=x.gates;have B:=x.inn;have C:=x.out;have d:8000000000000<N:=by omega
   have g:KG N b s=some (some (xS b s)):=by
    unfold KG;rw[c,Aap,Aby,Aar,j,Aap,Aap,Aby,Aar,Uo d (by omega) (λy k=>by have:=(x.own.all y k).len;omega) (by omega) l (λy k=>by have:=(x.que y k).1.len;omega) (by omega) (by omega) (by omega),Aap,Uq d a (iB i c),Aap];rfl
   rw[j,Aap,Aap,Aby,Aar,g];exact⟨_,rfl,.inr ⟨rfl,rfl,m⟩⟩
def vk1 {N:Nat}{b:AF}{s:AN}(c:Zd b s):VK N b s [(0,⟨-1,iD,s,[]⟩)] 1:=by
 have a:∀k x,C6 [(0,(⟨-1,iD,s,[]⟩:D9))] k=some x→k=0∧x=⟨-1,iD,s,[]⟩:=λk x g=>by
  rw[NM,SL] at g;by_cases e:(0:Int)=k
  ·rw[Aav e] at g;cases g;exact⟨e.symm,rfl⟩
  ·rw[Aas e] at g;cases g
 refine⟨λk x g=>?_,⟨_,rfl,rfl,rfl⟩,λk x g h0=>absurd (a k x g).1 h0,λk x j g d=>?_,λk x g h0=>absurd (a k x g).1 h0,λk x g=>?_,Aa7 _⟩
 ·obtain⟨rfl,_⟩:=a k x g;omega
 ·obtain⟨_,rfl⟩:=a k x g;cases d
 ·obtain⟨rfl,rfl⟩:=a k x g;exact⟨c,by show(s.I.length:Int)≤_;omega,Aaw _,⟨Aaw _,Aaw _,Aaw _,Aaw _,Aaw _⟩⟩
def Xe:FI BN=some true:=by decide +kernel
def M8 (k:Nat):List Int:=(List.range k).map λ(i:Nat)=>(i:Int)
def KT {k:Nat}:(M8 k).length=k:=by simp [M8]
def Tu {k:Nat}:M8 (k+1)=M8 k++[(k:Int)]:=by simp [M8,List.range_succ]
def Vt {k i:Nat}(a:i<k):(M8 k)[i]? =some (i:Int):=by
 unfold M8;rw[Acd,Adw a];rfl
def QT {k i:Nat}(a:i<k):ix (M8 k) (i:Int)=some (i:Int):=by
 unfold ix;rw[Aas (by omega),Abx,Vt a]
def zY (s:AN) (l:List BJ) (vs:List (Int×D9)) (k:Nat):Prop:=∀j:Nat,j≤k→∃x,C6 vs (j:Int)=some x∧x.par=(j:Int)-1∧x.st.B=s.B+j∧∀i:Nat,j=i+1→∃d,l[i]? =some d∧x.inp=d.L
def W1 {s:AN}{l:List BJ}{vs:List (Int×D9)}{K:Nat}(g:∀j:Nat,j≤K→∃x,C6 vs (j:Int)=some x∧x.par=(j:Int)-1) (h0:C6 vs (-1)=none):∀(j m:Nat),j≤K→j<m→ZX vs m (j:Int)=(M8 (j+1)).reverse
 |0,m,a,d=>by
  obtain⟨m,rfl⟩:∃q,m=q+1:=⟨m-1,by omega⟩
  obtain⟨x,b,c⟩:=g 0 a;rw[OL b,c];have:((0:Nat):Int)-1= -1:=rfl;rw[this,QD h0];rfl
 |j+1,m,a,d=>by
  obtain⟨m,rfl⟩:∃q,m=q+1:=⟨m-1,by omega⟩
  obtain⟨x,b,c⟩:=g (j+1) a;rw[OL b,c,show((j+1:Nat):Int)-1=(j:Int) by omega,W1 (s:=s) (l:=l) g h0 j m (by omega) (by omega),Tu (k:=j+1)];simp
def Yz {N:Nat}(G:18446744073709551616<N) {b:AF}(H:fT b) {s:AN}(J:Zd b s) (K:s.I.length+100000≤4000000000000) (hH:s.B≤16777196) {l:List BJ}(hl:l.length≤16) (q:∀x∈l,ZU x.L) {kj:Int→List Int→Option E5→Option Bool}:∃vs,VK N b s vs (l.length+1)∧zY s l vs l.length∧vs.length=l.length+1∧Cj N l kj N 0 [0] 0 (some (xS b s))=kj (l.length:Int) (M8 (l.length+1)) (some ⟨b,vs,((l.length+1:Nat):Int)⟩):=by
 obtain⟨⟨id,M,t⟩,⟨vs,d,g,u,Q⟩,U⟩:=GO l.length (λn i (z:Int×List Int×Option E5)=>Cj N l kj n z.1 z.2.1 i z.2.2) (λz=>kj z.1 z.2.1 z.2.2) (λk z=>∃vs,z=((k:Int),M8 (k+1),some ⟨b,vs,((k+1:Nat):Int)⟩)∧VK N b s vs (k+1)∧zY s l vs k∧vs.length=k+1) (λn k z a=>by
  simp only[Cj];rw[Ft a];rfl) (λn k z v a=>by
  obtain⟨vs,rfl,d,g,u⟩:=v;simp only[Cj];rw[FW a,Aaq,BB a,Aap];obtain⟨p,m,e2,V,e4⟩:=g k (Aa7 _);rcases W7 G H K d (by omega) (q _ (Aa9 a)) (k:Int) with ⟨C,_⟩|⟨x,hx,⟨hh,_⟩|⟨_,j,z,hz,hj0,hzp,_,_⟩|⟨_,_,y,vs',o,rfl,ea,a1⟩⟩
  ·rw[m] at C;cases C
  ·rw[m] at hx;cases hx;omega
  ·have W:=d.key j z hz;obtain⟨z',c,w,_⟩:=g j.toNat (by omega);rw[show ((j.toNat:Nat):Int)=j by omega,hz] at c;cases c;omega
  ·rw[m] at hx;cases hx;rw[ea,Aap];simp only[ne_eq,not_true_eq_false,decide_false,Ac5];rw[A9 (by omega),Aaz (by simp),Aar,GI (by rw[KT];omega)];refine⟨(((k+1:Nat):Int),M8 (k+1+1),some ⟨b,_,((k+1+1:Nat):Int)⟩),⟨_,rfl,a1,λj X=>?_,by rw[Abi];simp [Mb];exact u⟩,by rw[Tu (k:=k+1)]⟩;have A:=λY=>SO (k:=Y) (y:={ p with kids:=p.kids++[((k+1:Nat):Int)]}) (z:=⟨(k:Int),l[k].L,y.1,[]⟩) m (d.big (Abo _));by_cases Z:j=k+1
   ·subst Z;refine⟨_,by rw[A,Aav rfl],by show(k:Int)=_;omega,by show y.1.B=_;rw[o.hour,V];omega,λi v=>?_⟩;obtain rfl:i=k:=by omega
    exact⟨_,Aa1 a,rfl⟩
   ·obtain⟨x',c,w,D,F⟩:=g j (by omega);by_cases e5:j=k
    ·subst e5;rw[m] at c;cases c;exact⟨{ p with kids:=p.kids++[((j+1:Nat):Int)]},by rw[A,Aas (by omega),Aav rfl],w,D,F⟩
    ·exact⟨x',by rw[A,Aas (by omega),Aas (by omega)];exact c,w,D,F⟩) N 0 (0,[0],some (xS b s)) ⟨_,rfl,vk1 J,λj X=>by
   obtain rfl:j=0:=by omega
   exact⟨_,rfl,rfl,by show s.B=_;omega,λi v=>by omega⟩,rfl⟩ (by omega) (Aaw _)
 cases d;exact⟨vs,g,u,Q,U⟩
def Yy {N:Nat}(t:18446744073709551616<N) {b:AF}(u:fT b) {s:AN}(v:s.I.length+100000≤4000000000000) (H:s.B≤16777196) {l:List BJ}(J:l.length≤16) (c:∀x∈l,ZU x.L) {vs:List (Int×D9)}(Y:VK N b s vs (l.length+1)) (g:zY s l vs l.length) {kj:Option E5→Option Bool}:Ci N l (M8 (l.length+1)) kj N 0 (some ⟨b,vs,((l.length+1:Nat):Int)⟩)=kj (some ⟨b,vs,((l.length+1:Nat):Int)⟩):=
 Nn l.length (λn i=>Ci N l (M8 (l.length+1)) kj n i (some ⟨b,vs,((l.length+1:Nat):Int)⟩)) (kj (some ⟨b,vs,((l.length+1:Nat):Int)⟩)) (λn k a=>by
  simp only[Ci];rw[Ft a];rfl) (λn k a=>by
  simp only[Ci];rw[FW a,Aaq,QT (by omega),Aap,BB a,Aap];obtain⟨K,m,M,Q,U⟩:=g k (by omega);obtain⟨w,y,A,V,C⟩:=g (k+1) a;obtain⟨d,o,D⟩:=C k rfl;rw[Aa1 a] at o;cases o;rcases W7 t u v Y (by omega) (c _ (Aa9 a)) (k:Int) with ⟨p,_⟩|⟨x,hx,⟨hh,_⟩|⟨_,j,z,hz,hj0,hzp,_,ea⟩|⟨_,hno,_⟩⟩
  ·rw[m] at p;cases p
  ·rw[m] at hx;cases hx;omega
  ·have F:=Y.key j z hz;obtain⟨W,q,X,_⟩:=g j.toNat (by omega);rw[show ((j.toNat:Nat):Int)=j by omega,hz] at q;cases q;have G:j=((k+1:Nat):Int):=by omega
   subst G;rw[ea,Aap];simp only[ne_eq,not_true_eq_false,decide_false,Aar];rw[A9 (by omega),QT (by omega)];simp
  ·exact absurd D (hno _ w y (by omega) (by rw[A];omega))) N 0 (by omega) (Aaw _)
def bW {N a L:Nat}(d:a≤L) (g:L≤1000) {v:Int}(j:v=(L:Int)+1):∀(n i:Nat),a+2<n+i→i≤a+1→ES N (M8 (a+1)++[v]) (M8 (L+1)) (ET N) n ((i:Int)-1) (i:Int)=some (a:Int)
 |0,i,k,l=>by omega
 |n+1,i,k,l=>by
  simp only[ES];by_cases o:i≤a
  ·have c:ix (M8 (a+1)++[v]) (i:Int)=some (i:Int):=by
    unfold ix;rw[Aas (by omega),Abx,Ad7 (by rw[KT];omega),Vt (by omega)]
   rw[Aba (by rw[Abi,KT];simp;omega),Aba (by rw[KT];omega),Bool.and_self,Aaq,c,QT (by omega)];simp only[Aap,decide_true,Aaq];rw[A9 (by omega)];have:=bW (N:=N) d g j n (i+1) (by omega) (by omega);rwa [show ((i+1:Nat):Int)-1=(i:Int) by omega] at this
  ·obtain rfl:i=a+1:=by omega
   have b:ET N (((a+1:Nat):Int)-1)=some (a:Int):=by
    unfold ET;congr 1;omega
   have c:ix (M8 (a+1)++[v]) ((a+1:Nat):Int)=some v:=by
    unfold ix;rw[Aas (by omega),Abx,Ad8 (by rw[KT];omega),KT];simp
   by_cases m:a+1<L+1
   ·rw[Aba (by rw[Abi,KT];simp;omega),Aba (by rw[KT];omega),Bool.and_self,Aaq,c,QT m];simp only[Aap];rw[Aaz (by omega)];exact b
   ·rw[Aaz (p:=((a+1:Nat):Int)<((M8 (L+1)).length:Int)) (by rw[KT];omega),Bool.and_false,Aar,Aap,Aar];exact b
def Rv {N:Nat}(m:18446744073709551616<N) (G:FI N=some true) (b:AF) (s:AN) (H:s.I.length+100000≤4000000000000) (l:List BJ) (p:Int):Fo N b s l p=some true:=by
 unfold Fo;rw[G,Aap];obtain⟨v,ev,kv⟩:=pS (N:=N) (by omega) b l;obtain⟨t,et,kt⟩:=eQ m b s (by omega);rw[ev,Aap,et,Aap];rcases kt with rfl|⟨rfl,hr,hs⟩
 ·simp
 cases v with
 |false=>rfl
 |true=>
  obtain⟨f1,f2,Z,J⟩:=kv rfl;cases hB:decide (16777196<s.B) with
  |true=>rfl
  |false=>
   have hH:=Ad1 hB;obtain⟨K,hP,_,_⟩:=Q9 m hr;have M:fT b:=⟨K,hP,f1,f2⟩
   obtain⟨vs,h,D,h3,e1⟩:=Yz m M hs H (by omega) Z (λx g=>(J x g).1) (kj:=D0 N l p true);simp only[Aby,Option.isNone_some,Bool.or_self,Aar];rw[e1];unfold D0;rw[Yy m M H (by omega) Z (λx g=>(J x g).1) h D];unfold En Hb I8;simp only[Aap];have hw:∀k:Nat,k≤1000→(max 0 (BO (((k+1:Nat):Int)-1)):Int)=k:=λk hk=>by rw[D5 (n:=((k+1:Nat):Int)-1) (by omega) (by omega)];omega
   rw[hw _ (by omega),Aaz (by simp),Aar,h3];have Q:∀{α} (x:Option α),chk (decide (l.length+1≤4611686018427387904)) x=x:=λx=>by unfold chk;rw[Aba (by omega)];rfl
   rw[Q,Aap,A9 (by omega),Aaz (by simp),Aap,Aar];obtain⟨a,ea,q⟩:∃a:Nat,Ge N p 0 (l.length:Int)=some (a:Int)∧a≤l.length:=by
    unfold Ge;by_cases U:p<0
    ·exact⟨0,by rw[Aba U];rfl,Aaw _⟩
    ·by_cases c2:(l.length:Int)<p
     ·exact⟨l.length,by rw[Aaz U,Aar,Aba c2];rfl,Aa7 _⟩
     ·exact⟨p.toNat,by rw[Aaz U,Aar,Aaz c2,Aar];congr 1;omega,by omega⟩
   rw[ea,Aap,QT (by omega),Aap];have hi:ZU (⟨([1,2,3,4,5,6,7,8,9]:List Int),[],[],[],[]⟩:By):=⟨by decide,Aaw _,Aaw _,Aaw _,Aaw _⟩
   obtain⟨u,A,g2,g3,g4⟩:=D a q;rcases W7 m M H h (by omega) hi (a:Int) with ⟨hn,_⟩|⟨x,g,⟨hh,_⟩|⟨_,j,z,hz,hj0,hzp,hzi,_⟩|⟨_,_,y,vs',o,rfl,ea2,a1⟩⟩
   ·rw[A] at hn;cases hn
   ·rw[A] at g;cases g;omega
   ·have aa:=h.key j z hz;obtain⟨z',w,V,_,m4⟩:=D j.toNat (by omega);rw[show ((j.toNat:Nat):Int)=j by omega,hz] at w;cases w;obtain⟨d,d1,d2⟩:=m4 (j.toNat-1) (by omega);have hd:=(J d (Ab3 d1)).2.2;rw[←d2,hzi] at hd;exact absurd hd (by decide)
   ·rw[A] at g;cases g;have W:=λk'=>SO (k:=k') (y:={ u with kids:=u.kids++[((l.length+1:Nat):Int)]}) (z:=⟨(a:Int),⟨[1,2,3,4,5,6,7,8,9],[],[],[],[]⟩,y.1,[]⟩) A (h.big (Abo _));have C:∀j:Nat,j≤l.length→∃x,C6 (Mb vs (a:Int) { u with kids:=u.kids++[((l.length+1:Nat):Int)]}++[(((l.length+1:Nat):Int),(⟨(a:Int),⟨[1,2,3,4,5,6,7,8,9],[],[],[],[]⟩,y.1,[]⟩:D9))]) (j:Int)=some x∧x.par=(j:Int)-1:=λj X=>by
     obtain⟨x',w,V,_⟩:=D j X;by_cases e5:j=a
     ·subst e5;rw[A] at w;cases w;exact⟨{ u with kids:=u.kids++[((l.length+1:Nat):Int)]},by rw[W,Aas (by omega),Aav rfl],V⟩
     ·exact⟨x',by rw[W,Aas (by omega),Aas (by omega)];exact w,V⟩
    have i:=a1.neg1 (k:= -1) (by omega);have Y:=λj X=>W1 (s:=s) (l:=l) C i j (l.length+1+1) X (by omega);have c:=W ((l.length+1:Nat):Int);rw[Aav rfl] at c;have F:=Xm m a1 (by omega) ((l.length+1:Nat):Int) ((l.length+1+1:Nat):Int);have p2:=Xm m a1 (by omega) (l.length:Int) ((l.length+1+1:Nat):Int);rw[OL c] at F;simp only at F;rw[W1 (s:=s) (l:=l) C i a (l.length+1) q (by omega),List.reverse_cons,List.reverse_reverse] at F;rw[Y l.length (Aa7 _),List.reverse_reverse] at p2;rw[ea2,Aap];simp only[Aaq,Aap,decide_true];rw[hw _ (by omega)];simp only[Aaq,Aap,decide_true];unfold Id;rw[F,Aap,p2,Aap];have hm:=bW (N:=N) q (by omega) (v:=((l.length+1:Nat):Int)) rfl N 0 (by omega) (by omega);rw[show ES N (M8 (a+1)++[((l.length+1:Nat):Int)]) (M8 (l.length+1)) (ET N) N (-1) 0=some (a:Int) from hm,Aap];simp only[Aaq,Aap,decide_true,Abi,KT];rw[D5 (n:=(a:Int)+2) (by omega) (by omega)];simp;omega
def P4 (b:AF) (s:AN) (a:s.I.length≤3600000000000) (l:List BJ) (p:Int):Fo BN b s l p=some true:=Rv xP Xe b s (by omega) l p
open Go.ChangeShapes Go.WideShapes Go.ChangeAt Go.RowKit Go.Deep
def FL {α}(P:Program) (t:TypeId) (r:A5 α):Prop:=
 P.cellsOf t=r.sz∧∀{H:Type} {enc:TypeId×Value→H} {w:World} {c:Nat} {a:Nat→Bool} {d:Bool} {g:Nat} {cs:List Value} {x:DataW H×List MemPlace},
  DataW.trod enc P w c a d g t cs=some x→∃y,r.rd (λb=>b<w.heap.size) w.heap cs y
def iA {n:Int}(a:(Lit.int .i64 n).wf=true):AA n:=by
 simpa [Lit.wf,IntKind.min,IntKind.max,IntKind.signed,IntKind.bits,AA] using a
def ZC {P:Program}{t:TypeId}(i:P.cellsOf t=1) (j:P.underlying t=some (.int .i64)):FL P t AB:=by
 refine⟨i,λ{H enc w d b g a cs x} o=>?_⟩;cases a with
 |zero=>simp [DataW.trod] at o
 |succ n=>
  unfold DataW.trod at o;simp only[j] at o;split at o<;>simp_all;rename_i k l m;obtain⟨⟨rfl,c⟩,_⟩:=o;subst m;exact⟨l,rfl,iA c⟩
def Wr {P:Program}{t:TypeId}(g:P.cellsOf t=1) (i:P.underlying t=some .bool):FL P t A5.bool:=by
 refine⟨g,λ{H enc w c b d a cs x} j=>?_⟩;cases a with
 |zero=>simp [DataW.trod] at j
 |succ n=>
  unfold DataW.trod at j;simp only[i] at j;split at j<;>first|(exact ⟨_,rfl⟩)|simp_all
def ZA {P:Program}{t:TypeId}(g:P.cellsOf t=1) (i:P.underlying t=some .string):FL P t A5.str:=by
 refine⟨g,λ{H enc w c b d a cs x} j=>?_⟩;cases a with
 |zero=>simp [DataW.trod] at j
 |succ n=>
  unfold DataW.trod at j;simp only[i] at j;split at j<;>simp_all;exact⟨_,rfl,j.1⟩
def RW {α}{p:Nat→α→Prop}:∀n,(∀i,i<n→∃x,p i x)→∃l:List α,l.length=n∧∀i x,l[i]? =some x→p i x
 |0,_=>⟨[],rfl,λi x j=>by simp at j⟩
 |n+1,j=>by
  obtain⟨l,b,c⟩:=RW n λi d=>j i (by omega);obtain⟨x,g⟩:=j n (by omega);refine⟨l++[x],by simp [b],λi y a=>?_⟩;rw[List.getElem?_append] at a;split at a
  ·exact c i y a
  ·rename_i d;have:i-l.length=0:=by
    have:=(Aa4.1 a).1;simp at this;omega
   rw[this] at a;simp at a;subst a;have:i=n:=by omega
   subst this;exact g
def HT {P:Program}{t e:TypeId}{α}{r:A5 α}(Q:P.cellsOf t=1) (U:P.underlying t=some (.slice e)) (A:FL P e r) (V:Nat.blt 0 r.sz=true):FL P t (A5.sl r):=by
 refine⟨Q,λ{H enc w J B K M cs x} h=>?_⟩;have k:0<r.sz:=(by simpa [Nat.blt] using V:1≤r.sz)
 rcases open_slice U h with ⟨rfl,_⟩|⟨a,len,cap,m,n,D,Pl,rfl,hb,hlc,hcm,hm,_,hel⟩
 ·exact⟨[],_,rfl,.inl ⟨rfl,rfl⟩⟩
 ·have W:len≤m:=by rw[hm];split<;>omega
  obtain⟨l,X,C⟩:=RW (p:=λi x=>a.spot=none∧Pt (λb=>b<w.heap.size) w.heap r (.pointer (some ⟨a.block,a.off+i*r.sz,none⟩)) x) len λi hi=>by
   obtain⟨cs',F,G⟩:=hel i (by omega);obtain⟨y,Y⟩:=A.2 G;obtain⟨_,q,JN⟩:=World.cells?_some F;rw[A.1] at q JN;have u:a.spot=none:=by
    obtain⟨v,I,_⟩:=hel 0 (by omega);obtain⟨_,g,c⟩:=World.cells?_some I;rw[A.1] at g c;have h0:=c 0 k;have Z:(a.add (0*r.sz)).add 0=a:=by simp [Addr.add]
    rw[Z] at h0;cases hs:a.spot with
    |none=>rfl
    |some s=>
     have:w.cell? a=none:=by
      unfold World.cell?;split
      ·simp [hs]
      ·rfl
     rw[this] at h0;have:v[0]? =some (v[0]'(by omega)):=Aa1 (by omega);rw[this] at h0;cases h0
   obtain⟨b,o,s⟩:=a;simp only at u;subst u;have d:∀j,((⟨b,o,none⟩:Addr).add (i*r.sz)).add j=⟨b,o+i*r.sz+j,none⟩:=by
    intro j;have e1:(⟨b,o,none⟩:Addr).add (i*r.sz)=⟨b,o+i*r.sz,none⟩:=by unfold Addr.add;split<;>simp_all
    rw[e1];unfold Addr.add;split<;>simp_all
   have z:b<w.heap.size:=by
    have h0:=JN 0 k;rw[d] at h0;have:cs'[0]? =some (cs'[0]'(by omega)):=Aa1 (by omega);rw[this] at h0;exact World.block_lt_of_cell? w _ h0
   refine⟨y,rfl,cs',⟨⟨b,o+i*r.sz,none⟩,rfl,rfl,z,λj hj=>?_⟩,Y⟩;have:=JN j (by omega);rw[d] at this;exact this
  exact⟨l,_,rfl,.inr ⟨a,cap,by rw[X],by omega,hcm,C⟩⟩
def Vs {P:Program}{t:TypeId}{l:Array Field}(q:P.underlying t=some (.struct l)) {H:Type}{enc:TypeId×Value→H}{w:World}{c:Nat}{a:Nat→Bool}{d:Bool}{g:Nat}{cs:List Value}{x:DataW H×List MemPlace}
  (v:DataW.trod enc P w c a d g t cs=some x):cs.length=P.cellsOf t∧∀(j:Nat) (f:Field) {z} (r:A5 z),l[j]? =some f→FL P f.type r→∃y,r.rd (λb=>b<w.heap.size) w.heap ((cs.drop f.offset).take r.sz) y:=by
 obtain⟨xs,n,_,_,s,i,u⟩:=DataW.trod_struct q v;refine⟨s,λj f z r m o=>?_⟩;have p:=u j f m;have k:j<xs.length:=by rw[i];exact(Abq.1 m).1
 rw[Aa1 k,o.1] at p;exact o.2 p
def oI {S h c}(k:∃y,AB.rd S h [c] y):∃y,c= .int .i64 y∧AA y:=by obtain⟨y,e,r⟩:=k;exact⟨y,(List.cons.inj e).1,r⟩
def oT {S h c}(k:∃y,A5.str.rd S h [c] y):∃y,c= .string y∧y.size≤maxLen:=by obtain⟨y,e,r⟩:=k;exact⟨y,(List.cons.inj e).1,r⟩
def oB {S h c}(k:∃y,A5.bool.rd S h [c] y):∃y,c= .bool y:=by obtain⟨y,e⟩:=k;exact⟨y,(List.cons.inj e).1⟩
def oS {α S h c}{r:A5 α}(k:∃y,(A5.sl r).rd S h [c] y):∃y,Sl S h r c y:=by obtain⟨y,w,e,k⟩:=k;cases e;exact⟨y,k⟩
def K1 {P:Program}{t:TypeId}{a:Array Field}{g}{r:A5 g}(d:P.underlying t=some (.struct a)) (c:P.cellsOf t=r.sz)
  (H:∀{w:World} {cs:List Value},cs.length=r.sz→(∀(j:Nat) (f:Field) {g} (r:A5 g),a[j]? =some f→FL P f.type r→∃y,r.rd (λb=>b<w.heap.size) w.heap ((cs.drop f.offset).take r.sz) y)→
   ∃y,r.rd (λb=>b<w.heap.size) w.heap cs y):FL P t r:=
 ⟨c,λ{_ _ _ _ _ _ _ _ _} i=>by have q:=Vs d i;exact H (q.1.trans c) q.2⟩
def eR {P:Program}{t:TypeId}{l:Array Field}{α}{r:A5 α}(m:FL P t r) (i:r.ag=true) (n:P.underlying t=some (.struct l)) {H:Type}{enc:TypeId×Value→H}{w:World}{j:Reach}{o c:Nat}{a:Nat→Bool}{g:Bool}{v:Value}{d:DataW H}{p:List MemPlace}
  (q:Value.okWide P w j o t v) (x:DataW.Trod enc P w c a g t v d p):∃y,Rd (λb=>b<w.heap.size) w.heap r v y:=by
 obtain⟨cs,rfl,_⟩:=okWide_struct n q;obtain⟨k,s⟩:=x;obtain⟨y,u⟩:=m.2 s;exact⟨y,cs.toList,by simp [A5.val,i],u⟩
def ZP {v:Value}{c:Value}(b:v.cells.toList=[c]) (a:c.oneCell'=true):v=c∨∃cs,v= .agg cs:=by
 cases v<;>first|(right;exact⟨_,rfl⟩)|(left;simpa [Value.cells] using b)
def YJ {P:Program}{t:TypeId}{α}{r:A5 α}(u:FL P t r) (m:r.ag=false) (n:r.sz=1) {H:Type}{enc:TypeId×Value→H}{w:World}{g:Nat}{a:Nat→Bool}{i:Bool}{v:Value}{d:DataW H}{p:List MemPlace}
  (o:∀cs,v≠ .agg cs) (z:DataW.Trod enc P w g a i t v d p):∃y,Rd (λb=>b<w.heap.size) w.heap r v y:=by
 obtain⟨q,x⟩:=z;obtain⟨y,l⟩:=u.2 x;have s:=r.len l;rw[n] at s
 match j:v.cells.toList,s with
 |[c],_=>
  rw[j] at l;have k:=r.one l c (by simp);rcases ZP j k with rfl|⟨cs,rfl⟩
  ·exact⟨y,[v],by simp [A5.val,m],l⟩
  ·exact absurd rfl (o cs)
def bU {P:Program}{t e:TypeId}(b:P.underlying t=some (.slice e)) {w:World}{a:Reach}{c:Nat}{v:Value}(d:Value.okWide P w a c t v):∀cs,v≠ .agg cs:=by
 rintro cs rfl;simp [Value.okWide,b,Cell.okWide,Cell.ok] at d
def pC {P:Program}{t:TypeId}{k:IntKind}(b:P.underlying t=some (.int k)) {w:World}{a:Reach}{c:Nat}{v:Value}(d:Value.okWide P w a c t v):∀cs,v≠ .agg cs:=by
 rintro cs rfl;simp [Value.okWide,b,Cell.okWide,Cell.ok] at d
def Pa {H:Type}{enc:TypeId×Value→H}{P:Program}(l:laidOutB P=true) {W m:World}(n:Below W.heap.size W m):
  ∀{j:List TypeId} {vs:List Value} {ds:List (DataW H)} {b:List MemPlace},(∀t∈j,P.readableRec t=true∧t<P.types.size)→DataW.TrodAll enc P W 0 (λ_=>true) true j vs ds b→(∀x∈b,x.block<W.heap.size)→
   ∀c:Nat→Bool,(∀x∈b,c x.block=true)→DataW.TrodAll enc P m 0 c true j vs ds b
 |[],vs,ds,b,_,B,_,c,_=>by
  obtain⟨rfl,rfl,rfl⟩:=trodAll_nil B;exact rfl
 |t::j,vs,ds,b,o,B,g,c,i=>by
  obtain⟨v,s,d,u,p,q,rfl,rfl,rfl,w,y⟩:=trodAll_cons B;obtain⟨z,A⟩:=o t (by simp);refine⟨p,q,WideElems.Trod_stays l z A w (λx a=>n.same (g x (by simp [a]))) (λx a=>i x (by simp [a])),?_,rfl⟩;exact Pa l n (λt k=>o t (by simp [k])) y (λx a=>g x (by simp [a])) c λx a=>i x (by simp [a])
def cF {H:Type}{enc:TypeId×Value→H}{P:Program}{f:Func}{s:ChangeSpec}{W k:World}{c:Array Value}{ds g:List (DataW H)}{a:List MemPlace}{tb:TypeId}
  (o:laidOutB P=true) (i:f.params.toList.all (λt=>P.readableRec t&&decide (t<P.types.size))=true) (j:DataW.Whole enc P f.params.toList s.vars false W c.toList ds g a)
  (q:f.resultTypes= #[tb]) (u:P.underlying tb=some .bool) (b:s.vars=[]) (v:(s.fn H (ds++g)).results=[.lit (.bool true)]) (w:(s.fn H (ds++g)).args=ds) (y:(s.fn H (ds++g)).vars=[])
  (l:Below W.heap.size W k):s.post enc P f false true false false W c (.bool true) k:=by
 have d:∀p∈a,p.block<W.heap.size:=λp z=>j.lt p z;obtain⟨m,pv,A,n,rfl,D,F⟩:=id j;rw[b] at n;obtain⟨rfl,rfl⟩:=trodVars_none n;simp only[Ab2] at*;refine⟨ds,[],m,[],m,[],by simpa using j,?_,?_,?_,?_,λG=>by cases G⟩
 ·simp only[Ab2];rw[v,q];exact trodAll_mk1 (shut_bool u true)
 ·simp only[Ab2];rw[w];refine Pa o l (λt B=>?_) A d _ λx C=>by simpa using d x C
  have:=Aa0.1 i t B;simpa using this
 ·simp only[Ab2];rw[y,b];exact rfl
 ·exact l.frame _
def ZG {P:Program}{f:FuncId}{a:Array Value}{W:World}{L:(Nat→Prop)→AO→Prop}(k:CJ P f a (λb=>b<W.heap.size) W.heap (λv S' h'=>v= .bool true∧L S' h')):
  Calls P f a W λe d=>e= .returned (.bool true)∧Below W.heap.size W d:=
 (k W W ⟨rfl,rfl,rfl,rfl⟩).mono λe d ⟨v,S',h',i,c,g,j,_⟩=>by
  subst i;subst j;exact⟨rfl,c.os,c.tape,c.out,by rw[c.heap];exact g.siz,λb l=>by rw[c.heap];exact g.same b l⟩
open Go.ChangeShapes Go.WideShapes Go.ChangeAt Go.RowKit
namespace bshares
theorem bshares_n:Tryz.pinned.checked.prog.funcNamed Rows.branchSharesRow.func=some 3:=by kernel_rfl
set_option maxHeartbeats 20000000 in
theorem bshares_j:joinedFacts Tryz.pinned.checked.prog 3 Tryz.f3 Rows.branchSharesSpec Rows.branchSharesRow=true:=by
 unfold joinedFacts
 iterate 31 refine Bool.and_eq_true_iff.2 ⟨?_,?_⟩
 all_goals as_aux_lemma=>kernel_rfl
end bshares
section
variable {H:Type}{enc:TypeId×Value→H}{P:Program}{w:World}{base:Nat}{spare:Nat→Bool}{held:Bool}
def UL:∀{l:List TypeId}{ds:List (DataW H)}{j:Nat}{t:TypeId}{d:DataW H},l[j]? =some t→ds[j]? =some d→∀q∈d.weights P t,q∈DataW.weightsEach P l ds
 |[],_,j,t,d,i,_=>by cases j<;>cases i
 |_::_,[],j,t,d,_,i=>by cases j<;>cases i
 |a::l,x::ds,0,t,d,b,c=>λq g=>by
  cases b;cases c;simp only[DataW.weightsEach];exact Acu _ g
 |a::l,x::ds,j+1,t,d,b,c=>λq g=>by
  simp only[DataW.weightsEach];exact Adz _ (UL (l:=l) (ds:=ds) (j:=j) b c q g)
def tR {R:Nat}{t e:TypeId}(d:P.underlying t=some (.slice e)) {b:Nat}{a:Option Addr}{len cap:Nat}{x:DataW H×List MemPlace}(j:DataW.trod enc P w base spare held b t [.slice a len cap]=some x) (g:∀q∈x.1.weights P t,q≤R):len*P.bytesOf e≤R:=by
 rcases open_slice d j with ⟨c,_⟩|⟨a',len',cap',m,n,D,Pl,c,_,_,_,_,rfl,_⟩
 ·cases c;omega
 ·cases c;simp only[DataW.weights,d] at g;have i:=g _ (Abf ..);rw[Adv,List.length_range] at i;exact Ab5 (Aca _ (Nat.le_add_right _ _)) i
def tQ {t:TypeId}{i:Array Field}(k:P.underlying t=some (.struct i)) {a:Nat}{cs:List Value}{x:DataW H×List MemPlace}(u:DataW.trod enc P w base spare held a t cs=some x) {j:Nat}{f:Field}(g:i[j]? =some f):
  ∃n y,DataW.trod enc P w base spare held n f.type ((cs.drop f.offset).take (P.cellsOf f.type))=some y∧∀q∈y.1.weights P f.type,q∈x.1.weights P t:=by
 obtain⟨xs,n,_,m,s,b,o⟩:=DataW.trod_struct k u;have l:=o j f g;have c:j<xs.length:=by rw[b];exact(Abq.1 g).1
 rw[Aa1 c] at l;refine⟨n,xs[j],l,λq p=>?_⟩;subst m;simp only[DataW.weights,k];refine UL (j:=j) (t:=f.type) (d:=(xs[j]).1) ?_ ?_ q p
 ·rw[Acd,Array.getElem?_toList,g];rfl
 ·rw[Acd,Aa1 c];rfl
def eT {R:Nat}{t:TypeId}{b:Array Field}(i:P.underlying t=some (.struct b)) {v u:Value}{d:DataW H}{p:List MemPlace}(F:DataW.Trod enc P w base spare held t v d p) (m:∀q∈d.weights P t,q≤R) {j:Nat}{f:Field}(o:b[j]? =some f) {e:TypeId}(s:P.underlying f.type=some (.slice e)) (x:P.cellsOf f.type=1)
  (z:(v.cells.toList.drop f.offset).take 1=[u]) {α} {S:Nat→Prop} {A:AO} {r:A5 α} {l:List α} (k:Sl S A r u l):l.length*P.bytesOf e≤R:=by
 obtain⟨c,B⟩:=F;obtain⟨n,y,g,C⟩:=tQ i B o;obtain⟨a,cap,rfl,_⟩:=k.len;rw[x,z] at g;exact tR s g λq D=>m q (C q D)
end
end Go.Proofs.YtabonambpbofgaaGreat
