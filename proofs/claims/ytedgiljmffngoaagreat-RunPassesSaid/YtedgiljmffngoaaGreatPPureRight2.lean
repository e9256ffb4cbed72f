import Derived.Test.YtedgiljmffngoaaGreatPPureRight
namespace Go.Proofs.YtedgiljmffngoaaGreat
set_option linter.all false
open Go.RowKit
structure H9 (b:AE) (p:Dw):Prop where
 lev:IA p.Bn
 num:JD p.Y
 den:JD p.T
 down:p.Ak= -1∨(0≤p.Ak∧p.Ak<b.A.length)
 cap:JD p.Av
 delay:0≤p.Q∧p.Q≤240
def Vs {N:Nat}(p:Dw) (kj:Int→Option Bool) (b:p.Be.length≤16):∀(n:Nat) (s:Int) (k:Nat),p.Be.length<n+k→k≤p.Be.length→Ck N p kj n s (k:Int)=some false∨∃s',Ck N p kj n s (k:Int)=kj s'
 |0,s,k,d,c=>by omega
 |n+1,s,k,d,c=>by
  simp only[Ck];rcases Aar k p.Be.length with a|a
  ·rw[Ef a,zV,BM a];simp only[zU,MT,BK (show k<4611686018427387904 by omega)];cases Uf p.Be[k]
   ·exact .inl rfl
   ·exact Vs (N:=N) p kj b n _ (k+1) (by omega) (by omega)
  ·rw[E5 a];exact .inr ⟨s,rfl⟩
def Xx {N:Nat}(b:AE) (p:Dw) (a:Int) (kj:Int→Option Bool) (g:0≤b.P∧b.P≤64):∀(n:Nat) (s:Int) (k:Nat), -1≤s→s≤64→65<n+s→k<100→(k:Int)≤s+1→Cj N b p a kj n s (k:Int)=some false∨Cj N b p a kj n s (k:Int)=kj a
 |0,s,k,i,j,l,m,o=>by omega
 |n+1,s,k,i,j,l,m,o=>by
  simp only[Cj];rcases Aar k p.Aa.length with c|c
  ·rw[Ef c,zV,BM c];simp only[zU,MT,Fo,LP,BK (show k<4611686018427387904 by omega)];cases d:(decide ((p.Aa[k]).Bh≤s)||decide (b.P≤(p.Aa[k]).Bh)|| !Uf (p.Aa[k]).Bm)
   ·simp only[Aa2,Aat] at d;obtain⟨⟨q,t⟩,u⟩:=d;exact Xx (N:=N) b p a kj g n _ (k+1) (by omega) (by omega) (by omega) (by omega) (by omega)
   ·exact .inl rfl
  ·rw[E5 c];exact .inr rfl
def UH {N:Nat}(o:1000<N) (b:AE) (a:II b):∀(n:Nat) (s:Int) (k:Nat),b.A.length<n+k→k≤b.A.length→∃v,BH N b (BS N) n s (k:Int)=some v∧(v=true→∀(i:Nat) p,k≤i→b.A[i]? =some p→H9 b p)
 |0,s,k,Y,q=>by omega
 |n+1,s,k,Y,q=>by
  have Q:=a.pl;simp only[BH];rcases Aar k b.A.length with c|c
  ·rw[Ef c,zV,BM c];obtain⟨U,g,j⟩:=Jg (N:=N) (by omega) (b.A[k]).Bn;simp only[zU,NA,MT,Qu,g,RK N b _ _ (show b.A.length<4611686018427387904 by omega),Fo,LP];generalize l:(_|| !Vm b.A.length (k:Int) (b.A[k]).Ak)=B
   cases B
   ·simp only[Aa2,Aat,Ach] at l;obtain⟨⟨⟨⟨⟨⟨⟨⟨V,W⟩,t⟩,u⟩,X⟩,w⟩,x⟩,m⟩,y⟩:=l;have z:(b.A[k]).Be.length=b.I.length:=by
     have:((b.A[k]).Be.length:Int)=(b.I.length:Int):=by simpa using x
     omega
    have C:H9 b b.A[k]:=⟨j w,(Pe m).1,(Pe m).2,Xk y,LH u,Kf t⟩
    simp only[zX];rcases Vs (N:=N) b.A[k] (Dd N b b.A[k] (B9 N (k:Int) (BH N b (BS N) n))) (by have:=a.own;omega) N s 0 (by have:=a.own;omega) (Aad _) with e|⟨s',e⟩
    ·exact⟨false,e,λY=>by cases Y⟩
    ·have D:Ck N b.A[k] (Dd N b b.A[k] (B9 N (k:Int) (BH N b (BS N) n))) N s 0=_:=e;rw[D];unfold Dd;rcases Xx (N:=N) b b.A[k] s' (B9 N (k:Int) (BH N b (BS N) n)) a.cells N (-1) 0 (by omega) (by omega) (by omega) (by omega) (by omega) with e|e
     ·exact⟨false,e,λY=>by cases Y⟩
     ·have F:Cj N b b.A[k] s' (B9 N (k:Int) (BH N b (BS N) n)) N (-1) 0=_:=e;rw[F];unfold B9;rw[BK (show k<4611686018427387904 by omega)];obtain⟨v,G,H⟩:=UH o b a n s' (k+1) (by omega) (by omega);refine⟨v,G,λJ i p K d=>?_⟩;by_cases M:i=k
      ·subst M;have:p=b.A[i]:=by simpa [c] using d.symm
       rw[this];exact C
      ·exact H J i p (by omega) d
   ·exact⟨false,rfl,λY=>by cases Y⟩
  ·rw[E5 c];refine⟨_,rfl,λ_ i p K d=>?_⟩;have:=(Aai.1 d).1;omega
def ZN {N:Nat}(c:1000<N) (b:AE) (a:II b):∃v,Hf N b=some v∧(v=true→∀p∈b.A,H9 b p):=by
 obtain⟨v,d,g⟩:=UH c b a N 0 0 (by have:=a.pl;omega) (Aad _);refine⟨v,d,λj p k=>?_⟩;obtain⟨i,l,rfl⟩:=Adx.1 k;exact g j i _ (Aad _) (by simp [l])
structure J1 (b:AE) (l:BL):Prop where
 kind:0≤l.G∧l.G≤5
 fr:0≤l.D∧l.D<b.A.length
 to:l.B= -1∨(0≤l.B∧l.B<b.A.length)
 delay:0≤l.Q∧l.Q≤240
 gate:l.G=0→IA l.Aw∧IA l.Ag.Az∧IA l.Ag.Ba∧JD l.As∧JD l.An
 part:l.G=1∨l.G=5∨l.G=3→JD l.Y∧1≤l.T∧l.T≤1125899906842624
 seep:l.G=4→JD l.Y∧1≤l.T∧l.T≤1125899906842624∧JD l.As∧JD l.An∧l.B≠ -1
def aG {N:Nat}(d:18446744073709551616<N) (a b:List BU) (g:1≤a.length) (c:a.length≤32) (i:b.length≤32):Df (GP N a b):=by
 unfold GP;rcases I3 b.length (GN N a b (Hu N)) (Hu N) (λ_=>True) (λn k l=>by
  simp only[GN];rw[E5 l];rfl) (λn k l=>by
  simp only[GN];obtain⟨v,j⟩:=Sh d g c (b[k]).R;rw[Ef l,zV,BM l];simp only[zU,j,BK (show k<4611686018427387904 by omega)];cases (decide ((b[k]).W<v.1)||decide (v.1=(b[k]).W)&&v.2)
  ·exact .inr ⟨trivial,rfl⟩
  ·exact .inl rfl) N 0 (by omega) (Aad _) with l|⟨_,l⟩
 ·exact⟨_,l⟩
 ·exact⟨true,l⟩
def Qb {N:Nat}(d:18446744073709551616<N) (a b:List BU):Df (Hq N a b):=by
 unfold Hq;obtain⟨s,i,j⟩:=Jg (N:=N) (by omega) a;obtain⟨t,l,m⟩:=Jg (N:=N) (by omega) b;simp only[i,l,zU,Fo,LP];refine Df.cond (λ_=>Df.mk _) λu=>?_;simp only[Aa2,Ach] at u;obtain⟨o,p,_⟩:=j u.1;obtain⟨q,g,_⟩:=m u.2;rcases I3 a.length (GO N a b (GP N a b)) (GP N a b) (λ_=>True) (λn k u=>by
  simp only[GO];rw[E5 u];rfl) (λn k u=>by
  simp only[GO];obtain⟨v,c⟩:=Sh d q g (a[k]).R;rw[Ef u,zV,BM u];simp only[zU,c,BK (show k<4611686018427387904 by omega)];cases decide (v.1<(a[k]).W)
  ·exact .inr ⟨trivial,rfl⟩
  ·exact .inl rfl) N 0 (by omega) (Aad _) with u|⟨_,u⟩
 ·exact⟨_,u⟩
 ·obtain⟨v,c⟩:=aG d a b o p g;exact⟨v,u.trans c⟩
def US {N:Nat}(m:18446744073709551616<N) (l:BL):∃v,FT N l=some v∧(v=true→
  (l.G=0→IA l.Aw∧IA l.Ag.Az∧IA l.Ag.Ba∧JD l.As∧JD l.An)∧(l.G=1∨l.G=5∨l.G=3→JD l.Y∧1≤l.T∧l.T≤1125899906842624)∧
  (¬(l.G=0∨l.G=1∨l.G=5∨l.G=2∨l.G=3)→JD l.Y∧1≤l.T∧l.T≤1125899906842624∧JD l.As∧JD l.An∧l.B≠ -1)):=by
 obtain⟨v1,q,s⟩:=Jg (N:=N) (by omega) l.Aw;obtain⟨D,t,u⟩:=Jg (N:=N) (by omega) l.Ag.Az;obtain⟨F,w,x⟩:=Jg (N:=N) (by omega) l.Ag.Ba;obtain⟨H,y⟩:=Qb m l.Ag.Az l.Aw;obtain⟨I,z⟩:=Qb m l.Aw l.Ag.Ba;unfold FT;by_cases k0:l.G=0
 ·rw[show decide (l.G=0)=true by simp [k0],zV];simp only[q,t,w,y,z,NA,MT,Qu,zU,Fo,QI];refine⟨_,rfl,λV=>?_⟩;simp only[Aaa] at V;obtain⟨⟨⟨⟨⟨⟨⟨⟨⟨d,a⟩,b⟩,i⟩,A⟩,J⟩,K⟩,M⟩,n⟩,C⟩:=V;exact⟨λ_=>⟨s d,u a,x b,(Pe n).1,(Pe n).2⟩,λV=>by omega,λV=>absurd (.inl k0) V⟩
 ·rw[show decide (l.G=0)=false by simp [k0],zX];have o:∀c:Bool,(c=true↔l.G=1∨l.G=5)→∃v,Dg N l c=some v∧(v=true→
    (l.G=0→IA l.Aw∧IA l.Ag.Az∧IA l.Ag.Ba∧JD l.As∧JD l.An)∧(l.G=1∨l.G=5∨l.G=3→JD l.Y∧1≤l.T∧l.T≤1125899906842624)∧
    (¬(l.G=0∨l.G=1∨l.G=5∨l.G=2∨l.G=3)→JD l.Y∧1≤l.T∧l.T≤1125899906842624∧JD l.As∧JD l.An∧l.B≠ -1)):=λc p=>by
   unfold Dg;simp only[NA,MT,Qu,zU,Fo,QI];cases c
   ·have Q:¬(l.G=1∨l.G=5):=λV=>by have:=p.2 V;cases this
    rw[zX];by_cases j:l.G=2
    ·rw[show decide (l.G=2)=true by simp [j],zV];exact⟨_,rfl,λ_=>⟨λV=>absurd V k0,λV=>by omega,λV=>absurd (.inr (.inr (.inr (.inl j)))) V⟩⟩
    ·rw[show decide (l.G=2)=false by simp [j],zX];by_cases k:l.G=3
     ·rw[show decide (l.G=3)=true by simp [k],zV];refine⟨_,rfl,λV=>?_⟩;simp only[Aaa] at V;obtain⟨⟨⟨⟨d,a⟩,b⟩,i⟩,A⟩:=V;exact⟨λV=>absurd V k0,λ_=>⟨LH d,Kf a⟩,λV=>absurd (.inr (.inr (.inr (.inr k)))) V⟩
     ·rw[show decide (l.G=3)=false by simp [k],zX];refine⟨_,rfl,λV=>?_⟩;simp only[Aaa,Aam] at V;obtain⟨⟨⟨d,a⟩,b⟩,i⟩:=V;exact⟨λV=>absurd V k0,λV=>by omega,λ_=>⟨LH d,(Kf a).1,(Kf a).2,(Pe b).1,(Pe b).2,i⟩⟩
   ·have U:=p.1 rfl;rw[zV];refine⟨_,rfl,λV=>?_⟩;simp only[Aaa] at V;obtain⟨⟨d,a⟩,b⟩:=V;exact⟨λV=>absurd V k0,λ_=>⟨LH a,Kf b⟩,λV=>by omega⟩
  by_cases g:l.G=1
  ·rw[show decide (l.G=1)=true by simp [g],zV];exact o true (by simp [g])
  ·rw[show decide (l.G=1)=false by simp [g],zX];exact o _ (by simp [g])
def T4 (N:Nat) (l:BL):Df (FQ N l):=by
 unfold FQ;exact Df.cond (λ_=>Df.mk _) λ_=>Df.cond (λ_=>Df.mk _) λ_=>Df.cond (λ_=>Df.mk _) λ_=>Df.cond (λ_=>Df.mk _) λ_=>Df.cond (λ_=>Df.mk _) λ_=>Df.mk _
def cR {N:Nat}(m:18446744073709551616<N) (b:AE) (c:II b):∃v,Ev N b=some v∧(v=true→∀l∈b.F,J1 b l):=by
 have H:=c.pl;have I:=c.li;unfold Ev;rcases I3 b.F.length (Cd N b (DM N)) (DM N) (λi=>∀l,b.F[i]? =some l→J1 b l) (λn k M=>by
  simp only[Cd];rw[E5 M];rfl) (λn k M=>by
  simp only[Cd];obtain⟨J,o,p⟩:=US m b.F[k];obtain⟨q,s⟩:=T4 N b.F[k];rw[Ef M,zV,BM M];simp only[zU,NA,Qs N _ (show b.A.length<4611686018427387904 by omega),RK N b _ _ (show b.A.length<4611686018427387904 by omega),o,s,Fo,LP,BK (show k<4611686018427387904 by omega)];generalize d:(_|| !q)=B
  cases B
  ·simp only[Aa2,Ach] at d;obtain⟨⟨⟨⟨⟨t,u⟩,w⟩,g⟩,x⟩,K⟩:=d;have y:=Kf t;have z:=Kf u;obtain⟨C,D,G⟩:=p x;refine .inr ⟨λl a=>?_,rfl⟩;have:l=b.F[k]:=by simpa [M] using a.symm
   rw[this];exact⟨y,⟨z.1,by omega⟩,Xk w,Kf g,C,D,λg=>G (by omega)⟩
  ·exact .inl rfl) N 0 (by omega) (Aad _) with M|⟨hp,M⟩
 ·exact⟨false,M,λM=>by cases M⟩
 ·refine⟨true,M,λ_ l a=>?_⟩;obtain⟨i,j,rfl⟩:=Adx.1 a;exact hp i (Aad _) j _ (by simp [j])
def X7 (N:Nat) (b:AE) (o to:Int) (c:to= -1∨(0≤to∧to<b.A.length)):Df (IW N b o to):=by
 unfold IW;refine Df.cond (λ_=>Df.mk _) λa=>?_;simp only[Aat] at a;exact Df.bind (Df.ix (by omega) (by omega)) λ_ _=>Df.mk _
def XB {N:Nat}(w:1000<N) (b:AE) (m:II b) (o:∀p∈b.A,H9 b p) (q:∀l∈b.F,J1 b l):Df (GT N b):=by
 have y:=m.pl;have C:=m.li;have s:Df (Cq N b):=by
  unfold Cq;rcases I3 b.F.length (Co N b (Du N)) (Du N) (λ_=>True) (λn k D=>by
   simp only[Co];rw[E5 D];rfl) (λn k D=>by
   simp only[Co];have a:=q b.F[k] (Aap D);obtain⟨x,t⟩:=Df.ix (l:=b.A) a.fr.1 a.fr.2;obtain⟨v,c⟩:=X7 N b x.Ac (b.F[k]).B a.to;rw[Ef D,zV,BM D];simp only[zU,t,c,BK (show k<4611686018427387904 by omega)];have i:∃z,(cond (!v) (some true) ((cond (decide ((b.F[k]).G=4)) ((ix b.A (b.F[k]).B).bind λd=>some (decide (d.Ac≠x.Ac))) (some false)).bind λg=>some g))=some z:=by
    refine Df.cond (λ_=>Df.mk _) λ_=>Df.bind (Df.cond (λu=>?_) λ_=>Df.mk _) λ_ _=>Df.mk _;have j:(b.F[k]).G=4:=by simpa using u
    have:=(a.seep j).2.2.2.2.2;have:=a.to;exact Df.bind (Df.ix (by omega) (by omega)) λ_ _=>Df.mk _
   obtain⟨z,i⟩:=i;rw[i];simp only[zU];cases z
   ·exact .inr ⟨trivial,rfl⟩
   ·exact .inl rfl) N 0 (by omega) (Aad _) with D|⟨_,D⟩
  ·exact⟨_,D⟩
  ·exact⟨true,D⟩
 unfold GT;rcases I3 b.A.length (Cp N b (Cq N b)) (Cq N b) (λ_=>True) (λn k D=>by
   simp only[Cp];rw[E5 D];rfl) (λn k D=>by
   simp only[Cp];have a:=o b.A[k] (Aap D);obtain⟨v,c⟩:=X7 N b (b.A[k]).Ac (b.A[k]).Ak a.down;rw[Ef D,zV,BM D];simp only[zU,c,BK (show k<4611686018427387904 by omega)];cases v
   ·exact .inl rfl
   ·exact .inr ⟨trivial,rfl⟩) N 0 (by omega) (Aad _) with D|⟨_,D⟩
 ·exact⟨_,D⟩
 ·obtain⟨v,c⟩:=s;exact⟨v,D.trans c⟩
def Vr {N:Nat}(d:18446744073709551616<N) (c:List BU) (g:IA c) (kj:Int→Option Int):∀(n:Nat) (s:Int) (k:Nat),c.length<n+k→1≤k→k≤c.length→∃s',ES N c kj n s (k:Int)=kj s'
 |0,s,k,A,i,j=>by omega
 |n+1,s,k,A,i,j=>by
  obtain⟨l,m,b⟩:=g;simp only[ES];rcases Aar k c.length with a|a
  ·have o:A9 ((k:Int)-1)=((k-1:Nat):Int):=by rw[C7 (by omega) (by omega)];omega
   rw[Ef a,zV,o,BM a,BM (show k-1<c.length by omega)];simp only[zU,BK (show k<4611686018427387904 by omega)];obtain⟨p,q,t⟩:=b k c[k] (by simp [a]);obtain⟨u,w,_⟩:=b (k-1) c[k-1] (by simp [show k-1<c.length by omega]);obtain⟨y,z⟩:=t c[k-1] (by omega) (by simp [show k-1<c.length by omega]);unfold JD at p q u w;obtain⟨v,x⟩:=NT d (num:=A9 ((c[k]).W-(c[k-1]).W)) (den:=A9 ((c[k]).R-(c[k-1]).R)) (by rw[C7 (by omega) (by omega)];omega) (by rw[C7 (by omega) (by omega)];omega) (by rw[C7 (by omega) (by omega)];omega);rw[x];exact Vr d c ⟨l,m,b⟩ kj n _ (k+1) (by omega) (by omega) (by omega)
  ·rw[E5 a];exact⟨s,rfl⟩
def bC {N:Nat}(d:18446744073709551616<N) (cs:List (List BU)) (m:cs.length≤3) (g:∀c∈cs,IA c):Df (Iw N cs):=by
 unfold Iw;have:∀(n:Nat) (s:Int) (k:Nat),cs.length<n+k→k≤cs.length→Df (C5 N cs (Dq N) n s (k:Int)):=by
  intro n
  induction n with
  |zero=>intro s k o i;omega
  |succ n j=>
   intro s k o i;simp only[C5];rcases Aar k cs.length with a|a
   ·rw[Ef a,zV,BM a];simp only[zU];have b:=g cs[k] (Aap a);obtain⟨s',e⟩:=Vr d cs[k] b (FP N (k:Int) (C5 N cs (Dq N) n)) N s 1 (by have:=b.2.1;omega) (by omega) b.1;have l:ES N cs[k] (FP N (k:Int) (C5 N cs (Dq N) n)) N s 1=_:=e;rw[l];unfold FP;rw[BK (show k<4611686018427387904 by omega)];exact j s' (k+1) (by omega) (by omega)
   ·rw[E5 a];exact Df.mk _
 exact this N 0 0 (by omega) (Aad _)
def LV {α}(l:List α) (i:Int) (x:α):(upd l i x).length=l.length:=by simp [upd]
def tZ {N:Nat}(a:1000<N) (l:List Int) (b:l.length≤64):Df (Ci N l):=by
 unfold Ci;rcases I3 l.length (DZ N l (FH N)) (FH N) (λ_=>True) (λn k c=>by
  simp only[DZ];rw[E5 c];rfl) (λn k c=>by
  simp only[DZ];rw[Ef c,zV,BM c];simp only[zU,BK (show k<4611686018427387904 by omega)];cases decide (1099511627776<l[k])
  ·exact .inr ⟨trivial,rfl⟩
  ·exact .inl rfl) N 0 (by omega) (Aad _) with c|⟨_,c⟩
 ·exact⟨_,c⟩
 ·exact⟨true,c⟩
def lN {N:Nat}(o:18446744073709551616<N) (b:AE) (t:II b) (J:∀l∈b.F,J1 b l) (kj:List Int→Option Bool):∀(n:Nat) (k:Nat) (s:List Int),s.length=b.A.length→b.F.length<n+k→k≤b.F.length→∃s',s'.length=b.A.length∧BX N b kj n (k:Int) s=kj s'
 |0,k,s,a,h,U=>by omega
 |n+1,k,s,a,h,U=>by
  have q3:=t.pl;have q4:=t.li;simp only[BX];rcases Aar k b.F.length with g|g
  ·rw[Ef g,zV,BM g];simp only[zU];have d:=J b.F[k] (Aap g);generalize b.F[k]=l at d
   have p:∀s:List Int,s.length=b.A.length→∃s',s'.length=b.A.length∧CU N (k:Int) (BX N b kj n) s=kj s':=λs a=>by
    unfold CU;rw[BK (show k<4611686018427387904 by omega)];exact lN o b t J kj n (k+1) s a (by omega) (by omega)
   obtain⟨x,u⟩:=Df.ix (l:=s) d.fr.1 (by rw[a];exact d.fr.2);have w:∀c:Bool,(c=true→l.G=1∨l.G=5∨l.G=3)→∃s',s'.length=b.A.length∧Db N s l (CU N (k:Int) (BX N b kj n)) c=kj s':=λc g=>by
    unfold Db;cases c
    ·rw[zX];by_cases y:l.G=4
     ·rw[show decide (l.G=4)=true by simp [y],zV];obtain⟨z,V,W,X,K,h6⟩:=d.seep y;obtain⟨v,q⟩:=NT o z.1 (show 0≤l.T by omega) (by omega);obtain⟨Y,j⟩:=NT o X.1 K.1 (show l.An≤_ by have:=K.2;omega);have C:=d.to;obtain⟨Z,m⟩:=Df.ix (l:=upd s l.D (A9 (x+A9 (2*v)))) (i:=l.B) (by omega) (by rw[LV,a];omega);simp only[u,q,m,j,zU];exact p _ (by rw[LV,LV,a])
     ·rw[show decide (l.G=4)=false by simp [y],zX];exact p s a
    ·rw[zV];obtain⟨z,V,W⟩:=d.part (g rfl);obtain⟨v,q⟩:=NT o z.1 (show 0≤l.T by omega) (by omega);simp only[u,q,zU];exact p _ (by rw[LV,a])
   by_cases k0:l.G=0
   ·rw[show decide (l.G=0)=true by simp [k0],zV];obtain⟨c1,c2,c3,c4,M⟩:=d.gate k0;obtain⟨v,q⟩:=bC o [l.Aw,l.Ag.Az,l.Ag.Ba] (by simp) (by simp [c1,c2,c3]);simp only[u,q,zU];by_cases Q:l.B= -1
    ·rw[show decide (l.B≠ -1)=false by simp [Q],zX];exact p _ (by rw[LV,a])
    ·rw[show decide (l.B≠ -1)=true by simp [Q],zV];have C:=d.to;obtain⟨Z,m⟩:=Df.ix (l:=upd s l.D (A9 (x+v))) (i:=l.B) (by omega) (by rw[LV,a];omega);obtain⟨Y,j⟩:=NT o c4.1 M.1 (show l.An≤_ by have:=M.2;omega);simp only[m,j,zU];exact p _ (by rw[LV,LV,a])
   ·rw[show decide (l.G=0)=false by simp [k0],zX];by_cases H:l.G=1
    ·rw[show decide (l.G=1)=true by simp [H],zV];exact w true λ_=> .inl H
    ·rw[show decide (l.G=1)=false by simp [H],zX];by_cases I:l.G=5
     ·rw[show decide (l.G=5)=true by simp [I],zV];exact w true λ_=> .inr (.inl I)
     ·rw[show decide (l.G=5)=false by simp [I],zX];exact w _ λh=> .inr (.inr (by simpa using h))
  ·rw[E5 g];exact⟨s,a,rfl⟩
def ZC {N:Nat}(m:18446744073709551616<N) (b:AE) (c:II b) (q:∀p∈b.A,H9 b p) (t:∀l∈b.F,J1 b l):Df (He N b):=by
 have G:=c.pl;have H:=c.li;unfold He;rw[show KR (b.A.length:Int) (b.A.length:Int) 8=true by simp [KR];omega];simp only[chk,zV];have u:∀(n:Nat) (k:Nat) (s:List Int),s.length=b.A.length→b.A.length<n+k→k≤b.A.length→∃s',s'.length=b.A.length∧Da N b (Dc N b) n (k:Int) s=Dc N b s':=by
  intro n
  induction n with
  |zero=>intro k s d J w;omega
  |succ n x=>
   intro k s d J w;simp only[Da];rcases Aar k b.A.length with a|a
   ·have g:=q b.A[k] (Aap a);obtain⟨v,y⟩:=NT m g.num.1 g.den.1 (by have:=g.den.2;omega);rw[Ef a,zV,BM a,BM (show k<s.length by omega)];simp only[zU,y,BK (show k<4611686018427387904 by omega)];exact x (k+1) _ (by rw[LV,d]) (by omega) (by omega)
   ·rw[E5 a];exact⟨s,d,rfl⟩
 obtain⟨o,z,B⟩:=u N 0 (List.replicate ((b.A.length:Int):Int).toNat 0) (by simp) (by omega) (Aad _);have i:Da N b (Dc N b) N 0 (List.replicate ((b.A.length:Int):Int).toNat 0)=_:=B;rw[i];unfold Dc;obtain⟨C,I,D⟩:=lN m b c t (Ci N) N 0 o z (by omega) (Aad _);have j:BX N b (Ci N) N 0 o=_:=D;rw[j];exact tZ (by omega) C (by omega)
end Go.Proofs.YtedgiljmffngoaaGreat
