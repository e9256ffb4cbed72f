import Derived.Test.YtblcgjadhemlbaaGreatWPureRight
namespace Go.Proofs.YtblcgjadhemlbaaGreat
set_option linter.all false
open Go.RowKit
structure HZ (b:AU) (p:Dm):Prop where
 lev:EU p.Bt
 num:Hu p.L
 den:Hu p.I
 down:p.Aq= -1∨(0≤p.Aq∧p.Aq<b.A.length)
 cap:Hu p.Ae
 delay:0≤p.N∧p.N≤240
def Tx {N:Nat}(p:Dm) (a:Int→Option Bool) (c:p.Bf.length≤16):∀(n:Nat) (s:Int) (k:Nat),p.Bf.length<n+k→k≤p.Bf.length→Dc N p a n s (k:Int)=some false∨∃s',Dc N p a n s (k:Int)=a s'
 |0,s,k,g,d=>by omega
 |n+1,s,k,g,d=>by
  simp only[Dc]
  rcases rL k p.Bf.length with b|b
  ·rw[En b,qO,BR b]
   simp only[qN,LV,BT (show k<4611686018427387904 by omega)]
   cases ST p.Bf[k]
   ·exact .inl rfl
   ·exact Tx (N:=N) p a c n _ (k+1) (by omega) (by omega)
  ·rw[E4 b];exact .inr ⟨s,rfl⟩
def V6 {N:Nat}(b:AU) (p:Dm) (a:Int) (c:Int→Option Bool) (i:0≤b.T∧b.T≤64):∀(n:Nat) (s:Int) (k:Nat), -1≤s→s≤64→65<n+s→k<100→(k:Int)≤s+1→Db N b p a c n s (k:Int)=some false∨Db N b p a c n s (k:Int)=c a
 |0,s,k,j,l,m,o,q=>by omega
 |n+1,s,k,j,l,m,o,q=>by
  simp only[Db]
  rcases rL k p.X.length with d|d
  ·rw[En d,qO,BR d]
   simp only[qN,LV,GC,Ke,BT (show k<4611686018427387904 by omega)]
   cases g:(decide ((p.X[k]).Bg≤s)||decide (b.T≤(p.X[k]).Bg)|| !ST (p.X[k]).Bp)
   ·simp only[rS,rO] at g
    obtain⟨⟨t,u⟩,v⟩:=g
    exact V6 (N:=N) b p a c i n _ (k+1) (by omega) (by omega) (by omega) (by omega) (by omega)
   ·exact .inl rfl
  ·rw[E4 d];exact .inr rfl
def Ry {N:Nat}(o:1000<N) (b:AU) (a:IB b):∀(n:Nat) (s:Int) (k:Nat),b.A.length<n+k→k≤b.A.length→∃v,CP N b (Ck N) n s (k:Int)=some v∧(v=true→∀(i:Nat) p,k≤i→b.A[i]? =some p→HZ b p)
 |0,s,k,Y,q=>by omega
 |n+1,s,k,Y,q=>by
  have Q:=a.pl
  simp only[CP]
  rcases rL k b.A.length with c|c
  ·rw[En c,qO,BR c]
   obtain⟨U,g,j⟩:=JW (N:=N) (by omega) (b.A[k]).Bt
   simp only[qN,ML,LV,Oq,g,Nf N b _ _ (show b.A.length<4611686018427387904 by omega),GC,Ke]
   generalize l:(_|| !Pd b.A.length (k:Int) (b.A[k]).Aq)=B
   cases B
   ·simp only[rS,rO,tP] at l
    obtain⟨⟨⟨⟨⟨⟨⟨⟨V,W⟩,t⟩,u⟩,X⟩,w⟩,x⟩,m⟩,y⟩:=l
    have z:(b.A[k]).Bf.length=b.J.length:=by
     have:((b.A[k]).Bf.length:Int)=(b.J.length:Int):=by simpa using x
     omega
    have C:HZ b b.A[k]:=⟨j w,(No m).1,(No m).2,Vu y,Kb u,KB t⟩
    simp only[qQ]
    rcases Tx (N:=N) b.A[k] (Eg N b b.A[k] (DD N (k:Int) (CP N b (Ck N) n))) (by have:=a.own;omega) N s 0 (by have:=a.own;omega) (qW _) with e|⟨s',e⟩
    ·exact⟨false,e,λY=>by cases Y⟩
    ·have D:Dc N b.A[k] (Eg N b b.A[k] (DD N (k:Int) (CP N b (Ck N) n))) N s 0=_:=e
     rw[D]
     unfold Eg
     rcases V6 (N:=N) b b.A[k] s' (DD N (k:Int) (CP N b (Ck N) n)) a.cells N (-1) 0 (by omega) (by omega) (by omega) (by omega) (by omega) with e|e
     ·exact⟨false,e,λY=>by cases Y⟩
     ·have F:Db N b b.A[k] s' (DD N (k:Int) (CP N b (Ck N) n)) N (-1) 0=_:=e
      rw[F]
      unfold DD
      rw[BT (show k<4611686018427387904 by omega)]
      obtain⟨v,G,H⟩:=Ry o b a n s' (k+1) (by omega) (by omega)
      refine⟨v,G,λI i p K d=>?_⟩
      by_cases M:i=k
      ·subst M
       have:p=b.A[i]:=by simpa [c] using d.symm
       rw[this];exact C
      ·exact H I i p (by omega) d
   ·exact⟨false,rfl,λY=>by cases Y⟩
  ·rw[E4 c]
   refine⟨_,rfl,λ_ i p K d=>?_⟩
   have:=(rB.1 d).1
   omega
def XH {N:Nat}(c:1000<N) (b:AU) (a:IB b):∃v,Hg N b=some v∧(v=true→∀p∈b.A,HZ b p):=by
 obtain⟨v,d,g⟩:=Ry c b a N 0 0 (by have:=a.pl;omega) (qW _)
 refine⟨v,d,λj p k=>?_⟩
 obtain⟨i,l,rfl⟩:=tQ.1 k
 exact g j i _ (qW _) (by simp [l])
structure IA (b:AU) (l:BL):Prop where
 kind:0≤l.B∧l.B≤5
 fr:0≤l.G∧l.G<b.A.length
 to:l.C= -1∨(0≤l.C∧l.C<b.A.length)
 delay:0≤l.N∧l.N≤240
 gate:l.B=0→EU l.Af∧EU l.Y.Ar∧EU l.Y.Aw∧Hu l.Ac∧Hu l.Aa
 part:l.B=1∨l.B=5∨l.B=3→Hu l.L∧1≤l.I∧l.I≤1125899906842624
 seep:l.B=4→Hu l.L∧1≤l.I∧l.I≤1125899906842624∧Hu l.Ac∧Hu l.Aa∧l.C≠ -1
def Xw {N:Nat}(d:18446744073709551616<N) (a b:List BS) (g:1≤a.length) (c:a.length≤32) (i:b.length≤32):Df (GZ N a b):=by
 unfold GZ
 rcases IZ b.length (GX N a b (Hx N)) (Hx N) (λ_=>True) (λn k l=>by
  simp only[GX];rw[E4 l];rfl) (λn k l=>by
  simp only[GX]
  obtain⟨v,j⟩:=QY d g c (b[k]).K
  rw[En l,qO,BR l]
  simp only[qN,j,BT (show k<4611686018427387904 by omega)]
  cases (decide ((b[k]).Q<v.1)||decide (v.1=(b[k]).Q)&&v.2)
  ·exact .inr ⟨trivial,rfl⟩
  ·exact .inl rfl) N 0 (by omega) (qW _) with l|⟨_,l⟩
 ·exact⟨_,l⟩
 ·exact⟨true,l⟩
def OZ {N:Nat}(d:18446744073709551616<N) (a b:List BS):Df (Gh N a b):=by
 unfold Gh
 obtain⟨s,i,j⟩:=JW (N:=N) (by omega) a
 obtain⟨t,l,m⟩:=JW (N:=N) (by omega) b
 simp only[i,l,qN,GC,Ke]
 refine Df.cond (λ_=>Df.mk _) λu=>?_
 simp only[rS,tP] at u
 obtain⟨o,p,_⟩:=j u.1
 obtain⟨q,g,_⟩:=m u.2
 rcases IZ a.length (GY N a b (GZ N a b)) (GZ N a b) (λ_=>True) (λn k u=>by
  simp only[GY];rw[E4 u];rfl) (λn k u=>by
  simp only[GY]
  obtain⟨v,c⟩:=QY d q g (a[k]).K
  rw[En u,qO,BR u]
  simp only[qN,c,BT (show k<4611686018427387904 by omega)]
  cases decide (v.1<(a[k]).Q)
  ·exact .inr ⟨trivial,rfl⟩
  ·exact .inl rfl) N 0 (by omega) (qW _) with u|⟨_,u⟩
 ·exact⟨_,u⟩
 ·obtain⟨v,c⟩:=Xw d a b o p g
  exact⟨v,u.trans c⟩
def SD {N:Nat}(m:18446744073709551616<N) (l:BL):∃v,Fk N l=some v∧(v=true→
  (l.B=0→EU l.Af∧EU l.Y.Ar∧EU l.Y.Aw∧Hu l.Ac∧Hu l.Aa)∧(l.B=1∨l.B=5∨l.B=3→Hu l.L∧1≤l.I∧l.I≤1125899906842624)∧
  (¬(l.B=0∨l.B=1∨l.B=5∨l.B=2∨l.B=3)→Hu l.L∧1≤l.I∧l.I≤1125899906842624∧Hu l.Ac∧Hu l.Aa∧l.C≠ -1)):=by
 obtain⟨v1,q,s⟩:=JW (N:=N) (by omega) l.Af
 obtain⟨F,t,u⟩:=JW (N:=N) (by omega) l.Y.Ar
 obtain⟨G,w,x⟩:=JW (N:=N) (by omega) l.Y.Aw
 obtain⟨H,y⟩:=OZ m l.Y.Ar l.Af
 obtain⟨J,z⟩:=OZ m l.Af l.Y.Aw
 unfold Fk
 by_cases k0:l.B=0
 ·rw[show decide (l.B=0)=true by simp [k0],qO]
  simp only[q,t,w,y,z,ML,LV,Oq,qN,GC,OJ]
  refine⟨_,rfl,λW=>?_⟩
  simp only[qT] at W
  obtain⟨⟨⟨⟨⟨⟨⟨⟨⟨d,a⟩,b⟩,i⟩,A⟩,K⟩,M⟩,Q⟩,n⟩,D⟩:=W
  exact⟨λ_=>⟨s d,u a,x b,(No n).1,(No n).2⟩,λW=>by omega,λW=>absurd (.inl k0) W⟩
 ·rw[show decide (l.B=0)=false by simp [k0],qQ]
  have o:∀c:Bool,(c=true↔l.B=1∨l.B=5)→∃v,EB N l c=some v∧(v=true→
    (l.B=0→EU l.Af∧EU l.Y.Ar∧EU l.Y.Aw∧Hu l.Ac∧Hu l.Aa)∧(l.B=1∨l.B=5∨l.B=3→Hu l.L∧1≤l.I∧l.I≤1125899906842624)∧
    (¬(l.B=0∨l.B=1∨l.B=5∨l.B=2∨l.B=3)→Hu l.L∧1≤l.I∧l.I≤1125899906842624∧Hu l.Ac∧Hu l.Aa∧l.C≠ -1)):=λc p=>by
   unfold EB
   simp only[ML,LV,Oq,qN,GC,OJ]
   cases c
   ·have U:¬(l.B=1∨l.B=5):=λW=>by have:=p.2 W;cases this
    rw[qQ]
    by_cases j:l.B=2
    ·rw[show decide (l.B=2)=true by simp [j],qO]
     exact⟨_,rfl,λ_=>⟨λW=>absurd W k0,λW=>by omega,λW=>absurd (.inr (.inr (.inr (.inl j)))) W⟩⟩
    ·rw[show decide (l.B=2)=false by simp [j],qQ]
     by_cases k:l.B=3
     ·rw[show decide (l.B=3)=true by simp [k],qO]
      refine⟨_,rfl,λW=>?_⟩
      simp only[qT] at W
      obtain⟨⟨⟨⟨d,a⟩,b⟩,i⟩,A⟩:=W
      exact⟨λW=>absurd W k0,λ_=>⟨Kb d,KB a⟩,λW=>absurd (.inr (.inr (.inr (.inr k)))) W⟩
     ·rw[show decide (l.B=3)=false by simp [k],qQ]
      refine⟨_,rfl,λW=>?_⟩
      simp only[qT,rJ] at W
      obtain⟨⟨⟨d,a⟩,b⟩,i⟩:=W
      exact⟨λW=>absurd W k0,λW=>by omega,λ_=>⟨Kb d,(KB a).1,(KB a).2,(No b).1,(No b).2,i⟩⟩
   ·have V:=p.1 rfl
    rw[qO]
    refine⟨_,rfl,λW=>?_⟩
    simp only[qT] at W
    obtain⟨⟨d,a⟩,b⟩:=W
    exact⟨λW=>absurd W k0,λ_=>⟨Kb a,KB b⟩,λW=>by omega⟩
  by_cases g:l.B=1
  ·rw[show decide (l.B=1)=true by simp [g],qO]
   exact o true (by simp [g])
  ·rw[show decide (l.B=1)=false by simp [g],qQ]
   exact o _ (by simp [g])
def Rm (N:Nat) (l:BL):Df (Fj N l):=by
 unfold Fj
 exact Df.cond (λ_=>Df.mk _) λ_=>Df.cond (λ_=>Df.mk _) λ_=>Df.cond (λ_=>Df.mk _) λ_=>Df.cond (λ_=>Df.mk _) λ_=>Df.cond (λ_=>Df.mk _) λ_=>Df.mk _
def Yg {N:Nat}(m:18446744073709551616<N) (b:AU) (c:IB b):∃v,EE N b=some v∧(v=true→∀l∈b.E,IA b l):=by
 have G:=c.pl
 have H:=c.li
 unfold EE
 rcases IZ b.E.length (Cf N b (DY N)) (DY N) (λi=>∀l,b.E[i]? =some l→IA b l) (λn k K=>by
  simp only[Cf];rw[E4 K];rfl) (λn k K=>by
  simp only[Cf]
  obtain⟨I,o,p⟩:=SD m b.E[k]
  obtain⟨q,s⟩:=Rm N b.E[k]
  rw[En K,qO,BR K]
  simp only[qN,ML,Om N _ (show b.A.length<4611686018427387904 by omega),Nf N b _ _ (show b.A.length<4611686018427387904 by omega),o,s,GC,Ke,BT (show k<4611686018427387904 by omega)]
  generalize d:(_|| !q)=B
  cases B
  ·simp only[rS,tP] at d
   obtain⟨⟨⟨⟨⟨t,u⟩,w⟩,g⟩,x⟩,J⟩:=d
   have y:=KB t
   have z:=KB u
   obtain⟨C,D,F⟩:=p x
   refine .inr ⟨λl a=>?_,rfl⟩
   have:l=b.E[k]:=by simpa [K] using a.symm
   rw[this]
   exact⟨y,⟨z.1,by omega⟩,Vu w,KB g,C,D,λg=>F (by omega)⟩
  ·exact .inl rfl) N 0 (by omega) (qW _) with K|⟨hp,K⟩
 ·exact⟨false,K,λK=>by cases K⟩
 ·refine⟨true,K,λ_ l a=>?_⟩
  obtain⟨i,j,rfl⟩:=tQ.1 a
  exact hp i (qW _) j _ (by simp [j])
def WD (N:Nat) (b:AU) (o to:Int) (c:to= -1∨(0≤to∧to<b.A.length)):Df (Jf N b o to):=by
 unfold Jf
 refine Df.cond (λ_=>Df.mk _) λa=>?_
 simp only[rO] at a
 exact Df.bind (Df.ix (by omega) (by omega)) λ_ _=>Df.mk _
def VJ {N:Nat}(w:1000<N) (b:AU) (m:IB b) (o:∀p∈b.A,HZ b p) (q:∀l∈b.E,IA b l):Df (HK N b):=by
 have y:=m.pl
 have D:=m.li
 have s:Df (Dx N b):=by
  unfold Dx
  rcases IZ b.E.length (Dv N b (E9 N)) (E9 N) (λ_=>True) (λn k F=>by
   simp only[Dv];rw[E4 F];rfl) (λn k F=>by
   simp only[Dv]
   have a:=q b.E[k] (rH F)
   obtain⟨x,t⟩:=Df.ix (l:=b.A) a.fr.1 a.fr.2
   obtain⟨v,c⟩:=WD N b x.As (b.E[k]).C a.to
   rw[En F,qO,BR F]
   simp only[qN,t,c,BT (show k<4611686018427387904 by omega)]
   have i:∃z,(cond (!v) (some true) ((cond (decide ((b.E[k]).B=4)) ((ix b.A (b.E[k]).C).bind λd=>some (decide (d.As≠x.As))) (some false)).bind λg=>some g))=some z:=by
    refine Df.cond (λ_=>Df.mk _) λ_=>Df.bind (Df.cond (λu=>?_) λ_=>Df.mk _) λ_ _=>Df.mk _
    have j:(b.E[k]).B=4:=by simpa using u
    have:=(a.seep j).2.2.2.2.2
    have:=a.to
    exact Df.bind (Df.ix (by omega) (by omega)) λ_ _=>Df.mk _
   obtain⟨z,i⟩:=i
   rw[i]
   simp only[qN]
   cases z
   ·exact .inr ⟨trivial,rfl⟩
   ·exact .inl rfl) N 0 (by omega) (qW _) with F|⟨_,F⟩
  ·exact⟨_,F⟩
  ·exact⟨true,F⟩
 unfold HK
 rcases IZ b.A.length (Dw N b (Dx N b)) (Dx N b) (λ_=>True) (λn k F=>by
   simp only[Dw];rw[E4 F];rfl) (λn k F=>by
   simp only[Dw]
   have a:=o b.A[k] (rH F)
   obtain⟨v,c⟩:=WD N b (b.A[k]).As (b.A[k]).Aq a.down
   rw[En F,qO,BR F]
   simp only[qN,c,BT (show k<4611686018427387904 by omega)]
   cases v
   ·exact .inl rfl
   ·exact .inr ⟨trivial,rfl⟩) N 0 (by omega) (qW _) with F|⟨_,F⟩
 ·exact⟨_,F⟩
 ·obtain⟨v,c⟩:=s
  exact⟨v,F.trans c⟩
def Tw {N:Nat}(g:18446744073709551616<N) (c:List BS) (i:EU c) (b:Int→Option Int):∀(n:Nat) (s:Int) (k:Nat),c.length<n+k→1≤k→k≤c.length→∃s',Cr N c b n s (k:Int)=b s'
 |0,s,k,B,j,l=>by omega
 |n+1,s,k,B,j,l=>by
  obtain⟨m,o,d⟩:=i
  simp only[Cr]
  rcases rL k c.length with a|a
  ·have p:Bw ((k:Int)-1)=((k-1:Nat):Int):=by rw[Cx (by omega) (by omega)];omega
   rw[En a,qO,p,BR a,BR (show k-1<c.length by omega)]
   simp only[qN,BT (show k<4611686018427387904 by omega)]
   obtain⟨q,t,u⟩:=d k c[k] (by simp [a])
   obtain⟨w,x,_⟩:=d (k-1) c[k-1] (by simp [show k-1<c.length by omega])
   obtain⟨z,A⟩:=u c[k-1] (by omega) (by simp [show k-1<c.length by omega])
   unfold Hu at q t w x
   obtain⟨v,y⟩:=MG g (num:=Bw ((c[k]).Q-(c[k-1]).Q)) (den:=Bw ((c[k]).K-(c[k-1]).K)) (by rw[Cx (by omega) (by omega)];omega) (by rw[Cx (by omega) (by omega)];omega) (by rw[Cx (by omega) (by omega)];omega)
   rw[y]
   exact Tw g c ⟨m,o,d⟩ b n _ (k+1) (by omega) (by omega) (by omega)
  ·rw[E4 a];exact⟨s,rfl⟩
def YB {N:Nat}(d:18446744073709551616<N) (cs:List (List BS)) (m:cs.length≤3) (g:∀c∈cs,EU c):Df (Fa N cs):=by
 unfold Fa
 have:∀(n:Nat) (s:Int) (k:Nat),cs.length<n+k→k≤cs.length→Df (CU N cs (Cs N) n s (k:Int)):=by
  intro n
  induction n with
  |zero=>intro s k o i;omega
  |succ n j=>
   intro s k o i
   simp only[CU]
   rcases rL k cs.length with a|a
   ·rw[En a,qO,BR a]
    simp only[qN]
    have b:=g cs[k] (rH a)
    obtain⟨s',e⟩:=Tw d cs[k] b (DG N (k:Int) (CU N cs (Cs N) n)) N s 1 (by have:=b.2.1;omega) (by omega) b.1
    have l:Cr N cs[k] (DG N (k:Int) (CU N cs (Cs N) n)) N s 1=_:=e
    rw[l]
    unfold DG
    rw[BT (show k<4611686018427387904 by omega)]
    exact j s' (k+1) (by omega) (by omega)
   ·rw[E4 a];exact Df.mk _
 exact this N 0 0 (by omega) (qW _)
def Ki {α}(l:List α) (i:Int) (x:α):(upd l i x).length=l.length:=by simp [upd]
def jY {N:Nat}(a:1000<N) (l:List Int) (b:l.length≤64):Df (CO N l):=by
 unfold CO
 rcases IZ l.length (C0 N l (Da N)) (Da N) (λ_=>True) (λn k c=>by
  simp only[C0];rw[E4 c];rfl) (λn k c=>by
  simp only[C0]
  rw[En c,qO,BR c]
  simp only[qN,BT (show k<4611686018427387904 by omega)]
  cases decide (1099511627776<l[k])
  ·exact .inr ⟨trivial,rfl⟩
  ·exact .inl rfl) N 0 (by omega) (qW _) with c|⟨_,c⟩
 ·exact⟨_,c⟩
 ·exact⟨true,c⟩
def cZ {N:Nat}(p:18446744073709551616<N) (b:AU) (u:IB b) (K:∀l∈b.E,IA b l) (g:List Int→Option Bool):∀(n:Nat) (k:Nat) (s:List Int),s.length=b.A.length→b.E.length<n+k→k≤b.E.length→∃s',s'.length=b.A.length∧BW N b g n (k:Int) s=g s'
 |0,k,s,a,h,V=>by omega
 |n+1,k,s,a,h,V=>by
  have q3:=u.pl
  have q4:=u.li
  simp only[BW]
  rcases rL k b.E.length with j|j
  ·rw[En j,qO,BR j]
   simp only[qN]
   have d:=K b.E[k] (rH j)
   generalize b.E[k]=l at d
   have q:∀s:List Int,s.length=b.A.length→∃s',s'.length=b.A.length∧CN N (k:Int) (BW N b g n) s=g s':=λs a=>by
    unfold CN
    rw[BT (show k<4611686018427387904 by omega)]
    exact cZ p b u K g n (k+1) s a (by omega) (by omega)
   obtain⟨x,w⟩:=Df.ix (l:=s) d.fr.1 (by rw[a];exact d.fr.2)
   have y:∀c:Bool,(c=true→l.B=1∨l.B=5∨l.B=3)→∃s',s'.length=b.A.length∧DP N s l (CN N (k:Int) (BW N b g n)) c=g s':=λc j=>by
    unfold DP
    cases c
    ·rw[qQ]
     by_cases z:l.B=4
     ·rw[show decide (l.B=4)=true by simp [z],qO]
      obtain⟨D,W,X,Z,M,h6⟩:=d.seep z
      obtain⟨v,t⟩:=MG p D.1 (show 0≤l.I by omega) (by omega)
      obtain⟨v2,m⟩:=MG p Z.1 M.1 (show l.Aa≤_ by have:=M.2;omega)
      have F:=d.to
      obtain⟨x2,o⟩:=Df.ix (l:=upd s l.G (Bw (x+Bw (2*v)))) (i:=l.C) (by omega) (by rw[Ki,a];omega)
      simp only[w,t,o,m,qN]
      exact q _ (by rw[Ki,Ki,a])
     ·rw[show decide (l.B=4)=false by simp [z],qQ]
      exact q s a
    ·rw[qO]
     obtain⟨D,W,X⟩:=d.part (j rfl)
     obtain⟨v,t⟩:=MG p D.1 (show 0≤l.I by omega) (by omega)
     simp only[w,t,qN]
     exact q _ (by rw[Ki,a])
   by_cases k0:l.B=0
   ·rw[show decide (l.B=0)=true by simp [k0],qO]
    obtain⟨c1,c2,c3,c4,Q⟩:=d.gate k0
    obtain⟨v,t⟩:=YB p [l.Af,l.Y.Ar,l.Y.Aw] (by simp) (by simp [c1,c2,c3])
    simp only[w,t,qN]
    by_cases U:l.C= -1
    ·rw[show decide (l.C≠ -1)=false by simp [U],qQ]
     exact q _ (by rw[Ki,a])
    ·rw[show decide (l.C≠ -1)=true by simp [U],qO]
     have F:=d.to
     obtain⟨x2,o⟩:=Df.ix (l:=upd s l.G (Bw (x+v))) (i:=l.C) (by omega) (by rw[Ki,a];omega)
     obtain⟨v2,m⟩:=MG p c4.1 Q.1 (show l.Aa≤_ by have:=Q.2;omega)
     simp only[o,m,qN]
     exact q _ (by rw[Ki,Ki,a])
   ·rw[show decide (l.B=0)=false by simp [k0],qQ]
    by_cases H:l.B=1
    ·rw[show decide (l.B=1)=true by simp [H],qO]
     exact y true λ_=> .inl H
    ·rw[show decide (l.B=1)=false by simp [H],qQ]
     by_cases J:l.B=5
     ·rw[show decide (l.B=5)=true by simp [J],qO]
      exact y true λ_=> .inr (.inl J)
     ·rw[show decide (l.B=5)=false by simp [J],qQ]
      exact y _ λh=> .inr (.inr (by simpa using h))
  ·rw[E4 j];exact⟨s,a,rfl⟩
def W7 {N:Nat}(m:18446744073709551616<N) (b:AU) (c:IB b) (q:∀p∈b.A,HZ b p) (t:∀l∈b.E,IA b l):Df (Ev N b):=by
 have F:=c.pl
 have G:=c.li
 unfold Ev
 rw[show Jk (b.A.length:Int) (b.A.length:Int) 8=true by simp [Jk];omega]
 simp only[chk,qO]
 have u:∀(n:Nat) (k:Nat) (s:List Int),s.length=b.A.length→b.A.length<n+k→k≤b.A.length→∃s',s'.length=b.A.length∧C1 N b (Cj N b) n (k:Int) s=Cj N b s':=by
  intro n
  induction n with
  |zero=>intro k s d I w;omega
  |succ n x=>
   intro k s d I w
   simp only[C1]
   rcases rL k b.A.length with a|a
   ·have g:=q b.A[k] (rH a)
    obtain⟨v,y⟩:=MG m g.num.1 g.den.1 (by have:=g.den.2;omega)
    rw[En a,qO,BR a,BR (show k<s.length by omega)]
    simp only[qN,y,BT (show k<4611686018427387904 by omega)]
    exact x (k+1) _ (by rw[Ki,d]) (by omega) (by omega)
   ·rw[E4 a];exact⟨s,d,rfl⟩
 obtain⟨o,z,B⟩:=u N 0 (List.replicate ((b.A.length:Int):Int).toNat 0) (by simp) (by omega) (qW _)
 have i:C1 N b (Cj N b) N 0 (List.replicate ((b.A.length:Int):Int).toNat 0)=_:=B
 rw[i]
 unfold Cj
 obtain⟨C,H,D⟩:=cZ m b c t (CO N) N 0 o z (by omega) (qW _)
 have j:BW N b (CO N) N 0 o=_:=D
 rw[j]
 exact jY (by omega) C (by omega)
end Go.Proofs.YtblcgjadhemlbaaGreat
