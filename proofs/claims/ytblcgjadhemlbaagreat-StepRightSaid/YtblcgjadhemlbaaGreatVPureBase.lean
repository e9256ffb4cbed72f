import Derived.Test.YtblcgjadhemlbaaGreatVPureRight
namespace Go.Proofs.YtblcgjadhemlbaaGreat
set_option linter.all false
open Go.RowKit
structure HR (b:AU) (p:D1):Prop where
 lev:Hp p.Bt
 num:Ia p.S
 den:Ia p.L
 down:p.Ak= -1∨(0≤p.Ak∧p.Ak<b.A.length)
 cap:Ia p.Aj
 delay:0≤p.K∧p.K≤240
def TG {N:Nat}(p:D1) (a:Int→Option Bool) (c:p.As.length≤16):∀(n:Nat) (s:Int) (k:Nat),p.As.length<n+k→k≤p.As.length→C0 N p a n s (k:Int)=some false∨∃s',C0 N p a n s (k:Int)=a s'
 |0,s,k,g,d=>by omega
 |n+1,s,k,g,d=>by
  simp only[C0]
  rcases nT k p.As.length with b|b
  ·rw[Ev b,mW,BS b]
   simp only[mV,Kk,BX (show k<4611686018427387904 by omega)]
   cases Qj p.As[k]
   ·exact .inl rfl
   ·exact TG (N:=N) p a c n _ (k+1) (by omega) (by omega)
  ·rw[E7 b];exact .inr ⟨s,rfl⟩
def U2 {N:Nat}(b:AU) (p:D1) (a:Int) (c:Int→Option Bool) (i:0≤b.R∧b.R≤64):∀(n:Nat) (s:Int) (k:Nat), -1≤s→s≤64→65<n+s→k<100→(k:Int)≤s+1→Cz N b p a c n s (k:Int)=some false∨Cz N b p a c n s (k:Int)=c a
 |0,s,k,j,l,m,o,q=>by omega
 |n+1,s,k,j,l,m,o,q=>by
  simp only[Cz]
  rcases nT k p.Aa.length with d|d
  ·rw[Ev d,mW,BS d]
   simp only[mV,Kk,Fl,KG,BX (show k<4611686018427387904 by omega)]
   cases g:(decide ((p.Aa[k]).Bg≤s)||decide (b.R≤(p.Aa[k]).Bg)|| !Qj (p.Aa[k]).Bp)
   ·simp only[nZ,nV] at g
    obtain⟨⟨t,u⟩,v⟩:=g
    exact U2 (N:=N) b p a c i n _ (k+1) (by omega) (by omega) (by omega) (by omega) (by omega)
   ·exact .inl rfl
  ·rw[E7 d];exact .inr rfl
def RI {N:Nat}(o:1000<N) (b:AU) (a:HD b):∀(n:Nat) (s:Int) (k:Nat),b.A.length<n+k→k≤b.A.length→∃v,B8 N b (CI N) n s (k:Int)=some v∧(v=true→∀(i:Nat) p,k≤i→b.A[i]? =some p→HR b p)
 |0,s,k,Y,q=>by omega
 |n+1,s,k,Y,q=>by
  have Q:=a.pl
  simp only[B8]
  rcases nT k b.A.length with c|c
  ·rw[Ev c,mW,BS c]
   obtain⟨U,g,j⟩:=JD (N:=N) (by omega) (b.A[k]).Bt
   simp only[mV,Lw,Kk,OK,g,Ok N b _ _ (show b.A.length<4611686018427387904 by omega),Fl,KG]
   generalize l:(_|| !S7 b.A.length (k:Int) (b.A[k]).Ak)=B
   cases B
   ·simp only[nZ,nV,qD] at l
    obtain⟨⟨⟨⟨⟨⟨⟨⟨V,W⟩,t⟩,u⟩,X⟩,w⟩,x⟩,m⟩,y⟩:=l
    have z:(b.A[k]).As.length=b.H.length:=by
     have:((b.A[k]).As.length:Int)=(b.H.length:Int):=by simpa using x
     omega
    have C:HR b b.A[k]:=⟨j w,(NK m).1,(NK m).2,Uv y,Jn u,Jl t⟩
    simp only[mX]
    rcases TG (N:=N) b.A[k] (ES N b b.A[k] (Ck N (k:Int) (B8 N b (CI N) n))) (by have:=a.own;omega) N s 0 (by have:=a.own;omega) (nE _) with e|⟨s',e⟩
    ·exact⟨false,e,λY=>by cases Y⟩
    ·have D:C0 N b.A[k] (ES N b b.A[k] (Ck N (k:Int) (B8 N b (CI N) n))) N s 0=_:=e
     rw[D]
     unfold ES
     rcases U2 (N:=N) b b.A[k] s' (Ck N (k:Int) (B8 N b (CI N) n)) a.cells N (-1) 0 (by omega) (by omega) (by omega) (by omega) (by omega) with e|e
     ·exact⟨false,e,λY=>by cases Y⟩
     ·have F:Cz N b b.A[k] s' (Ck N (k:Int) (B8 N b (CI N) n)) N (-1) 0=_:=e
      rw[F]
      unfold Ck
      rw[BX (show k<4611686018427387904 by omega)]
      obtain⟨v,G,I⟩:=RI o b a n s' (k+1) (by omega) (by omega)
      refine⟨v,G,λJ i p K d=>?_⟩
      by_cases M:i=k
      ·subst M
       have:p=b.A[i]:=by simpa [c] using d.symm
       rw[this];exact C
      ·exact I J i p (by omega) d
   ·exact⟨false,rfl,λY=>by cases Y⟩
  ·rw[E7 c]
   refine⟨_,rfl,λ_ i p K d=>?_⟩
   have:=(nK.1 d).1
   omega
def V7 {N:Nat}(c:1000<N) (b:AU) (a:HD b):∃v,FV N b=some v∧(v=true→∀p∈b.A,HR b p):=by
 obtain⟨v,d,g⟩:=RI c b a N 0 0 (by have:=a.pl;omega) (nE _)
 refine⟨v,d,λj p k=>?_⟩
 obtain⟨i,l,rfl⟩:=qE.1 k
 exact g j i _ (nE _) (by simp [l])
structure JO (b:AU) (l:BQ):Prop where
 kind:0≤l.C∧l.C≤5
 fr:0≤l.I∧l.I<b.A.length
 to:l.D= -1∨(0≤l.D∧l.D<b.A.length)
 delay:0≤l.K∧l.K≤240
 gate:l.C=0→Hp l.Ba∧Hp l.Af.Bb∧Hp l.Af.Bc∧Ia l.Ac∧Ia l.Ab
 part:l.C=1∨l.C=5∨l.C=3→Ia l.S∧1≤l.L∧l.L≤1125899906842624
 seep:l.C=4→Ia l.S∧1≤l.L∧l.L≤1125899906842624∧Ia l.Ac∧Ia l.Ab∧l.D≠ -1
def We {N:Nat}(d:18446744073709551616<N) (a b:List B4) (g:1≤a.length) (c:a.length≤32) (i:b.length≤32):Df (GG N a b):=by
 unfold GG
 rcases Ic b.length (GE N a b (Hb N)) (Hb N) (λ_=>True) (λn k l=>by
  simp only[GE];rw[E7 l];rfl) (λn k l=>by
  simp only[GE]
  obtain⟨v,j⟩:=Ps d g c (b[k]).N
  rw[Ev l,mW,BS l]
  simp only[mV,j,BX (show k<4611686018427387904 by omega)]
  cases (decide ((b[k]).Y<v.1)||decide (v.1=(b[k]).Y)&&v.2)
  ·exact .inr ⟨trivial,rfl⟩
  ·exact .inl rfl) N 0 (by omega) (nE _) with l|⟨_,l⟩
 ·exact⟨_,l⟩
 ·exact⟨true,l⟩
def N5 {N:Nat}(d:18446744073709551616<N) (a b:List B4):Df (HX N a b):=by
 unfold HX
 obtain⟨s,i,j⟩:=JD (N:=N) (by omega) a
 obtain⟨t,l,m⟩:=JD (N:=N) (by omega) b
 simp only[i,l,mV,Fl,KG]
 refine Df.cond (λ_=>Df.mk _) λu=>?_
 simp only[nZ,qD] at u
 obtain⟨o,p,_⟩:=j u.1
 obtain⟨q,g,_⟩:=m u.2
 rcases Ic a.length (GF N a b (GG N a b)) (GG N a b) (λ_=>True) (λn k u=>by
  simp only[GF];rw[E7 u];rfl) (λn k u=>by
  simp only[GF]
  obtain⟨v,c⟩:=Ps d q g (a[k]).N
  rw[Ev u,mW,BS u]
  simp only[mV,c,BX (show k<4611686018427387904 by omega)]
  cases decide (v.1<(a[k]).Y)
  ·exact .inr ⟨trivial,rfl⟩
  ·exact .inl rfl) N 0 (by omega) (nE _) with u|⟨_,u⟩
 ·exact⟨_,u⟩
 ·obtain⟨v,c⟩:=We d a b o p g
  exact⟨v,u.trans c⟩
def RU {N:Nat}(m:18446744073709551616<N) (l:BQ):∃v,FW N l=some v∧(v=true→
  (l.C=0→Hp l.Ba∧Hp l.Af.Bb∧Hp l.Af.Bc∧Ia l.Ac∧Ia l.Ab)∧(l.C=1∨l.C=5∨l.C=3→Ia l.S∧1≤l.L∧l.L≤1125899906842624)∧
  (¬(l.C=0∨l.C=1∨l.C=5∨l.C=2∨l.C=3)→Ia l.S∧1≤l.L∧l.L≤1125899906842624∧Ia l.Ac∧Ia l.Ab∧l.D≠ -1)):=by
 obtain⟨v1,q,s⟩:=JD (N:=N) (by omega) l.Ba
 obtain⟨F,t,u⟩:=JD (N:=N) (by omega) l.Af.Bb
 obtain⟨G,w,x⟩:=JD (N:=N) (by omega) l.Af.Bc
 obtain⟨H,y⟩:=N5 m l.Af.Bb l.Ba
 obtain⟨I,z⟩:=N5 m l.Ba l.Af.Bc
 unfold FW
 by_cases k0:l.C=0
 ·rw[show decide (l.C=0)=true by simp [k0],mW]
  simp only[q,t,w,y,z,Lw,Kk,OK,mV,Fl,Nt]
  refine⟨_,rfl,λV=>?_⟩
  simp only[mY] at V
  obtain⟨⟨⟨⟨⟨⟨⟨⟨⟨d,a⟩,b⟩,i⟩,A⟩,J⟩,K⟩,M⟩,n⟩,B⟩:=V
  exact⟨λ_=>⟨s d,u a,x b,(NK n).1,(NK n).2⟩,λV=>by omega,λV=>absurd (.inl k0) V⟩
 ·rw[show decide (l.C=0)=false by simp [k0],mX]
  have o:∀c:Bool,(c=true↔l.C=1∨l.C=5)→∃v,D0 N l c=some v∧(v=true→
    (l.C=0→Hp l.Ba∧Hp l.Af.Bb∧Hp l.Af.Bc∧Ia l.Ac∧Ia l.Ab)∧(l.C=1∨l.C=5∨l.C=3→Ia l.S∧1≤l.L∧l.L≤1125899906842624)∧
    (¬(l.C=0∨l.C=1∨l.C=5∨l.C=2∨l.C=3)→Ia l.S∧1≤l.L∧l.L≤1125899906842624∧Ia l.Ac∧Ia l.Ab∧l.D≠ -1)):=λc p=>by
   unfold D0
   simp only[Lw,Kk,OK,mV,Fl,Nt]
   cases c
   ·have Q:¬(l.C=1∨l.C=5):=λV=>by have:=p.2 V;cases this
    rw[mX]
    by_cases j:l.C=2
    ·rw[show decide (l.C=2)=true by simp [j],mW]
     exact⟨_,rfl,λ_=>⟨λV=>absurd V k0,λV=>by omega,λV=>absurd (.inr (.inr (.inr (.inl j)))) V⟩⟩
    ·rw[show decide (l.C=2)=false by simp [j],mX]
     by_cases k:l.C=3
     ·rw[show decide (l.C=3)=true by simp [k],mW]
      refine⟨_,rfl,λV=>?_⟩
      simp only[mY] at V
      obtain⟨⟨⟨⟨d,a⟩,b⟩,i⟩,A⟩:=V
      exact⟨λV=>absurd V k0,λ_=>⟨Jn d,Jl a⟩,λV=>absurd (.inr (.inr (.inr (.inr k)))) V⟩
     ·rw[show decide (l.C=3)=false by simp [k],mX]
      refine⟨_,rfl,λV=>?_⟩
      simp only[mY,nR] at V
      obtain⟨⟨⟨d,a⟩,b⟩,i⟩:=V
      exact⟨λV=>absurd V k0,λV=>by omega,λ_=>⟨Jn d,(Jl a).1,(Jl a).2,(NK b).1,(NK b).2,i⟩⟩
   ·have U:=p.1 rfl
    rw[mW]
    refine⟨_,rfl,λV=>?_⟩
    simp only[mY] at V
    obtain⟨⟨d,a⟩,b⟩:=V
    exact⟨λV=>absurd V k0,λ_=>⟨Jn a,Jl b⟩,λV=>by omega⟩
  by_cases g:l.C=1
  ·rw[show decide (l.C=1)=true by simp [g],mW]
   exact o true (by simp [g])
  ·rw[show decide (l.C=1)=false by simp [g],mX]
   exact o _ (by simp [g])
def Q7 (N:Nat) (l:BQ):Df (FU N l):=by
 unfold FU
 exact Df.cond (λ_=>Df.mk _) λ_=>Df.cond (λ_=>Df.mk _) λ_=>Df.cond (λ_=>Df.mk _) λ_=>Df.cond (λ_=>Df.mk _) λ_=>Df.cond (λ_=>Df.mk _) λ_=>Df.mk _
def XP {N:Nat}(m:18446744073709551616<N) (b:AU) (c:HD b):∃v,E3 N b=some v∧(v=true→∀l∈b.E,JO b l):=by
 have G:=c.pl
 have H:=c.li
 unfold E3
 rcases Ic b.E.length (Cu N b (Dc N)) (Dc N) (λi=>∀l,b.E[i]? =some l→JO b l) (λn k K=>by
  simp only[Cu];rw[E7 K];rfl) (λn k K=>by
  simp only[Cu]
  obtain⟨I,o,p⟩:=RU m b.E[k]
  obtain⟨q,s⟩:=Q7 N b.E[k]
  rw[Ev K,mW,BS K]
  simp only[mV,Lw,OI N _ (show b.A.length<4611686018427387904 by omega),Ok N b _ _ (show b.A.length<4611686018427387904 by omega),o,s,Fl,KG,BX (show k<4611686018427387904 by omega)]
  generalize d:(_|| !q)=B
  cases B
  ·simp only[nZ,qD] at d
   obtain⟨⟨⟨⟨⟨t,u⟩,w⟩,g⟩,x⟩,J⟩:=d
   have y:=Jl t
   have z:=Jl u
   obtain⟨C,D,F⟩:=p x
   refine .inr ⟨λl a=>?_,rfl⟩
   have:l=b.E[k]:=by simpa [K] using a.symm
   rw[this]
   exact⟨y,⟨z.1,by omega⟩,Uv w,Jl g,C,D,λg=>F (by omega)⟩
  ·exact .inl rfl) N 0 (by omega) (nE _) with K|⟨hp,K⟩
 ·exact⟨false,K,λK=>by cases K⟩
 ·refine⟨true,K,λ_ l a=>?_⟩
  obtain⟨i,j,rfl⟩:=qE.1 a
  exact hp i (nE _) j _ (by simp [j])
def U8 (N:Nat) (b:AU) (o to:Int) (c:to= -1∨(0≤to∧to<b.A.length)):Df (JJ N b o to):=by
 unfold JJ
 refine Df.cond (λ_=>Df.mk _) λa=>?_
 simp only[nV] at a
 exact Df.bind (Df.ix (by omega) (by omega)) λ_ _=>Df.mk _
def US {N:Nat}(w:1000<N) (b:AU) (m:HD b) (o:∀p∈b.A,HR b p) (q:∀l∈b.E,JO b l):Df (G1 N b):=by
 have y:=m.pl
 have B:=m.li
 have s:Df (Dg N b):=by
  unfold Dg
  rcases Ic b.E.length (Dd N b (Et N)) (Et N) (λ_=>True) (λn k F=>by
   simp only[Dd];rw[E7 F];rfl) (λn k F=>by
   simp only[Dd]
   have a:=q b.E[k] (nP F)
   obtain⟨x,t⟩:=Df.ix (l:=b.A) a.fr.1 a.fr.2
   obtain⟨v,c⟩:=U8 N b x.An (b.E[k]).D a.to
   rw[Ev F,mW,BS F]
   simp only[mV,t,c,BX (show k<4611686018427387904 by omega)]
   have i:∃z,(cond (!v) (some true) ((cond (decide ((b.E[k]).C=4)) ((ix b.A (b.E[k]).D).bind λd=>some (decide (d.An≠x.An))) (some false)).bind λg=>some g))=some z:=by
    refine Df.cond (λ_=>Df.mk _) λ_=>Df.bind (Df.cond (λu=>?_) λ_=>Df.mk _) λ_ _=>Df.mk _
    have j:(b.E[k]).C=4:=by simpa using u
    have:=(a.seep j).2.2.2.2.2
    have:=a.to
    exact Df.bind (Df.ix (by omega) (by omega)) λ_ _=>Df.mk _
   obtain⟨z,i⟩:=i
   rw[i]
   simp only[mV]
   cases z
   ·exact .inr ⟨trivial,rfl⟩
   ·exact .inl rfl) N 0 (by omega) (nE _) with F|⟨_,F⟩
  ·exact⟨_,F⟩
  ·exact⟨true,F⟩
 unfold G1
 rcases Ic b.A.length (De N b (Dg N b)) (Dg N b) (λ_=>True) (λn k F=>by
   simp only[De];rw[E7 F];rfl) (λn k F=>by
   simp only[De]
   have a:=o b.A[k] (nP F)
   obtain⟨v,c⟩:=U8 N b (b.A[k]).An (b.A[k]).Ak a.down
   rw[Ev F,mW,BS F]
   simp only[mV,c,BX (show k<4611686018427387904 by omega)]
   cases v
   ·exact .inl rfl
   ·exact .inr ⟨trivial,rfl⟩) N 0 (by omega) (nE _) with F|⟨_,F⟩
 ·exact⟨_,F⟩
 ·obtain⟨v,c⟩:=s
  exact⟨v,F.trans c⟩
def TE {N:Nat}(g:18446744073709551616<N) (c:List B4) (i:Hp c) (b:Int→Option Int):∀(n:Nat) (s:Int) (k:Nat),c.length<n+k→1≤k→k≤c.length→∃s',Ef N c b n s (k:Int)=b s'
 |0,s,k,B,j,l=>by omega
 |n+1,s,k,B,j,l=>by
  obtain⟨m,o,d⟩:=i
  simp only[Ef]
  rcases nT k c.length with a|a
  ·have p:B0 ((k:Int)-1)=((k-1:Nat):Int):=by rw[DG (by omega) (by omega)];omega
   rw[Ev a,mW,p,BS a,BS (show k-1<c.length by omega)]
   simp only[mV,BX (show k<4611686018427387904 by omega)]
   obtain⟨q,t,u⟩:=d k c[k] (by simp [a])
   obtain⟨w,x,_⟩:=d (k-1) c[k-1] (by simp [show k-1<c.length by omega])
   obtain⟨z,A⟩:=u c[k-1] (by omega) (by simp [show k-1<c.length by omega])
   unfold Ia at q t w x
   obtain⟨v,y⟩:=Ls g (num:=B0 ((c[k]).Y-(c[k-1]).Y)) (den:=B0 ((c[k]).N-(c[k-1]).N)) (by rw[DG (by omega) (by omega)];omega) (by rw[DG (by omega) (by omega)];omega) (by rw[DG (by omega) (by omega)];omega)
   rw[y]
   exact TE g c ⟨m,o,d⟩ b n _ (k+1) (by omega) (by omega) (by omega)
  ·rw[E7 a];exact⟨s,rfl⟩
def Wv {N:Nat}(d:18446744073709551616<N) (cs:List (List B4)) (m:cs.length≤3) (g:∀c∈cs,Hp c):Df (IY N cs):=by
 unfold IY
 have:∀(n:Nat) (s:Int) (k:Nat),cs.length<n+k→k≤cs.length→Df (DH N cs (EE N) n s (k:Int)):=by
  intro n
  induction n with
  |zero=>intro s k o i;omega
  |succ n j=>
   intro s k o i
   simp only[DH]
   rcases nT k cs.length with a|a
   ·rw[Ev a,mW,BS a]
    simp only[mV]
    have b:=g cs[k] (nP a)
    obtain⟨s',e⟩:=TE d cs[k] b (FT N (k:Int) (DH N cs (EE N) n)) N s 1 (by have:=b.2.1;omega) (by omega) b.1
    have l:Ef N cs[k] (FT N (k:Int) (DH N cs (EE N) n)) N s 1=_:=e
    rw[l]
    unfold FT
    rw[BX (show k<4611686018427387904 by omega)]
    exact j s' (k+1) (by omega) (by omega)
   ·rw[E7 a];exact Df.mk _
 exact this N 0 0 (by omega) (nE _)
def KL {α}(l:List α) (i:Int) (x:α):(upd l i x).length=l.length:=by simp [upd]
def fF {N:Nat}(a:1000<N) (l:List Int) (b:l.length≤64):Df (Cy N l):=by
 unfold Cy
 rcases Ic l.length (Dv N l (FJ N)) (FJ N) (λ_=>True) (λn k c=>by
  simp only[Dv];rw[E7 c];rfl) (λn k c=>by
  simp only[Dv]
  rw[Ev c,mW,BS c]
  simp only[mV,BX (show k<4611686018427387904 by omega)]
  cases decide (1099511627776<l[k])
  ·exact .inr ⟨trivial,rfl⟩
  ·exact .inl rfl) N 0 (by omega) (nE _) with c|⟨_,c⟩
 ·exact⟨_,c⟩
 ·exact⟨true,c⟩
def Z8 {N:Nat}(p:18446744073709551616<N) (b:AU) (u:HD b) (J:∀l∈b.E,JO b l) (g:List Int→Option Bool):∀(n:Nat) (k:Nat) (s:List Int),s.length=b.A.length→b.E.length<n+k→k≤b.E.length→∃s',s'.length=b.A.length∧B7 N b g n (k:Int) s=g s'
 |0,k,s,a,h,U=>by omega
 |n+1,k,s,a,h,U=>by
  have q3:=u.pl
  have q4:=u.li
  simp only[B7]
  rcases nT k b.E.length with j|j
  ·rw[Ev j,mW,BS j]
   simp only[mV]
   have d:=J b.E[k] (nP j)
   generalize b.E[k]=l at d
   have q:∀s:List Int,s.length=b.A.length→∃s',s'.length=b.A.length∧Cj N (k:Int) (B7 N b g n) s=g s':=λs a=>by
    unfold Cj
    rw[BX (show k<4611686018427387904 by omega)]
    exact Z8 p b u J g n (k+1) s a (by omega) (by omega)
   obtain⟨x,w⟩:=Df.ix (l:=s) d.fr.1 (by rw[a];exact d.fr.2)
   have y:∀c:Bool,(c=true→l.C=1∨l.C=5∨l.C=3)→∃s',s'.length=b.A.length∧Dx N s l (Cj N (k:Int) (B7 N b g n)) c=g s':=λc j=>by
    unfold Dx
    cases c
    ·rw[mX]
     by_cases z:l.C=4
     ·rw[show decide (l.C=4)=true by simp [z],mW]
      obtain⟨B,V,W,X,K,h6⟩:=d.seep z
      obtain⟨v,t⟩:=Ls p B.1 (show 0≤l.L by omega) (by omega)
      obtain⟨Y,m⟩:=Ls p X.1 K.1 (show l.Ab≤_ by have:=K.2;omega)
      have F:=d.to
      obtain⟨Z,o⟩:=Df.ix (l:=upd s l.I (B0 (x+B0 (2*v)))) (i:=l.D) (by omega) (by rw[KL,a];omega)
      simp only[w,t,o,m,mV]
      exact q _ (by rw[KL,KL,a])
     ·rw[show decide (l.C=4)=false by simp [z],mX]
      exact q s a
    ·rw[mW]
     obtain⟨B,V,W⟩:=d.part (j rfl)
     obtain⟨v,t⟩:=Ls p B.1 (show 0≤l.L by omega) (by omega)
     simp only[w,t,mV]
     exact q _ (by rw[KL,a])
   by_cases k0:l.C=0
   ·rw[show decide (l.C=0)=true by simp [k0],mW]
    obtain⟨c1,c2,c3,c4,M⟩:=d.gate k0
    obtain⟨v,t⟩:=Wv p [l.Ba,l.Af.Bb,l.Af.Bc] (by simp) (by simp [c1,c2,c3])
    simp only[w,t,mV]
    by_cases Q:l.D= -1
    ·rw[show decide (l.D≠ -1)=false by simp [Q],mX]
     exact q _ (by rw[KL,a])
    ·rw[show decide (l.D≠ -1)=true by simp [Q],mW]
     have F:=d.to
     obtain⟨Z,o⟩:=Df.ix (l:=upd s l.I (B0 (x+v))) (i:=l.D) (by omega) (by rw[KL,a];omega)
     obtain⟨Y,m⟩:=Ls p c4.1 M.1 (show l.Ab≤_ by have:=M.2;omega)
     simp only[o,m,mV]
     exact q _ (by rw[KL,KL,a])
   ·rw[show decide (l.C=0)=false by simp [k0],mX]
    by_cases G:l.C=1
    ·rw[show decide (l.C=1)=true by simp [G],mW]
     exact y true λ_=> .inl G
    ·rw[show decide (l.C=1)=false by simp [G],mX]
     by_cases H:l.C=5
     ·rw[show decide (l.C=5)=true by simp [H],mW]
      exact y true λ_=> .inr (.inl H)
     ·rw[show decide (l.C=5)=false by simp [H],mX]
      exact y _ λh=> .inr (.inr (by simpa using h))
  ·rw[E7 j];exact⟨s,a,rfl⟩
def Vy {N:Nat}(m:18446744073709551616<N) (b:AU) (c:HD b) (q:∀p∈b.A,HR b p) (t:∀l∈b.E,JO b l):Df (HI N b):=by
 have F:=c.pl
 have G:=c.li
 unfold HI
 rw[show Jh (b.A.length:Int) (b.A.length:Int) 8=true by simp [Jh];omega]
 simp only[chk,mW]
 have u:∀(n:Nat) (k:Nat) (s:List Int),s.length=b.A.length→b.A.length<n+k→k≤b.A.length→∃s',s'.length=b.A.length∧Dw N b (Dy N b) n (k:Int) s=Dy N b s':=by
  intro n
  induction n with
  |zero=>intro k s d I w;omega
  |succ n x=>
   intro k s d I w
   simp only[Dw]
   rcases nT k b.A.length with a|a
   ·have g:=q b.A[k] (nP a)
    obtain⟨v,y⟩:=Ls m g.num.1 g.den.1 (by have:=g.den.2;omega)
    rw[Ev a,mW,BS a,BS (show k<s.length by omega)]
    simp only[mV,y,BX (show k<4611686018427387904 by omega)]
    exact x (k+1) _ (by rw[KL,d]) (by omega) (by omega)
   ·rw[E7 a];exact⟨s,d,rfl⟩
 obtain⟨o,z,B⟩:=u N 0 (List.replicate ((b.A.length:Int):Int).toNat 0) (by simp) (by omega) (nE _)
 have i:Dw N b (Dy N b) N 0 (List.replicate ((b.A.length:Int):Int).toNat 0)=_:=B
 rw[i]
 unfold Dy
 obtain⟨C,H,D⟩:=Z8 m b c t (Cy N) N 0 o z (by omega) (nE _)
 have j:B7 N b (Cy N) N 0 o=_:=D
 rw[j]
 exact fF (by omega) C (by omega)
end Go.Proofs.YtblcgjadhemlbaaGreat
namespace Go.Proofs.YtblcgjadhemlbaaGreat
set_option linter.all false
open Go.RowKit
def Xa (N:Nat) (n z:Int):E5 N n z=some (XZ n 0 (B0 (z-1))):=rfl
structure Sc (b:AU) (t:MW):Prop where
 place:0≤t.Ax∧t.Ax<b.A.length
 flood:Ia t.Bm
 lead:0≤t.Bl∧t.Bl≤24
 watch:Ia t.Bn
 quorum:0≤t.Bk∧t.Bk≤128
def Wn {N:Nat}(w:1000<N) (b:AU) (a:HD b):∃v,Hk N b=some v∧(v=true→∀t∈b.Ag,Sc b t):=by
 have x:=a.pl
 have y:=a.to
 have z:=a.sh
 have j:Df (D8 N b):=by
  unfold D8
  rcases Ic b.Av.length (D6 N b (Fd N)) (Fd N) (λ_=>True) (λn k D=>by
   simp only[D6];rw[E7 D];rfl) (λn k D=>by
   simp only[D6]
   rw[Ev D,mW,BS D]
   simp only[mV,Lw,BX (show k<4611686018427387904 by omega)]
   cases XZ (b.Av[k]).Au 0 1073741824
   ·exact .inl rfl
   ·exact .inr ⟨trivial,rfl⟩) N 0 (by omega) (nE _) with D|⟨_,D⟩
  ·exact⟨_,D⟩
  ·exact⟨true,D⟩
 unfold Hk
 rcases Ic b.Ag.length (D7 N b (D8 N b)) (D8 N b) (λi=>∀t,b.Ag[i]? =some t→Sc b t) (λn k D=>by
  simp only[D7];rw[E7 D];rfl) (λn k D=>by
  simp only[D7]
  rw[Ev D,mW,BS D]
  simp only[mV,Lw,Kk,OI N _ (show b.A.length<4611686018427387904 by omega),Fl,KG,BX (show k<4611686018427387904 by omega)]
  generalize d:(_|| !XZ (b.Ag[k]).Bk 0 128)=B
  cases B
  ·simp only[nZ,qD] at d
   obtain⟨⟨⟨⟨⟨l,m⟩,o⟩,C⟩,p⟩,q⟩:=d
   refine .inr ⟨λt c=>?_,rfl⟩
   have:t=b.Ag[k]:=by simpa [D] using c.symm
   rw[this]
   have s:=Jl l
   exact⟨⟨s.1,by omega⟩,Jn m,Jl o,Jn p,Jl q⟩
  ·exact .inl rfl) N 0 (by omega) (nE _) with D|⟨hp,D⟩
 ·exact⟨false,D,λD=>by cases D⟩
 ·obtain⟨v,u⟩:=j
  refine⟨v,D.trans u,λ_ t c=>?_⟩
  obtain⟨i,g,rfl⟩:=qE.1 c
  exact hp i (nE _) g _ (by simp [g])
def WG {N:Nat}(j:1000<N) (b:AU) (c:HD b):Df (HJ N b):=by
 have m:=c.ga
 unfold HJ
 rcases Ic b.Aq.length (Dz N b (FK N)) (FK N) (λ_=>True) (λn k o=>by
  simp only[Dz];rw[E7 o];rfl) (λn k o=>by
  simp only[Dz]
  rw[Ev o,mW,BS o]
  simp only[mV,Lw,Xa,Fl,KG,BX (show k<4611686018427387904 by omega)]
  generalize a:(_|| !XZ (b.Aq[k]).Bo 0 1440)=B
  cases B
  ·simp only[nZ,qD] at a
   have d:=Jl a.1.1
   obtain⟨z,g⟩:=Df.ix (l:=[(b.A.length:Int),b.R,(b.E.length:Int)]) (i:=(b.Aq[k]).C) d.1 (by simp;omega)
   rw[g]
   simp only[mX,mV]
   cases XZ (b.Aq[k]).W 0 (B0 (z-1))
   ·exact .inl rfl
   ·exact .inr ⟨trivial,rfl⟩
  ·exact .inl rfl) N 0 (by omega) (nE _) with o|⟨_,o⟩
 ·exact⟨_,o⟩
 ·exact⟨true,o⟩
def W9 {N:Nat}(d:1000<N) (b:AU) (a:HD b):Df (Hl N b):=by
 have g:=a.ro
 unfold Hl
 rcases Ic b.At.length (D9 N b (Fe N)) (Fe N) (λ_=>True) (λn k i=>by
  simp only[D9];rw[E7 i];rfl) (λn k i=>by
  simp only[D9]
  rw[Ev i,mW,BS i]
  simp only[mV,Lw,Kk,Xa,Fl,KG,Nt,BX (show k<4611686018427387904 by omega)]
  generalize (_|| !Qj (b.At[k]).Bj)=B
  cases B
  ·simp only[mX]
   generalize ((decide ((b.At[k]).Bh= -1)&&decide ((b.At[k]).Bj≠0))||_)=c
   cases c
   ·exact .inr ⟨trivial,rfl⟩
   ·exact .inl rfl
  ·exact .inl rfl) N 0 (by omega) (nE _) with i|⟨_,i⟩
 ·exact⟨_,i⟩
 ·exact⟨true,i⟩
structure JK (b:AU):Prop where
 head:HD b
 places:∀p∈b.A,HR b p
 links:∀l∈b.E,JO b l
 towns:∀t∈b.Ag,Sc b t
def chainB {b:Bool}{x:Option Bool}{f:Bool→Option Bool}(Q:Prop) {G:Option Bool→Prop}(i:b=true→∃v,x=some v∧(v=true→Q)) (k:∀c,(c=true→b=true∧Q)→G (f c)):G ((cond b (x.bind λy=>some y) (some false)).bind f):=by
 cases b
 ·exact k false λi=>by cases i
 ·obtain⟨v,a,d⟩:=i rfl
  rw[a]
  exact k v λg=>⟨rfl,d g⟩
def Df.q {x:Option Bool}(b:Df x):∃v,x=some v∧(v=true→True):=by obtain⟨v,a⟩:=b;exact⟨v,a,λ_=>trivial⟩
def TR {N:Nat}(s:18446744073709551616<N) (b:AU):∃v,HY N b=some v∧(v=true→JK b):=by
 have a:1000<N:=by omega
 unfold HY
 obtain⟨F,z,k⟩:=Y9 a b
 rw[z]
 simp only[mV]
 refine chainB True (G:=λx=>∃v,x=some v∧(v=true→JK b)) (λQ=>(XK a (k Q)).q) λH u=>?_
 refine chainB (∀p∈b.A,HR b p) (G:=λx=>∃v,x=some v∧(v=true→JK b)) (λQ=>V7 a b (k (u Q).1)) λB w=>?_
 have m:B=true→HD b∧∀p∈b.A,HR b p:=λQ=>⟨k (u (w Q).1).1,(w Q).2⟩
 refine chainB (∀l∈b.E,JO b l) (G:=λx=>∃v,x=some v∧(v=true→JK b)) (λQ=>XP s b (m Q).1) λC n=>?_
 have c:C=true→HD b∧(∀p∈b.A,HR b p)∧∀l∈b.E,JO b l:=λQ=>⟨(m (n Q).1).1,(m (n Q).1).2,(n Q).2⟩
 refine chainB True (G:=λx=>∃v,x=some v∧(v=true→JK b)) (λQ=>(US a b (c Q).1 (c Q).2.1 (c Q).2.2).q) λI g=>?_
 refine chainB True (G:=λx=>∃v,x=some v∧(v=true→JK b)) (λQ=>(Vy s b (c (g Q).1).1 (c (g Q).1).2.1 (c (g Q).1).2.2).q) λJ i=>?_
 refine chainB (∀t∈b.Ag,Sc b t) (G:=λx=>∃v,x=some v∧(v=true→JK b)) (λQ=>Wn a b (c (g (i Q).1).1).1) λK j=>?_
 refine chainB True (G:=λx=>∃v,x=some v∧(v=true→JK b)) (λQ=>(WG a b (c (g (i (j Q).1).1).1).1).q) λM o=>?_
 refine chainB True (G:=λx=>∃v,x=some v∧(v=true→JK b)) (λQ=>(W9 a b (c (g (i (j (o Q).1).1).1).1).1).q) λD y=>?_
 refine⟨D,rfl,λQ=>?_⟩
 have d:=c (g (i (j (o (y Q).1).1).1).1).1
 exact⟨d.1,d.2.1,d.2.2,(j (o (y Q).1).1).2⟩
end Go.Proofs.YtblcgjadhemlbaaGreat
namespace Go.Proofs.YtblcgjadhemlbaaGreat
set_option linter.all false
open Go.RowKit
def EQ {σ t:Type}(L:Nat) (f:Nat→Int→σ→Option t) (c:σ→Option t) (I:Nat→σ→Prop) (a:∀n (k:Nat) s,L≤k→f (n+1) (k:Int) s=c s) (b:∀n (k:Nat) s,I k s→k<L→∃s',I (k+1) s'∧f (n+1) (k:Int) s=f n ((k+1:Nat):Int) s'):
  ∀n (k:Nat) s,I k s→L<n+k→k≤L→∃s',I L s'∧f n (k:Int) s=c s'
 |0,k,s,_,u,i=>by omega
 |n+1,k,s,g,u,i=>by
  rcases nT k L with d|d
  ·obtain⟨j,l,m⟩:=b n k s g d
   obtain⟨o,p,q⟩:=EQ L f c I a b n (k+1) j l (by omega) (by omega)
   exact⟨o,p,m.trans q⟩
  ·have:k=L:=by omega
   subst this
   exact⟨s,g,a n k s d⟩
def ME {σ m:Type}(L:Nat) (f:Nat→Int→σ→Option m) (c:σ→Option m) (d:Option m) (I:Nat→σ→Prop) (a:∀n (k:Nat) s,L≤k→f (n+1) (k:Int) s=c s) (b:∀n (k:Nat) s,I k s→k<L→f (n+1) (k:Int) s=d∨∃s',I (k+1) s'∧f (n+1) (k:Int) s=f n ((k+1:Nat):Int) s'):
  ∀n (k:Nat) s,I k s→L<n+k→k≤L→f n (k:Int) s=d∨∃s',I L s'∧f n (k:Int) s=c s'
 |0,k,s,_,o,l=>by omega
 |n+1,k,s,j,o,l=>by
  rcases nT k L with g|g
  ·rcases b n k s j g with h0|⟨s1,i1,h1⟩
   ·exact .inl h0
   ·rcases ME L f c d I a b n (k+1) s1 i1 (by omega) (by omega) with i|⟨s2,i2,i⟩
    ·exact .inl (h1.trans i)
    ·exact .inr ⟨s2,i2,h1.trans i⟩
  ·have:k=L:=by omega
   subst this
   exact .inr ⟨s,j,a n k s g⟩
def Hf {l:List Int}{k:Nat}(a:k<l.length):(l.take (k+1)).sum=(l.take k).sum+l[k]:=by
 rw[pO a,pK];simp
def I0:∀{l:List Int},(∀x∈l,0≤x)→0≤l.sum
 |[],_=>by simp
 |a::l,g=>by
  have c:=g a (oB ..)
  have d:=I0 (l:=l) λx b=>g x (oI _ b)
  simp only[oU];omega
def Fw {l:List Int}(g:∀x∈l,0≤x) (k:Nat):0≤(l.take k).sum∧(l.take k).sum≤l.sum:=by
 have b:=I0 (l:=l.take k) λx a=>g x (rN a)
 have c:=I0 (l:=l.drop k) λx a=>g x (List.mem_of_mem_drop a)
 have d:(l.take k).sum+(l.drop k).sum=l.sum:=by rw[←pK,List.take_append_drop]
 omega
def Sa (N:Nat) {a b:Int}(l: -4611686018427387903≤a) (m:a≤4611686018427387903) (n: -4611686018427387903≤b) (o:b≤4611686018427387903):Gc N a b=some (a+b):=by
 unfold Gc
 have d:B0 (a+b)=a+b:=DG (by omega) (by omega)
 by_cases p:0<b
 ·have i:B0 (9223372036854775807-b)=9223372036854775807-b:=DG (by omega) (by omega)
  rw[i,d]
  have g:decide (9223372036854775807-b<a)=false:=by simp;omega
  have c:decide (b<0)=false:=by simp;omega
  rw[g,c];simp
 ·have g:decide (0<b)=false:=by simp;omega
  rw[g]
  by_cases j:b<0
  ·have k:B0 (-9223372036854775808-b)= -9223372036854775808-b:=DG (by omega) (by omega)
   have c:decide (a< -9223372036854775808-b)=false:=by simp;omega
   rw[k,d,c];simp
  ·have c:decide (b<0)=false:=by simp;omega
   rw[c,d];simp
def Wt (N:Nat) {a b:Int}(l: -4611686018427387903≤a) (m:a≤4611686018427387903) (n: -4611686018427387903≤b) (o:b≤4611686018427387903):Gb N a b=some (a-b):=by
 unfold Gb
 have d:B0 (a-b)=a-b:=DG (by omega) (by omega)
 by_cases p:b<0
 ·have i:B0 (9223372036854775807+b)=9223372036854775807+b:=DG (by omega) (by omega)
  have g:decide (9223372036854775807+b<a)=false:=by simp;omega
  have c:decide (0<b)=false:=by simp;omega
  rw[i,d,g,c];simp
 ·have g:decide (b<0)=false:=by simp;omega
  rw[g]
  by_cases j:0<b
  ·have k:B0 (-9223372036854775808+b)= -9223372036854775808+b:=DG (by omega) (by omega)
   have c:decide (a< -9223372036854775808+b)=false:=by simp;omega
   rw[k,d,c];simp
  ·have c:decide (0<b)=false:=by simp;omega
   rw[c,d];simp
def KM {α}{l:List α}{k:Nat}(d:k<l.length) {P:α→Prop}(b:∀x∈l.take k,P x) (c:P l[k]):∀x∈l.take (k+1),P x:=by
 intro x a
 rw[pO d,oQ] at a
 rcases a with a|a
 ·exact b x a
 ·simp only[pJ] at a;subst a;exact c
def Ot {α}{f:α→Int}{l:List α}{k:Nat}(a:k<l.length):((l.take (k+1)).map f).sum=((l.take k).map f).sum+f l[k]:=by
 rw[pO a,qQ,pK];simp
def Pe {α}{f:α→Int}{l:List α}(c:∀x∈l,0≤f x):0≤(l.map f).sum:=I0 λy a=>by
 obtain⟨x,b,rfl⟩:=oC.1 a;exact c x b
def KC {n a:Nat}(b:n*a≤140737488355328) {α}(x:Option α):chk (room n a) x=x:=by
 unfold chk room;rw[nW b];rfl
def OG {i:Type}(L:Nat) (f:Nat→Int→Option i) (c:Option i) (a:∀n (k:Nat),L≤k→f (n+1) (k:Int)=c) (b:∀n (k:Nat),k<L→f (n+1) (k:Int)=f n ((k+1:Nat):Int)):
  ∀n (k:Nat),L<n+k→k≤L→f n (k:Int)=c
 |0,k,j,g=>by omega
 |n+1,k,j,g=>by
  rcases nT k L with d|d
  ·rw[b n k d];exact OG L f c a b n (k+1) (by omega) (by omega)
  ·exact a n k d
end Go.Proofs.YtblcgjadhemlbaaGreat
