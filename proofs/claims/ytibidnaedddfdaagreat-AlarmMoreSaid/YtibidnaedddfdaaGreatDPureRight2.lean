import Derived.Test.YtibidnaedddfdaaGreatDPureRight
namespace Go.Proofs.YtibidnaedddfdaaGreat
set_option linter.all false
open Go.RowKit
structure I0 (b:AU) (p:EM):Prop where
 lev:C1 p.Av
 num:Gh p.N
 den:Gh p.H
 down:p.Ao= -1∨(0≤p.Ao∧p.Ao<b.D.length)
 cap:Gh p.Ag
 delay:0≤p.V∧p.V≤240
def Ru {N:Nat}(p:EM) (a:Int→Option Bool) (c:p.Bg.length≤16):∀(n:Nat) (s:Int) (k:Nat),p.Bg.length<n+k→k≤p.Bg.length→C4 N p a n s (k:Int)=some false∨∃s',C4 N p a n s (k:Int)=a s'
 |0,s,k,h,d=>by omega
 |n+1,s,k,h,d=>by
  simp only[C4]
  rcases jN k p.Bg.length with b|b
  ·rw[FX b,iN,Bv b]
   simp only[iM,Jv,BV (show k<4611686018427387904 by omega)]
   cases Qm p.Bg[k]
   ·exact .inl rfl
   ·exact Ru (N:=N) p a c n _ (k+1) (by omega) (by omega)
  ·rw[FY b];exact .inr ⟨s,rfl⟩
def Tv {N:Nat}(b:AU) (p:EM) (a:Int) (c:Int→Option Bool) (i:0≤b.W∧b.W≤64):∀(n:Nat) (s:Int) (k:Nat), -1≤s→s≤64→65<n+s→k<100→(k:Int)≤s+1→C3 N b p a c n s (k:Int)=some false∨C3 N b p a c n s (k:Int)=c a
 |0,s,k,j,l,m,o,q=>by omega
 |n+1,s,k,j,l,m,o,q=>by
  simp only[C3]
  rcases jN k p.Ai.length with d|d
  ·rw[FX d,iN,Bv d]
   simp only[iM,Jv,E7,JE,BV (show k<4611686018427387904 by omega)]
   cases g:(decide ((p.Ai[k]).Bf≤s)||decide (b.W≤(p.Ai[k]).Bf)|| !Qm (p.Ai[k]).Bo)
   ·simp only[jP,jK] at g
    obtain⟨⟨t,u⟩,v⟩:=g
    exact Tv (N:=N) b p a c i n _ (k+1) (by omega) (by omega) (by omega) (by omega) (by omega)
   ·exact .inl rfl
  ·rw[FY d];exact .inr rfl
def QP {N:Nat}(o:1000<N) (b:AU) (a:HX b):∀(n:Nat) (s:Int) (k:Nat),b.D.length<n+k→k≤b.D.length→∃v,B5 N b (CG N) n s (k:Int)=some v∧(v=true→∀(i:Nat) p,k≤i→b.D[i]? =some p→I0 b p)
 |0,s,k,h,q=>by omega
 |n+1,s,k,h,q=>by
  have M:=a.pl
  simp only[B5]
  rcases jN k b.D.length with c|c
  ·rw[FX c,iN,Bv c]
   obtain⟨Q,g,j⟩:=In (N:=N) (by omega) (b.D[k]).Av
   simp only[iM,Kk,Jv,Ng,g,N8 N b _ _ (show b.D.length<4611686018427387904 by omega),E7,JE]
   generalize l:(_|| !Rp b.D.length (k:Int) (b.D[k]).Ao)=B
   cases B
   ·simp only[jP,jK,kY] at l
    obtain⟨⟨⟨⟨⟨⟨⟨⟨U,V⟩,t⟩,u⟩,W⟩,w⟩,x⟩,m⟩,y⟩:=l
    have z:(b.D[k]).Bg.length=b.Ar.length:=by
     have:((b.D[k]).Bg.length:Int)=(b.Ar.length:Int):=by simpa using x
     omega
    have A:I0 b b.D[k]:=⟨j w,(MR m).1,(MR m).2,Tm y,I5 u,Ij t⟩
    simp only[iO]
    rcases Ru (N:=N) b.D[k] (D3 N b b.D[k] (Cg N (k:Int) (B5 N b (CG N) n))) (by have:=a.own;omega) N s 0 (by have:=a.own;omega) (iU _) with e|⟨s',e⟩
    ·exact⟨false,e,λh=>by cases h⟩
    ·have C:C4 N b.D[k] (D3 N b b.D[k] (Cg N (k:Int) (B5 N b (CG N) n))) N s 0=_:=e
     rw[C]
     unfold D3
     rcases Tv (N:=N) b b.D[k] s' (Cg N (k:Int) (B5 N b (CG N) n)) a.cells N (-1) 0 (by omega) (by omega) (by omega) (by omega) (by omega) with e|e
     ·exact⟨false,e,λh=>by cases h⟩
     ·have F:C3 N b b.D[k] s' (Cg N (k:Int) (B5 N b (CG N) n)) N (-1) 0=_:=e
      rw[F]
      unfold Cg
      rw[BV (show k<4611686018427387904 by omega)]
      obtain⟨v,G,H⟩:=QP o b a n s' (k+1) (by omega) (by omega)
      refine⟨v,G,λI i p J d=>?_⟩
      by_cases K:i=k
      ·subst K
       have:p=b.D[i]:=by simpa [c] using d.symm
       rw[this];exact A
      ·exact H I i p (by omega) d
   ·exact⟨false,rfl,λh=>by cases h⟩
  ·rw[FY c]
   refine⟨_,rfl,λ_ i p J d=>?_⟩
   have:=(jF.1 d).1
   omega
def Um {N:Nat}(c:1000<N) (b:AU) (a:HX b):∃v,G9 N b=some v∧(v=true→∀p∈b.D,I0 b p):=by
 obtain⟨v,d,g⟩:=QP c b a N 0 0 (by have:=a.pl;omega) (iU _)
 refine⟨v,d,λj p k=>?_⟩
 obtain⟨i,l,rfl⟩:=kV.1 k
 exact g j i _ (iU _) (by simp [l])
structure IJ (b:AU) (l:A7):Prop where
 kind:0≤l.C∧l.C≤5
 fr:0≤l.I∧l.I<b.D.length
 to:l.E= -1∨(0≤l.E∧l.E<b.D.length)
 delay:0≤l.V∧l.V≤240
 gate:l.C=0→C1 l.Af∧C1 l.U.B∧C1 l.U.A∧Gh l.Aa∧Gh l.Y
 part:l.C=1∨l.C=5∨l.C=3→Gh l.N∧1≤l.H∧l.H≤1125899906842624
 seep:l.C=4→Gh l.N∧1≤l.H∧l.H≤1125899906842624∧Gh l.Aa∧Gh l.Y∧l.E≠ -1
def VK {N:Nat}(d:18446744073709551616<N) (a b:List BC) (g:1≤a.length) (c:a.length≤32) (i:b.length≤32):Df (C0 N a b):=by
 unfold C0
 rcases Fl b.length (DW N a b (Ep N)) (Ep N) (λ_=>True) (λn k h=>by
  simp only[DW];rw[FY h];rfl) (λn k h=>by
  simp only[DW]
  obtain⟨v,j⟩:=Rm d g c (b[k]).G
  rw[FX h,iN,Bv h]
  simp only[iM,j,BV (show k<4611686018427387904 by omega)]
  cases (decide ((b[k]).L<v.1)||decide (v.1=(b[k]).L)&&v.2)
  ·exact .inr ⟨trivial,rfl⟩
  ·exact .inl rfl) N 0 (by omega) (iU _) with h|⟨_,h⟩
 ·exact⟨_,h⟩
 ·exact⟨true,h⟩
def NM {N:Nat}(d:18446744073709551616<N) (a b:List BC):Df (EC N a b):=by
 unfold EC
 obtain⟨s,i,j⟩:=In (N:=N) (by omega) a
 obtain⟨t,l,m⟩:=In (N:=N) (by omega) b
 simp only[i,l,iM,E7,JE]
 refine Df.cond (λ_=>Df.mk _) λh=>?_
 simp only[jP,kY] at h
 obtain⟨o,p,_⟩:=j h.1
 obtain⟨q,g,_⟩:=m h.2
 rcases Fl a.length (DA N a b (C0 N a b)) (C0 N a b) (λ_=>True) (λn k h=>by
  simp only[DA];rw[FY h];rfl) (λn k h=>by
  simp only[DA]
  obtain⟨v,c⟩:=Rm d q g (a[k]).G
  rw[FX h,iN,Bv h]
  simp only[iM,c,BV (show k<4611686018427387904 by omega)]
  cases decide (v.1<(a[k]).L)
  ·exact .inr ⟨trivial,rfl⟩
  ·exact .inl rfl) N 0 (by omega) (iU _) with h|⟨_,h⟩
 ·exact⟨_,h⟩
 ·obtain⟨v,c⟩:=VK d a b o p g
  exact⟨v,h.trans c⟩
def QX {N:Nat}(m:18446744073709551616<N) (l:A7):∃v,Ev N l=some v∧(v=true→
  (l.C=0→C1 l.Af∧C1 l.U.B∧C1 l.U.A∧Gh l.Aa∧Gh l.Y)∧(l.C=1∨l.C=5∨l.C=3→Gh l.N∧1≤l.H∧l.H≤1125899906842624)∧
  (¬(l.C=0∨l.C=1∨l.C=5∨l.C=2∨l.C=3)→Gh l.N∧1≤l.H∧l.H≤1125899906842624∧Gh l.Aa∧Gh l.Y∧l.E≠ -1)):=by
 obtain⟨v1,q,s⟩:=In (N:=N) (by omega) l.Af
 obtain⟨G,t,u⟩:=In (N:=N) (by omega) l.U.B
 obtain⟨I,w,x⟩:=In (N:=N) (by omega) l.U.A
 obtain⟨J,y⟩:=NM m l.U.B l.Af
 obtain⟨K,z⟩:=NM m l.Af l.U.A
 unfold Ev
 by_cases k0:l.C=0
 ·rw[show decide (l.C=0)=true by simp [k0],iN]
  simp only[q,t,w,y,z,Kk,Jv,Ng,iM,E7,OG]
  refine⟨_,rfl,λh=>?_⟩
  simp only[iQ] at h
  obtain⟨⟨⟨⟨⟨⟨⟨⟨⟨d,a⟩,b⟩,i⟩,D⟩,M⟩,Q⟩,V⟩,n⟩,F⟩:=h
  exact⟨λ_=>⟨s d,u a,x b,(MR n).1,(MR n).2⟩,λh=>by omega,λh=>absurd (.inl k0) h⟩
 ·rw[show decide (l.C=0)=false by simp [k0],iO]
  have o:∀c:Bool,(c=true↔l.C=1∨l.C=5)→∃v,Dd N l c=some v∧(v=true→
    (l.C=0→C1 l.Af∧C1 l.U.B∧C1 l.U.A∧Gh l.Aa∧Gh l.Y)∧(l.C=1∨l.C=5∨l.C=3→Gh l.N∧1≤l.H∧l.H≤1125899906842624)∧
    (¬(l.C=0∨l.C=1∨l.C=5∨l.C=2∨l.C=3)→Gh l.N∧1≤l.H∧l.H≤1125899906842624∧Gh l.Aa∧Gh l.Y∧l.E≠ -1)):=λc p=>by
   unfold Dd
   simp only[Kk,Jv,Ng,iM,E7,OG]
   cases c
   ·have W:¬(l.C=1∨l.C=5):=λh=>by have:=p.2 h;cases this
    rw[iO]
    by_cases j:l.C=2
    ·rw[show decide (l.C=2)=true by simp [j],iN]
     exact⟨_,rfl,λ_=>⟨λh=>absurd h k0,λh=>by omega,λh=>absurd (.inr (.inr (.inr (.inl j)))) h⟩⟩
    ·rw[show decide (l.C=2)=false by simp [j],iO]
     by_cases k:l.C=3
     ·rw[show decide (l.C=3)=true by simp [k],iN]
      refine⟨_,rfl,λh=>?_⟩
      simp only[iQ] at h
      obtain⟨⟨⟨⟨d,a⟩,b⟩,i⟩,D⟩:=h
      exact⟨λh=>absurd h k0,λ_=>⟨I5 d,Ij a⟩,λh=>absurd (.inr (.inr (.inr (.inr k)))) h⟩
     ·rw[show decide (l.C=3)=false by simp [k],iO]
      refine⟨_,rfl,λh=>?_⟩
      simp only[iQ,jG] at h
      obtain⟨⟨⟨d,a⟩,b⟩,i⟩:=h
      exact⟨λh=>absurd h k0,λh=>by omega,λ_=>⟨I5 d,(Ij a).1,(Ij a).2,(MR b).1,(MR b).2,i⟩⟩
   ·have X:=p.1 rfl
    rw[iN]
    refine⟨_,rfl,λh=>?_⟩
    simp only[iQ] at h
    obtain⟨⟨d,a⟩,b⟩:=h
    exact⟨λh=>absurd h k0,λ_=>⟨I5 a,Ij b⟩,λh=>by omega⟩
  by_cases g:l.C=1
  ·rw[show decide (l.C=1)=true by simp [g],iN]
   exact o true (by simp [g])
  ·rw[show decide (l.C=1)=false by simp [g],iO]
   exact o _ (by simp [g])
def QH (N:Nat) (l:A7):Df (Eu N l):=by
 unfold Eu
 exact Df.cond (λ_=>Df.mk _) λ_=>Df.cond (λ_=>Df.mk _) λ_=>Df.cond (λ_=>Df.mk _) λ_=>Df.cond (λ_=>Df.mk _) λ_=>Df.cond (λ_=>Df.mk _) λ_=>Df.mk _
def Vw {N:Nat}(m:18446744073709551616<N) (b:AU) (c:HX b):∃v,EY N b=some v∧(v=true→∀l∈b.F,IJ b l):=by
 have H:=c.pl
 have I:=c.li
 unfold EY
 rcases Fl b.F.length (Cd N b (DM N)) (DM N) (λi=>∀l,b.F[i]? =some l→IJ b l) (λn k h=>by
  simp only[Cd];rw[FY h];rfl) (λn k h=>by
  simp only[Cd]
  obtain⟨J,o,p⟩:=QX m b.F[k]
  obtain⟨q,s⟩:=QH N b.F[k]
  rw[FX h,iN,Bv h]
  simp only[iM,Kk,Nf N _ (show b.D.length<4611686018427387904 by omega),N8 N b _ _ (show b.D.length<4611686018427387904 by omega),o,s,E7,JE,BV (show k<4611686018427387904 by omega)]
  generalize d:(_|| !q)=B
  cases B
  ·simp only[jP,kY] at d
   obtain⟨⟨⟨⟨⟨t,u⟩,w⟩,g⟩,x⟩,K⟩:=d
   have y:=Ij t
   have z:=Ij u
   obtain⟨A,C,G⟩:=p x
   refine .inr ⟨λl a=>?_,rfl⟩
   have:l=b.F[k]:=by simpa [h] using a.symm
   rw[this]
   exact⟨y,⟨z.1,by omega⟩,Tm w,Ij g,A,C,λg=>G (by omega)⟩
  ·exact .inl rfl) N 0 (by omega) (iU _) with h|⟨hp,h⟩
 ·exact⟨false,h,λh=>by cases h⟩
 ·refine⟨true,h,λ_ l a=>?_⟩
  obtain⟨i,j,rfl⟩:=kV.1 a
  exact hp i (iU _) j _ (by simp [j])
def T0 (N:Nat) (b:AU) (o to:Int) (h:to= -1∨(0≤to∧to<b.D.length)):Df (IF N b o to):=by
 unfold IF
 refine Df.cond (λ_=>Df.mk _) λa=>?_
 simp only[jK] at a
 exact Df.bind (Df.ix (by omega) (by omega)) λ_ _=>Df.mk _
def TM {N:Nat}(w:1000<N) (b:AU) (m:HX b) (o:∀p∈b.D,I0 b p) (q:∀l∈b.F,IJ b l):Df (F5 N b):=by
 have y:=m.pl
 have A:=m.li
 have s:Df (DR N b):=by
  unfold DR
  rcases Fl b.F.length (DP N b (ET N)) (ET N) (λ_=>True) (λn k h=>by
   simp only[DP];rw[FY h];rfl) (λn k h=>by
   simp only[DP]
   have a:=q b.F[k] (jQ h)
   obtain⟨x,t⟩:=Df.ix (l:=b.D) a.fr.1 a.fr.2
   obtain⟨v,c⟩:=T0 N b x.Aj (b.F[k]).E a.to
   rw[FX h,iN,Bv h]
   simp only[iM,t,c,BV (show k<4611686018427387904 by omega)]
   have i:∃z,(cond (!v) (some true) ((cond (decide ((b.F[k]).C=4)) ((ix b.D (b.F[k]).E).bind λd=>some (decide (d.Aj≠x.Aj))) (some false)).bind λg=>some g))=some z:=by
    refine Df.cond (λ_=>Df.mk _) λ_=>Df.bind (Df.cond (λu=>?_) λ_=>Df.mk _) λ_ _=>Df.mk _
    have j:(b.F[k]).C=4:=by simpa using u
    have:=(a.seep j).2.2.2.2.2
    have:=a.to
    exact Df.bind (Df.ix (by omega) (by omega)) λ_ _=>Df.mk _
   obtain⟨z,i⟩:=i
   rw[i]
   simp only[iM]
   cases z
   ·exact .inr ⟨trivial,rfl⟩
   ·exact .inl rfl) N 0 (by omega) (iU _) with h|⟨_,h⟩
  ·exact⟨_,h⟩
  ·exact⟨true,h⟩
 unfold F5
 rcases Fl b.D.length (DQ N b (DR N b)) (DR N b) (λ_=>True) (λn k h=>by
   simp only[DQ];rw[FY h];rfl) (λn k h=>by
   simp only[DQ]
   have a:=o b.D[k] (jQ h)
   obtain⟨v,c⟩:=T0 N b (b.D[k]).Aj (b.D[k]).Ao a.down
   rw[FX h,iN,Bv h]
   simp only[iM,c,BV (show k<4611686018427387904 by omega)]
   cases v
   ·exact .inl rfl
   ·exact .inr ⟨trivial,rfl⟩) N 0 (by omega) (iU _) with h|⟨_,h⟩
 ·exact⟨_,h⟩
 ·obtain⟨v,c⟩:=s
  exact⟨v,h.trans c⟩
def Rs {N:Nat}(g:18446744073709551616<N) (c:List BC) (i:C1 c) (b:Int→Option Int):∀(n:Nat) (s:Int) (k:Nat),c.length<n+k→1≤k→k≤c.length→∃s',CO N c b n s (k:Int)=b s'
 |0,s,k,h,j,l=>by omega
 |n+1,s,k,h,j,l=>by
  obtain⟨m,o,d⟩:=i
  simp only[CO]
  rcases jN k c.length with a|a
  ·have p:B8 ((k:Int)-1)=((k-1:Nat):Int):=by rw[DE (by omega) (by omega)];omega
   rw[FX a,iN,p,Bv a,Bv (show k-1<c.length by omega)]
   simp only[iM,BV (show k<4611686018427387904 by omega)]
   obtain⟨q,t,u⟩:=d k c[k] (by simp [a])
   obtain⟨w,x,_⟩:=d (k-1) c[k-1] (by simp [show k-1<c.length by omega])
   obtain⟨z,A⟩:=u c[k-1] (by omega) (by simp [show k-1<c.length by omega])
   unfold Gh at q t w x
   obtain⟨v,y⟩:=Kg g (num:=B8 ((c[k]).L-(c[k-1]).L)) (den:=B8 ((c[k]).G-(c[k-1]).G)) (by rw[DE (by omega) (by omega)];omega) (by rw[DE (by omega) (by omega)];omega) (by rw[DE (by omega) (by omega)];omega)
   rw[y]
   exact Rs g c ⟨m,o,d⟩ b n _ (k+1) (by omega) (by omega) (by omega)
  ·rw[FY a];exact⟨s,rfl⟩
def VY {N:Nat}(d:18446744073709551616<N) (cs:List (List BC)) (m:cs.length≤3) (g:∀c∈cs,C1 c):Df (Er N cs):=by
 unfold Er
 have:∀(n:Nat) (s:Int) (k:Nat),cs.length<n+k→k≤cs.length→Df (CB N cs (CP N) n s (k:Int)):=by
  intro n
  induction n with
  |zero=>intro s k h i;omega
  |succ n j=>
   intro s k h i
   simp only[CB]
   rcases jN k cs.length with a|a
   ·rw[FX a,iN,Bv a]
    simp only[iM]
    have b:=g cs[k] (jQ a)
    obtain⟨s',e⟩:=Rs d cs[k] b (Ci N (k:Int) (CB N cs (CP N) n)) N s 1 (by have:=b.2.1;omega) (by omega) b.1
    have l:CO N cs[k] (Ci N (k:Int) (CB N cs (CP N) n)) N s 1=_:=e
    rw[l]
    unfold Ci
    rw[BV (show k<4611686018427387904 by omega)]
    exact j s' (k+1) (by omega) (by omega)
   ·rw[FY a];exact Df.mk _
 exact this N 0 0 (by omega) (iU _)
def JH {α}(l:List α) (i:Int) (x:α):(upd l i x).length=l.length:=by simp [upd]
def cL {N:Nat}(a:1000<N) (l:List Int) (b:l.length≤64):Df (B4 N l):=by
 unfold B4
 rcases Fl l.length (CU N l (C2 N)) (C2 N) (λ_=>True) (λn k h=>by
  simp only[CU];rw[FY h];rfl) (λn k h=>by
  simp only[CU]
  rw[FX h,iN,Bv h]
  simp only[iM,BV (show k<4611686018427387904 by omega)]
  cases decide (1099511627776<l[k])
  ·exact .inr ⟨trivial,rfl⟩
  ·exact .inl rfl) N 0 (by omega) (iU _) with h|⟨_,h⟩
 ·exact⟨_,h⟩
 ·exact⟨true,h⟩
def Yv {N:Nat}(p:18446744073709551616<N) (b:AU) (u:HX b) (Q:∀l∈b.F,IJ b l) (g:List Int→Option Bool):∀(n:Nat) (k:Nat) (s:List Int),s.length=b.D.length→b.F.length<n+k→k≤b.F.length→∃s',s'.length=b.D.length∧BI N b g n (k:Int) s=g s'
 |0,k,s,a,h,Z=>by omega
 |n+1,k,s,a,h,Z=>by
  have q3:=u.pl
  have q4:=u.li
  simp only[BI]
  rcases jN k b.F.length with j|j
  ·rw[FX j,iN,Bv j]
   simp only[iM]
   have d:=Q b.F[k] (jQ j)
   generalize b.F[k]=l at d
   have q:∀s:List Int,s.length=b.D.length→∃s',s'.length=b.D.length∧B3 N (k:Int) (BI N b g n) s=g s':=λs a=>by
    unfold B3
    rw[BV (show k<4611686018427387904 by omega)]
    exact Yv p b u Q g n (k+1) s a (by omega) (by omega)
   obtain⟨x,w⟩:=Df.ix (l:=s) d.fr.1 (by rw[a];exact d.fr.2)
   have y:∀c:Bool,(c=true→l.C=1∨l.C=5∨l.C=3)→∃s',s'.length=b.D.length∧Cv N s l (B3 N (k:Int) (BI N b g n)) c=g s':=λc j=>by
    unfold Cv
    cases c
    ·rw[iO]
     by_cases z:l.C=4
     ·rw[show decide (l.C=4)=true by simp [z],iN]
      obtain⟨G,h2,h3,h4,V,h6⟩:=d.seep z
      obtain⟨v,t⟩:=Kg p G.1 (show 0≤l.H by omega) (by omega)
      obtain⟨v2,m⟩:=Kg p h4.1 V.1 (show l.Y≤_ by have:=V.2;omega)
      have J:=d.to
      obtain⟨x2,o⟩:=Df.ix (l:=upd s l.I (B8 (x+B8 (2*v)))) (i:=l.E) (by omega) (by rw[JH,a];omega)
      simp only[w,t,o,m,iM]
      exact q _ (by rw[JH,JH,a])
     ·rw[show decide (l.C=4)=false by simp [z],iO]
      exact q s a
    ·rw[iN]
     obtain⟨G,h2,h3⟩:=d.part (j rfl)
     obtain⟨v,t⟩:=Kg p G.1 (show 0≤l.H by omega) (by omega)
     simp only[w,t,iM]
     exact q _ (by rw[JH,a])
   by_cases k0:l.C=0
   ·rw[show decide (l.C=0)=true by simp [k0],iN]
    obtain⟨c1,c2,c3,c4,W⟩:=d.gate k0
    obtain⟨v,t⟩:=VY p [l.Af,l.U.B,l.U.A] (by simp) (by simp [c1,c2,c3])
    simp only[w,t,iM]
    by_cases X:l.E= -1
    ·rw[show decide (l.E≠ -1)=false by simp [X],iO]
     exact q _ (by rw[JH,a])
    ·rw[show decide (l.E≠ -1)=true by simp [X],iN]
     have J:=d.to
     obtain⟨x2,o⟩:=Df.ix (l:=upd s l.I (B8 (x+v))) (i:=l.E) (by omega) (by rw[JH,a];omega)
     obtain⟨v2,m⟩:=Kg p c4.1 W.1 (show l.Y≤_ by have:=W.2;omega)
     simp only[o,m,iM]
     exact q _ (by rw[JH,JH,a])
   ·rw[show decide (l.C=0)=false by simp [k0],iO]
    by_cases K:l.C=1
    ·rw[show decide (l.C=1)=true by simp [K],iN]
     exact y true λ_=> .inl K
    ·rw[show decide (l.C=1)=false by simp [K],iO]
     by_cases M:l.C=5
     ·rw[show decide (l.C=5)=true by simp [M],iN]
      exact y true λ_=> .inr (.inl M)
     ·rw[show decide (l.C=5)=false by simp [M],iO]
      exact y _ λh=> .inr (.inr (by simpa using h))
  ·rw[FY j];exact⟨s,a,rfl⟩
def Ui {N:Nat}(m:18446744073709551616<N) (b:AU) (c:HX b) (q:∀p∈b.D,I0 b p) (t:∀l∈b.F,IJ b l):Df (EG N b):=by
 have G:=c.pl
 have H:=c.li
 unfold EG
 rw[show Kj (b.D.length:Int) (b.D.length:Int) 8=true by simp [Kj];omega]
 simp only[chk,iN]
 have u:∀(n:Nat) (k:Nat) (s:List Int),s.length=b.D.length→b.D.length<n+k→k≤b.D.length→∃s',s'.length=b.D.length∧CV N b (CF N b) n (k:Int) s=CF N b s':=by
  intro n
  induction n with
  |zero=>intro k s d h w;omega
  |succ n x=>
   intro k s d h w
   simp only[CV]
   rcases jN k b.D.length with a|a
   ·have g:=q b.D[k] (jQ a)
    obtain⟨v,y⟩:=Kg m g.num.1 g.den.1 (by have:=g.den.2;omega)
    rw[FX a,iN,Bv a,Bv (show k<s.length by omega)]
    simp only[iM,y,BV (show k<4611686018427387904 by omega)]
    exact x (k+1) _ (by rw[JH,d]) (by omega) (by omega)
   ·rw[FY a];exact⟨s,d,rfl⟩
 obtain⟨o,z,A⟩:=u N 0 (List.replicate ((b.D.length:Int):Int).toNat 0) (by simp) (by omega) (iU _)
 have i:CV N b (CF N b) N 0 (List.replicate ((b.D.length:Int):Int).toNat 0)=_:=A
 rw[i]
 unfold CF
 obtain⟨B,I,C⟩:=Yv m b c t (B4 N) N 0 o z (by omega) (iU _)
 have j:BI N b (B4 N) N 0 o=_:=C
 rw[j]
 exact cL (by omega) B (by omega)
end Go.Proofs.YtibidnaedddfdaaGreat
