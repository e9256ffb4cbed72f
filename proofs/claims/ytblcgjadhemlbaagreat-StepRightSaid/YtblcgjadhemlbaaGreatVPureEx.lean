import Derived.Test.YtblcgjadhemlbaaGreatVPureGt
import Derived.Test.YtblcgjadhemlbaaGreatVPureBase
namespace Go.Proofs.YtblcgjadhemlbaaGreat
set_option linter.all false
open Go.RowKit
structure WN (P W:Nat) (o:List (List Int)):Prop where
 len:o.length=P
 all:∀x∈o,x.length=W
def WN.ix {P W:Nat}{o:List (List Int)}(c:WN P W o) {k:Nat}(a:k<P):∃x,Go.Proofs.YtblcgjadhemlbaaGreat.ix o (k:Int)=some x∧x.length=W:=by
 obtain⟨x,e,b⟩:=mJ (l:=o) (i:=k) (by rw[c.len];exact a)
 exact⟨x,e,c.all x b⟩
def WN.upd {P W:Nat}{o:List (List Int)}(c:WN P W o) (i:Int) {x:List Int}(b:x.length=W):WN P W (upd o i x):=
 ⟨by rw[K0];exact c.len,λy a=>by
  rcases rE a with a|rfl
  ·exact c.all y a
  ·exact b⟩
def RZ {N:Nat}(q:1000000<N) {s:BD}(t:s.G.length≤64) (g:∀x∈s.G,x.length≤1000) (u:s.M.length≤1000) (v:s.Q.length≤1000) (w:s.O.length≤1000) (y:s.P.length≤1000):JS N s=some s:=by
 unfold JS
 rw[IM (by omega) _ (by decide)]
 obtain⟨o,⟨z,j⟩,e⟩:=EQ s.G.length (λn i l=>FB N s (FC N s) n i l) (FC N s) (λk (l:List (List Int))=>l.length=s.G.length∧∀i,i<k→l[i]? =s.G[i]?) (λn k l a=>by
  simp only[FB];rw[E7 a];rfl) (λn k l d a=>by
  simp only[FB]
  have b:k<l.length:=by rw[d.1];exact a
  rw[Ev a,mW,BS a,mV,KH N (by have:=g _ (nP a);omega)]
  simp only[BS b,mV]
  rw[BX (by omega)]
  refine⟨_,⟨by rw[K0];exact d.1,λi m=>?_⟩,rfl⟩
  by_cases c:k=i
  ·subst c;rw[GO b];simp [a]
  ·rw[IC c];exact d.2 i (by omega)) N 0 (List.replicate ((s.G.length:Int)).toNat ([]:List Int)) ⟨Mt _ _,λi d=>by omega⟩ (by omega) (nE _)
 rw[show FB N s (FC N s) N 0 _=FC N s o from e]
 have p:o=s.G:=oR λi=>by
  rcases nT i s.G.length with A|A
  ·exact j i A
  ·rw[oE A,oE (by omega)]
 subst p
 unfold FC
 rw[KH N (by omega),mV,UZ N (by omega),mV,KH N (by omega),mV,KH N (by omega),mV]
def mI (a:List Int) (i:Int):Int:=a.getD i.toNat 0
def cA {a:List Int}{i:Int}(h0:0≤i) (c:i<a.length):ix a i=some (mI a i):=by
 obtain⟨n,rfl,b⟩:=aE h0 c
 rw[BS b];simp [mI,oT,b]
end Go.Proofs.YtblcgjadhemlbaaGreat
namespace Go.Proofs.YtblcgjadhemlbaaGreat
set_option linter.all false
open Go.RowKit
def OD {N:Nat}(a:18446744073709551616<N) (v n d:Int):Df (HU N v n d):=by
 unfold HU
 rw[Mp a,mV]
 exact Df.cond (λ_=>Df.mk _) λ_=>Df.mk _
def TN {N:Nat}(a:18446744073709551616<N) (v n d:Int):Df (Jm N v n d):=by
 unfold Jm
 rw[Mp a,mV]
 exact Df.cond (λ_=>Df.mk _) λ_=>Df.mk _
def jW {N:Nat}(a:18446744073709551616<N) (c:List B4) (x:Int):Df (LK N c x):=by
 unfold LK
 obtain⟨v,b,k⟩:=JD (N:=N) (by omega) c
 rw[b,mV]
 cases v
 ·exact Df.mk _
 ·have g:=k rfl
  obtain⟨y,d⟩:=Ps a g.1 g.2.1 x
  exact⟨y.1,by rw[d];rfl⟩
def VK {N:Nat}(i:18446744073709551616<N) (l:BQ) (g:BH) (fr to:Int):Df (LJ N l g fr to):=by
 have head:Df (Kf N l fr to):=by
  unfold Kf
  refine Df.cond (λ_=>Df.mk _) λ_=>?_
  refine(OD i _ _ _).bind λv _=>(Pw N _ _).bind λu _=>Df.mk _
 have j:Df (Kg N l g.V g.Al l.Ba fr to):=by
  unfold Kg Jz J0 J1 J2 IU IW
  have n:Df ((Gb N fr l.Ap).bind λm=>(HU N (max 0 m) l.S l.L).bind λk=>some k):=(Pw N _ _).bind λu _=>(OD i _ _ _).bind λv _=>Df.mk _
  refine Df.cond (λ_=>?_) λ_=>Df.cond (λ_=>(OD i _ _ _).bind λv _=>Df.mk _) λ_=>Df.cond (λ_=>Df.cond (λ_=>(OD i _ _ _).bind λv _=>Df.mk _) λ_=>Df.mk _) λ_=>Df.cond (λ_=>Df.cond (λ_=>Df.mk _) λ_=>n) λ_=>Df.cond (λ_=>n) λ_=>Df.mk _
  exact head.bind λa _=>(jW i _ _).bind λb _=>(OD i _ _ _).bind λc _=>(Ud N _ _).bind λd _=>Df.mk _
 unfold LJ
 exact j.bind λv _=>Df.mk _
def Uz {N:Nat}(c:18446744073709551616<N) (l:BQ) (fr to:Int):Df (KF N l fr to):=by
 unfold KF
 exact Df.cond (λ_=>Df.mk _) λ_=>(TN c _ _ _).bind λa _=>(TN c _ _ _).bind λb _=>Df.mk _
def jX (W:Nat) (f:List Int→Option (List Int×List Int)):Prop:=∀x,x.length=W→∃r,f x=some r∧r.1.length=W∧r.2.length=W
def mF (W:Nat) (l:List AK):Prop:=∀e∈l,jX W e.take
def mF.snoc {W:Nat}{l:List AK}(c:mF W l) {e:AK}(b:jX W e.take):mF W (l++[e]):=λx a=>by
 rcases oQ.1 a with a|a
 ·exact c x a
 ·rw[pJ.1 a];exact b
def WL {N:Nat}(i:1000000<N) (a b:List AK) (j:a.length≤100000) (k:b.length≤100000):CU N [a,b]=some (a++b):=by
 obtain⟨n,rfl⟩:∃n,N=n+3:=⟨N-3,by omega⟩
 have d:B0 ((a.length:Int)+(b.length:Int))=((a.length+b.length:Nat):Int):=by rw[DG (by omega) (by omega)];rfl
 have g:B0 (0+(a.length:Int))=((a.length:Nat):Int):=by rw[DG (by omega) (by omega)];omega
 have c:Cc (n+3) ((a.length+b.length:Nat):Int)=some []:=by
  unfold Cc CR
  rw[nL (show ¬((a.length+b.length:Nat):Int)<0 by omega),mX,DG (n:=(0:Int)-0) (by decide) (by decide),DG (n:=((a.length+b.length:Nat):Int)-(0-0)) (by omega) (by omega)]
  cases l:decide (0<((a.length+b.length:Nat):Int)-(0-0))
  ·rfl
  ·rw[mW,KC (by omega)]
   rfl
 unfold CU
 simp only[CD]
 rw[show decide ((0:Int)<(([a,b]:List (List AK)).length:Int))=true by simp,mW,show Go.Proofs.YtblcgjadhemlbaaGreat.ix [a,b] 0=some a from rfl,mV,g,nL (show ¬((a.length:Nat):Int)<0 by omega),mX,show B0 (0+1)=1 from rfl,show decide ((1:Int)<(([a,b]:List (List AK)).length:Int))=true by simp,mW,show Go.Proofs.YtblcgjadhemlbaaGreat.ix [a,b] 1=some b from rfl,mV,d,nL (show ¬((a.length+b.length:Nat):Int)<0 by omega),mX,show B0 (1+1)=2 from rfl,show decide ((2:Int)<(([a,b]:List (List AK)).length:Int))=false by simp,mX]
 unfold CO
 rw[c,mV]
 simp only[CC]
 rw[show decide ((0:Int)<(([a,b]:List (List AK)).length:Int))=true by simp,mW,show Go.Proofs.YtblcgjadhemlbaaGreat.ix [a,b] 0=some a from rfl,mV,KC (by simp;omega),show B0 (0+1)=1 from rfl,show decide ((1:Int)<(([a,b]:List (List AK)).length:Int))=true by simp,mW,show Go.Proofs.YtblcgjadhemlbaaGreat.ix [a,b] 1=some b from rfl,mV,KC (by simp;omega),show B0 (1+1)=2 from rfl,show decide ((2:Int)<(([a,b]:List (List AK)).length:Int))=false by simp,mX]
 rfl
def W8 {N:Nat}(a:18446744073709551616<N) (b:D1) (v m:Int):Df (IE N b v m):=by
 unfold IE Gj
 rw[Mp a,mV]
 exact Df.cond (λ_=>Df.mk _) λ_=>Df.cond (λ_=>Df.cond (λ_=>Df.mk _) λ_=>Df.mk _) λ_=>Df.cond (λ_=>Df.mk _) λ_=>Df.mk _
structure mE (P W:Nat) (o:List (List Int)) (out:List Int) (ms:List BA) (sn:List BE) (M:Nat):Prop where
 own:WN P W o
 out:out.length=W
 mv:ms.length≤M
 sn:sn.length≤M
def mE.le {P W:Nat}{o:List (List Int)}{out:List Int}{a:List BA}{b:List BE}{M c:Nat}(g:mE P W o out a b M) (d:M≤c):mE P W o out a b c:=⟨g.own,g.out,oZ g.mv d,oZ g.sn d⟩
end Go.Proofs.YtblcgjadhemlbaaGreat
namespace Go.Proofs.YtblcgjadhemlbaaGreat
set_option linter.all false
open Go.RowKit
end Go.Proofs.YtblcgjadhemlbaaGreat
namespace Go.Proofs.YtblcgjadhemlbaaGreat
set_option linter.all false
open Go.RowKit
def sl (N:Nat) (a b:Int):Int:=(Fk N a b).getD 0
def slN {b a q r:Nat}(hd:0<a) (g:b≤a) (c:q=b*1099511627776/a) (d:r=b*1099511627776%a):q≤1099511627776∧b*1099511627776=q*a+r∧r<a:=by
 refine⟨?_,by rw[c,d];exact VW _ _,by rw[d];exact pM _ hd⟩
 rw[c]
 exact Nat.div_le_of_le_mul (by rw[qI a];rw[qI b];exact Nat.mul_le_mul_left _ g)
structure eI (N:Nat) (b:AU) (l:BQ):Prop where
 base:JO b l
 gate:l.C=0→HX N l.Af.Bb l.Ba=some true∧HX N l.Ba l.Af.Bc=some true∧(0≤l.T∧l.T≤64)∧(0≤l.Z∧l.Z≤l.T)∧(0≤l.Ao∧l.Ao≤1125899906842624)∧(l.Ab=0→l.Ac=0)∧(l.D≠ -1∨l.Ab=0)
 weir:l.C=1∨l.C=5→0≤l.Ap∧l.Ap≤1125899906842624
 pump:l.C=2→(0≤l.S∧l.S≤1125899906842624)∧(1≤l.T∧l.T≤64)∧(0≤l.Z∧l.Z≤l.T)
 siph:l.C=3→(0≤l.Ah∧l.Ah≤1125899906842624)∧(0≤l.Ai∧l.Ai≤1125899906842624)∧l.Ai<l.Ah
 seep:l.C=4→(l.Ab=0→l.Ac=0)
 none_:l.C≠0→l.C≠2→l.T=0∧l.Z=0
def VL {a b:Int}(d:RQ a b=true):b=0→a=0:=by
 intro c
 simp only[RQ,mY,nN,nR] at d
 exact d.2.resolve_left λd=>d c
def UY {N:Nat}(t:18446744073709551616<N) {b:AU}{l:BQ}(d:JO b l) (V:FW N l=some true) (a:FU N l=some true):eI N b l:=by
 have H:=d.kind
 have k:l.C≠0→l.C≠2→l.T=0∧l.Z=0:=by
  intro h0 g
  unfold FU at a
  rw[nL h0,nW g] at a
  simp only[Bool.not_false,Bool.true_and] at a
  cases n:(decide (0<(l.Ba.length:Int))||decide (0<(l.Af.Bb.length:Int))||decide (0<(l.Af.Bc.length:Int))||decide (l.Ao≠0)) with
  |true=>rw[n] at a;cases a
  |false=>
   rw[n,mX] at a
   cases i:(decide (l.T≠0)||decide (l.Z≠0)) with
   |true=>rw[i] at a;cases a
   |false=>
    simp only[nZ,nV] at i
    exact⟨Decidable.not_not.1 i.1,Decidable.not_not.1 i.2⟩
 unfold FW at V
 by_cases k0:l.C=0
 ·obtain⟨n,i,A,I,J⟩:=d.gate k0
  obtain⟨K,u⟩:=N5 t l.Af.Bb l.Ba
  obtain⟨M,v⟩:=N5 t l.Ba l.Af.Bc
  rw[nW k0,mW,Ns (by omega) n,Ns (by omega) i,Ns (by omega) A] at V
  simp only[u,v,Lw,Kk,OK,mV,Fl,Nt] at V
  have V:=mZ V
  simp only[mY,nN,nR] at V
  obtain⟨⟨⟨⟨⟨⟨⟨⟨⟨_,_⟩,_⟩,o⟩,q⟩,B⟩,D⟩,F⟩,G⟩,s⟩:=V
  subst o;subst q
  exact⟨d,λ_=>⟨u,v,Jl B,Jl D,Jn F,VL G,s⟩,λV=>by omega,λV=>by omega,λV=>by omega,λV=>by omega,k⟩
 ·rw[nL k0,mX] at V
  have w:∀c:Bool,(c=true↔l.C=1∨l.C=5)→D0 N l c=some true→eI N b l:=by
   intro c x V
   unfold D0 at V
   simp only[Lw,Kk,OK,mV,Fl,Nt] at V
   cases c
   ·have Q:¬(l.C=1∨l.C=5):=λV=>by have:=x.2 V;cases this
    rw[mX] at V
    by_cases y:l.C=2
    ·rw[nW y,mW] at V
     have V:=mZ V
     simp only[mY] at V
     obtain⟨⟨m,g⟩,j⟩:=V
     exact⟨d,λV=>by omega,λV=>by omega,λ_=>⟨Jn m,Jl g,Jl j⟩,λV=>by omega,λV=>by omega,k⟩
    ·rw[nL y,mX] at V
     by_cases z:l.C=3
     ·rw[nW z,mW] at V
      have V:=mZ V
      simp only[mY,nR] at V
      obtain⟨⟨⟨⟨m,g⟩,j⟩,o⟩,q⟩:=V
      exact⟨d,λV=>by omega,λV=>by omega,λV=>by omega,λ_=>⟨Jn j,Jn o,q⟩,λV=>by omega,k⟩
     ·rw[nL z,mX] at V
      have V:=mZ V
      simp only[mY,nR] at V
      obtain⟨⟨⟨m,g⟩,j⟩,o⟩:=V
      exact⟨d,λV=>by omega,λV=>by omega,λV=>by omega,λV=>by omega,λ_=>VL j,k⟩
   ·have U:=x.1 rfl
    rw[mW] at V
    have V:=mZ V
    simp only[mY] at V
    obtain⟨⟨m,g⟩,j⟩:=V
    exact⟨d,λV=>by omega,λ_=>Jn m,λV=>by omega,λV=>by omega,λV=>by omega,k⟩
  by_cases p:l.C=1
  ·rw[nW p,mW] at V
   exact w true (by simp [p]) V
  ·rw[nL p,mX] at V
   exact w _ (by simp [p]) V
def WC {N:Nat}(c:18446744073709551616<N) {b:AU}(d:HD b) (p:∀l∈b.E,JO b l) (z:E3 N b=some true):∀l∈b.E,eI N b l:=by
 have v:=d.pl
 have w:=d.li
 unfold E3 at z
 rcases Ic b.E.length (Cu N b (Dc N)) (Dc N) (λi=>∀l,b.E[i]? =some l→eI N b l) (λn k z=>by
  simp only[Cu];rw[E7 z];rfl) (λn k z=>by
  simp only[Cu]
  obtain⟨x,g,y⟩:=RU c b.E[k]
  obtain⟨q,j⟩:=Q7 N b.E[k]
  rw[Ev z,mW,BS z]
  simp only[mV,Lw,OI N _ (show b.A.length<4611686018427387904 by omega),Ok N b _ _ (show b.A.length<4611686018427387904 by omega),g,j,Fl,KG,BX (show k<4611686018427387904 by omega)]
  generalize m:(_|| !q)=B
  cases B
  ·simp only[nZ,qD] at m
   obtain⟨⟨_,s⟩,t⟩:=m
   subst s;subst t
   refine .inr ⟨λl a=>?_,rfl⟩
   have:l=b.E[k]:=by simpa [z] using a.symm
   rw[this]
   exact UY c (p _ (nP z)) g j
  ·exact .inl rfl) N 0 (by omega) (nE _) with u|⟨hp,_⟩
 ·rw[show Cu N b (Dc N) N 0=some false from u] at z;cases z
 ·intro l a
  obtain⟨i,o,rfl⟩:=qE.1 a
  exact hp i (nE _) o _ (by simp [o])
def Holds (n:Nat) (s:List Int) (g:Nat→Int):Prop:=s.length=n∧∀i,i<n→s[i]? =some (g i)
def Holds.ix {n:Nat}{s:List Int}{g:Nat→Int}(c:Holds n s g) {a:Int}(h0:0≤a) (b:a<n):ix s a=some (g a.toNat):=by
 unfold Go.Proofs.YtblcgjadhemlbaaGreat.ix
 rw[nB (by omega)]
 exact c.2 _ (by omega)
def Holds.upd {n:Nat}{s:List Int}{g:Nat→Int}(j:Holds n s g) {a:Int}(h0:0≤a) (c:a<n) (v:Int):Holds n (upd s a v) (λi=>if (i:Int)=a then v else g i):=by
 refine⟨by rw[KL,j.1],λi b=>?_⟩
 unfold Go.Proofs.YtblcgjadhemlbaaGreat.upd
 rw[List.getElem?_set]
 have d:=j.1
 show _=some (if (i:Int)=a then v else g i)
 by_cases e:(i:Int)=a
 ·rw[nD (by omega),nD (by omega),nD e]
 ·rw[nB (by omega),nB e]
  exact j.2 i b
def Holds.congr {n:Nat}{s:List Int}{g a:Nat→Int}(c:Holds n s g) (e:∀i,i<n→g i=a i):Holds n s a:=⟨c.1,λi b=>(c.2 i b).trans (nF some (e i b))⟩
end Go.Proofs.YtblcgjadhemlbaaGreat
namespace Go.Proofs.YtblcgjadhemlbaaGreat
set_option linter.all false
open Go.RowKit
def mK (s:BD) (k:Nat):BH:=s.Q.getD k default
end Go.Proofs.YtblcgjadhemlbaaGreat
namespace Go.Proofs.YtblcgjadhemlbaaGreat
set_option linter.all false
open Go.RowKit
def gE (N:Nat) (l:BQ):Prop:=(0≤l.T∧l.T≤64)∧0≤l.Z∧l.Z≤l.T
def eI.pos {N:Nat}{b:AU}{l:BQ}(c:eI N b l):gE N l:=by
 by_cases h0:l.C=0
 ·have:=c.gate h0;exact⟨this.2.2.1,this.2.2.2.1⟩
 ·by_cases a:l.C=2
  ·have:=c.pump a;exact⟨⟨by omega,this.2.1.2⟩,this.2.2⟩
  ·have:=c.none_ h0 a;exact⟨by omega,by omega⟩
def Yv:HH BN=some true:=by decide +kernel
end Go.Proofs.YtblcgjadhemlbaaGreat
namespace Go.Proofs.YtblcgjadhemlbaaGreat
set_option linter.all false
open Go.RowKit
def Gp (p q:List Int):List Int:=List.zipWith (· + ·) p q
def IB (p q:List Int):List Int:=List.zipWith (· - ·) p q
def N4 {p q:List Int}{W:Nat}(a:p.length=W) (b:q.length=W):(Gp p q).length=W:=by simp [Gp,a,b]
def Wa {p q:List Int}{W:Nat}(a:p.length=W) (b:q.length=W):(IB p q).length=W:=by simp [IB,a,b]
def KW:∀{p q:List Int},p.length=q.length→(Gp p q).sum=p.sum+q.sum
 |[],[],_=>rfl
 |a::p,b::q,c=>by
  have:=KW (p:=p) (q:=q) (by simpa using c)
  simp only[Gp,List.zipWith_cons_cons,oU] at this ⊢
  omega
def Sx:∀{p q:List Int},p.length=q.length→(IB p q).sum=p.sum-q.sum
 |[],[],_=>rfl
 |a::p,b::q,c=>by
  have:=Sx (p:=p) (q:=q) (by simpa using c)
  simp only[IB,List.zipWith_cons_cons,oU] at this ⊢
  omega
structure PX (W:Nat) (p:List Int):Prop where
 len:p.length=W
 nn:∀x∈p,0≤x
 mv:p.sum≤1125899906842624
def Hg:∀{p:List Int},(∀x∈p,0≤x)→∀x∈p,x≤p.sum
 |a::p,g,x,b=>by
  have h0:=I0 (l:=p) λy c=>g y (oI _ c)
  have d:=g a (oB ..)
  rw[oU]
  rcases nM.1 b with rfl|b
  ·omega
  ·have:=Hg (p:=p) (λy c=>g y (oI _ c)) x b
   omega
def PX.mem {W:Nat}{p:List Int}(b:PX W p) {x:Int}(a:x∈p):0≤x∧x≤1125899906842624:=⟨b.nn x a,Int.le_trans (Hg b.nn x a) b.mv⟩
def PX.sum0 {W:Nat}{p:List Int}(a:PX W p):0≤p.sum:=I0 a.nn
def PZ {p q:List Int}(d:∀x∈p,0≤x) (g:∀x∈q,0≤x):∀x∈Gp p q,0≤x:=λx j=>by
 obtain⟨i,c⟩:=pS.1 j
 rw[Gp,qA] at c
 split at c
 ·rename_i a b k l
  have:=d a (oM k)
  have:=g b (oM l)
  cases c
  omega
 ·cases c
def PX.add {W:Nat}{p q:List Int}(a:PX W p) (b:PX W q) (c:p.sum+q.sum≤1125899906842624):PX W (Gp p q):=
 ⟨N4 a.len b.len,PZ a.nn b.nn,by rw[KW (a.len.trans b.len.symm)];exact c⟩
def PX.zero (W:Nat):PX W (List.replicate W 0):=⟨by simp,λx a=>by rw[(qL.1 a).2];exact oA 0,by simp⟩
def Rv (W:Nat):(List.replicate W (0:Int)).sum=0:=by simp
structure T6 (t p:List Int):Prop where
 len:t.length=p.length
 le:∀(i:Nat) (x y:Int),t[i]? =some x→p[i]? =some y→0≤x∧x≤y
def T6.sub {W:Nat}{t p:List Int}(z:T6 t p) (j:PX W p):PX W (IB p t)∧(IB p t).sum=p.sum-t.sum∧PX W t:=by
 have n:t.length=W:=z.len.trans j.len
 have d:∀x∈t,0≤x:=λx k=>by
  obtain⟨i,c⟩:=pS.1 k
  have l:=(nK.1 c).1
  have m:i<p.length:=by rw[←z.len];exact l
  exact(z.le i x _ c (nO m)).1
 have o:=Sx (p:=p) (q:=t) z.len.symm
 have g:∀x∈IB p t,0≤x:=λx k=>by
  obtain⟨i,c⟩:=pS.1 k
  rw[IB,qA] at c
  split at c
  ·rename_i a b s u
   have:=z.le i b a u s
   cases c
   omega
  ·cases c
 have v:=I0 g
 have w:=I0 d
 have y:=j.mv
 exact⟨⟨Wa j.len n,g,by omega⟩,o,n,d,by omega⟩
def Vt {W:Nat}{p t:List Int}(d:p.length=W) (g:t.length=W) (j:∀x∈t,x=0):IB p t=p:=by
 apply oR
 intro i
 rw[IB,qA]
 rcases nT i W with b|b
 ·have c:i<p.length:=by omega
  have a:i<t.length:=by omega
  rw[nO c,nO a]
  have:=j _ (nP a)
  simp [this]
 ·rw[oE (show p.length≤i by omega)]
def Su:∀{t:List Int},(∀x∈t,0≤x)→t.sum≤0→∀x∈t,x=0:=λ{t} g b x a=>by
 have c:=Hg g x a
 have d:=g x a
 omega
def S5 {N:Nat}(j:1000000<N) {p:List Int}(l:p.length≤1000) (h0:∀x∈p,0≤x) (m:p.sum≤2305843009213693952):ER N p=some p.sum:=by
 unfold ER
 obtain⟨s,⟨b,c⟩,e⟩:=EQ p.length (λn i s=>GZ N p (Hv N) n s i) (Hv N) (λk s=>s=(p.take k).sum∧0≤s) (λn k s a=>by
  simp only[GZ];rw[E7 a];rfl) (λn k s d a=>by
  obtain⟨b,c⟩:=d
  have g:=Fw h0 (k+1)
  have o:=Fw h0 k
  have q:=h0 _ (nP a)
  rw[Hf a] at g
  simp only[GZ]
  rw[Ev a,mW,BS a,mV,Sa N (by omega) (by omega) (by omega) (by omega),mV,BX (by omega)]
  exact⟨_,⟨by rw[Hf a,b],by omega⟩,rfl⟩) N 0 0 ⟨rfl,oA _⟩ (by omega) (nE _)
 rw[oL] at b
 subst b
 exact e
def U6 {N:Nat}(y:1000000<N) {p q:List Int}(t:p.length≤1000) (z:q.length=p.length) (u:∀x∈p, -2305843009213693952≤x∧x≤2305843009213693952) (v:∀x∈q, -2305843009213693952≤x∧x≤2305843009213693952):Gk N p q=some (Gp p q):=by
 unfold Gk
 have w:max (p.length:Int) (q.length:Int)=(p.length:Int):=by omega
 rw[w,IM t _ (by decide),SU]
 obtain⟨s,⟨o,j,l⟩,e⟩:=EQ q.length (λn i s=>Fi N q (HT N) n i s) (HT N) (λk s=>s.length=p.length∧(∀i,k≤i→s[i]? =p[i]?)∧∀i,i<k→s[i]? =(Gp p q)[i]?) (λn k s c=>by
  simp only[Fi];rw[E7 c];rfl) (λn k s g c=>by
  obtain⟨o,j,l⟩:=g
  simp only[Fi]
  have a:k<s.length:=by omega
  have b:k<p.length:=by omega
  have m:s[k]=p[k]:=by
   have:=j k (nJ _)
   rw[nO a,nO b] at this
   exact mZ this
  have A:=u _ (nP b)
  have B:=v _ (nP c)
  rw[Ev c,mW,BS c,mV,BS a,mV,mV,m,Sa N (by omega) (by omega) (by omega) (by omega),mV,mV,mV,BX (by omega)]
  refine⟨_,⟨by rw[K0];exact o,λi g=>by rw[IC (by omega)];exact j i (by omega),λi g=>?_⟩,rfl⟩
  by_cases d:k=i
  ·subst d
   rw[GO a,Gp,qA,nO b,nO c]
  ·rw[IC d];exact l i (by omega)) N 0 p ⟨rfl,λi _=>rfl,λi g=>by omega⟩ (by omega) (nE _)
 have:s=Gp p q:=oR λi=>by
  rcases nT i q.length with C|C
  ·exact l i C
  ·rw[oE (by omega),oE (by simp [Gp];omega)]
 subst this
 exact e
def T8 {N:Nat}(w:1000000<N) {p t:List Int}(q:p.length≤1000) (y:t.length=p.length) (u:∀x∈p, -2305843009213693952≤x∧x≤2305843009213693952) (v:∀x∈t, -2305843009213693952≤x∧x≤2305843009213693952):Hj N p t=some (IB p t):=by
 unfold Hj
 rw[IM q _ (by decide),SU]
 obtain⟨s,⟨o,j,l⟩,e⟩:=EQ t.length (λn i s=>Fa N t (G6 N) n i s) (G6 N) (λk s=>s.length=p.length∧(∀i,k≤i→s[i]? =p[i]?)∧∀i,i<k→s[i]? =(IB p t)[i]?) (λn k s c=>by
  simp only[Fa];rw[E7 c];rfl) (λn k s g c=>by
  obtain⟨o,j,l⟩:=g
  simp only[Fa]
  have a:k<s.length:=by omega
  have b:k<p.length:=by omega
  have m:s[k]=p[k]:=by
   have:=j k (nJ _)
   rw[nO a,nO b] at this
   exact mZ this
  have z:=u _ (nP b)
  have A:=v _ (nP c)
  rw[Ev c,mW,BS c,mV,BS a,mV,mV,mV,mV,m,DG (n:=p[k]-t[k]) (by omega) (by omega),BX (by omega)]
  refine⟨_,⟨by rw[K0];exact o,λi g=>by rw[IC (by omega)];exact j i (by omega),λi g=>?_⟩,rfl⟩
  by_cases d:k=i
  ·subst d
   rw[GO a,IB,qA,nO b,nO c]
  ·rw[IC d];exact l i (by omega)) N 0 p ⟨rfl,λi _=>rfl,λi g=>by omega⟩ (by omega) (nE _)
 have:s=IB p t:=oR λi=>by
  rcases nT i t.length with B|B
  ·exact l i B
  ·rw[oE (by omega),oE (by simp [IB];omega)]
 subst this
 exact e
def PX.big {W:Nat}{p:List Int}(b:PX W p):∀x∈p, -2305843009213693952≤x∧x≤2305843009213693952:=λx a=>by
 have:=b.mem a;omega
def PX.total {N W:Nat}(a:1000000<N) (b:W≤1000) {p:List Int}(c:PX W p):ER N p=some p.sum:=S5 a (by rw[c.len];exact b) c.nn (by have:=c.mv;omega)
def PX.padd {N W:Nat}(c:1000000<N) (d:W≤1000) {p q:List Int}(a:PX W p) (b:PX W q):Gk N p q=some (Gp p q):=U6 c (by rw[a.len];exact d) (b.len.trans a.len.symm) a.big b.big
def PX.wo {N W:Nat}(c:1000000<N) (d:W≤1000) {p t:List Int}(a:PX W p) (b:PX W t):Hj N p t=some (IB p t):=T8 c (by rw[a.len];exact d) (b.len.trans a.len.symm) a.big b.big
def L7:∀{l:List Int}{i:Nat}(b:i<l.length) (x:Int),(l.set i x).sum=l.sum-l[i]+x
 |a::l,0,_,x=>by simp;omega
 |a::l,i+1,b,x=>by
  have:=L7 (l:=l) (i:=i) (by simpa using b) x
  simp only[List.set_cons_succ,oU,List.getElem_cons_succ,this]
  omega
def ZF {N W:Nat}(A:1000000<N) (v:W≤1000) {p:List Int}(a:PX W p) (o n:Int):∃t,Ke N p o n=some (t,IB p t)∧T6 t p∧(t=List.replicate W 0∨∃i:Nat,o=(i:Int)∧i<W∧0<n∧0<p.getD i 0∧t=(List.replicate W 0).set i (min n (p.getD i 0)))∧((∃i:Nat,o=(i:Int)∧i<W∧0<n)→t=(List.replicate W 0).set o.toNat (min n (p.getD o.toNat 0))):=by
 have d:T6 (List.replicate W 0) p:=⟨by simp [a.len],λi x y b g=>by
  rw[qG] at b
  split at b
  ·cases b;exact⟨oA _,a.nn y (oM g)⟩
  ·cases b⟩
 have q:∀t,T6 t p→IT N p t=some (t,IB p t):=λt B=>by
  unfold IT
  rw[a.wo A v (B.sub a).2.2,mV]
 have C:List.replicate ((p.length:Int)).toNat (0:Int)=List.replicate W 0:=by rw[a.len];rfl
 unfold Ke Ji
 rw[IM (by rw[a.len];exact v) _ (by decide),C]
 by_cases D:0≤o∧o<W
 ·obtain⟨i,rfl⟩:∃i:Nat,o=i:=⟨o.toNat,by omega⟩
  have c:i<p.length:=by rw[a.len];omega
  have s:p.getD i 0=p[i]:=by simp [oT,c]
  have h0:=a.nn _ (nP c)
  rw[nL (show ¬(i:Int)<0 by omega),nL (show ¬(p.length:Int)≤(i:Int) by omega),pT,mX,BS c,mV,mV,nL (show ¬p[i]<0 by omega),mX,mV,mV]
  rw[oW,s]
  by_cases w:0<min n p[i]
  ·rw[nW w,mW,BS (show i<(List.replicate W (0:Int)).length by simp;omega),mV,mV]
   have z:T6 ((List.replicate W (0:Int)).set i (min n p[i])) p:=⟨by simp [a.len],λj x y b g=>by
    by_cases l:i=j
    ·subst l
     rw[pU (by simp;omega)] at b
     rw[nO c] at g
     cases b;cases g
     omega
    ·rw[pN l] at b
     exact d.le j x y b g⟩
   exact⟨_,q _ z,z,.inr ⟨i,rfl,by omega,by omega,by rw[s];omega,by rw[s];rfl⟩,λ_=>rfl⟩
  ·rw[nL w,mX]
   refine⟨_,q _ d,d,.inl rfl,λ⟨j,F,u,H⟩=>?_⟩
   have:min n p[i]=0:=by omega
   rw[this]
   apply oR
   intro k
   by_cases m:i=k
   ·subst m;rw[pU (by simp;omega),qG,nD (by omega)]
   ·rw[pN m]
 ·have G:(decide (o<0)||decide ((p.length:Int)≤o))=true:=by
   rw[a.len]
   simp only[nN,nR]
   omega
  rw[G,mW,mV,mW,mV,nL (show ¬0<min n 0 by omega),mX]
  exact⟨_,q _ d,d,.inl rfl,λ⟨j,F,u,_⟩=>absurd ⟨by omega,by omega⟩ D⟩
end Go.Proofs.YtblcgjadhemlbaaGreat
