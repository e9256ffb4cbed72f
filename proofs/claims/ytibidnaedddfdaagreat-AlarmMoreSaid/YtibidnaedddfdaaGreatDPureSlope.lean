import Derived.Test.YtibidnaedddfdaaGreatDPureAsk
namespace Go.Proofs.YtibidnaedddfdaaGreat
set_option linter.all false
open Go.RowKit
def sl (N:Nat) (a b:Int):Int:=(Dt N a b).getD 0
def slN {b a q r:Nat}(hd:0<a) (g:b≤a) (c:q=b*1099511627776/a) (d:r=b*1099511627776%a):q≤1099511627776∧b*1099511627776=q*a+r∧r<a:=by
 refine⟨?_,by rw[c,d];exact SY _ _,by rw[d];exact kN _ hd⟩
 rw[c]
 exact Nat.div_le_of_le_mul (by rw[lO a];rw[lO b];exact Nat.mul_le_mul_left _ g)
def Fc {N:Nat}(m:18446744073709551616<N) {num den:Int}(h0:0≤num∧num≤1125899906842624) (c:0≤den∧den≤1125899906842624):
  Dt N num den=some (sl N num den)∧0≤sl N num den∧sl N num den≤1099511627777∧(sl N num den≤1099511627776→(den=0→num=0)→Sz num den (sl N num den))∧(sl N num den≤1099511627776→den≠0→num*1099511627776≤sl N num den*den):=by
 suffices h:∃s,Dt N num den=some s∧0≤s∧s≤1099511627777∧(s≤1099511627776→(den=0→num=0)→Sz num den s)∧(s≤1099511627776→den≠0→num*1099511627776≤s*den) by
  obtain⟨s,e,h⟩:=h
  have:sl N num den=s:=by unfold sl;rw[e];rfl
  rw[this]
  exact⟨e,h⟩
 unfold Dt
 by_cases hd:den=0
 ·rw[iW hd,iN]
  exact⟨0,rfl,by decide,by decide,λ_ h=>⟨h0.1,by have:=h hd;omega,c.2,by decide,by rw[h hd,hd];decide⟩,λ_ h=>absurd hd h⟩
 ·rw[jD hd,iO]
  by_cases k:den<num
  ·rw[iW k,iN]
   exact⟨_,rfl,by decide,by decide,λh=>absurd h (by decide),λh=>absurd h (by decide)⟩
  ·rw[jD k,iO]
   obtain⟨a,rfl⟩:∃n:Nat,num=n:=⟨num.toNat,by omega⟩
   obtain⟨b,rfl⟩:∃n:Nat,den=n:=⟨den.toNat,by omega⟩
   have d:0<b:=by omega
   have g:a≤b:=by omega
   rw[D1 a (by omega),D1 b (by omega),show(1099511627776:Int)=((1099511627776:Nat):Int) from rfl,Nc N a 1099511627776 (by omega) (by omega),iM]
   have i:a*1099511627776/18446744073709551616<b:=by omega
   rw[SZ m _ _ _ (kN _ (by omega)) (by omega) i,←SY (a*1099511627776) 18446744073709551616,iM]
   obtain⟨t,o,u⟩:=slN d g rfl rfl
   generalize a*1099511627776/b=q at*
   generalize a*1099511627776%b=r at*
   have j:(a:Int)*1099511627776=q*b+r:=by rw[show (1099511627776:Int)=((1099511627776:Nat):Int) from rfl,←lX,o,Int.natCast_add,lX]
   by_cases p:r=0
   ·subst p
    rw[show decide (((0:Nat):Int)≠0)=false from rfl,iO]
    unfold GV
    rw[DE (by omega) (by omega)]
    refine⟨_,rfl,by omega,by omega,λ_ _=>⟨by omega,by omega,c.2,by omega,by rw[j];exact Int.le_of_eq (Int.add_zero _)⟩,λ_ _=>by show(a:Int)*1099511627776≤_;rw[j];exact Int.le_of_eq (Int.add_zero _)⟩
   ·rw[show decide ((r:Int)≠0)=true by simp;omega,iN]
    unfold GV
    rw[show ((q:Int)+1)=((q+1:Nat):Int) from rfl,D1 (q+1) (by omega),DE (by omega) (by omega)]
    have l:(a:Int)*1099511627776≤((q+1:Nat):Int)*b:=by
     rw[j,Int.natCast_add,Int.add_mul]
     omega
    exact⟨_,rfl,by omega,by omega,λ_ _=>⟨by omega,by omega,c.2,by omega,l⟩,λ_ _=>l⟩
def T1 {u:Type}(L:Nat) (f:Nat→Int→Int→Option u) (c:Int→Option u) (I:Nat→Int→Prop) (a:∀n (k:Nat) s,L≤k→f (n+1) s (k:Int)=c s) (b:∀n (k:Nat) s,I k s→k<L→1≤k→∃s',I (k+1) s'∧f (n+1) s (k:Int)=f n s' ((k+1:Nat):Int)):
  ∀n (k:Nat) s,I k s→1≤k→L<n+k→k≤L→∃s',I L s'∧f n s (k:Int)=c s'
 |0,k,s,_,_,h,i=>by omega
 |n+1,k,s,g,j,h,i=>by
  rcases jN k L with d|d
  ·obtain⟨l,m,o⟩:=b n k s g d j
   obtain⟨p,q,t⟩:=T1 L f c I a b n (k+1) l m (by omega) (by omega) (by omega)
   exact⟨p,q,o.trans t⟩
  ·have:k=L:=by omega
   subst this
   exact⟨s,g,a n k s d⟩
def So (N:Nat) (c:List BC) (m:Nat) (s:Int):Prop:=∀k l r,k+1<m→c[k]? =some l→c[k+1]? =some r→sl N (r.L-l.L) (r.G-l.G)≤s
def TA {N:Nat}(v:18446744073709551616<N) {c:List BC}(b:C1 c) (g:Int→Option Int) (a:Int) (j:0≤a∧a≤1099511627777):∃s,(a≤s∧s≤1099511627777∧So N c c.length s)∧CO N c g N a 1=g s:=by
 have w:=b.1
 have B:=b.2.1
 refine T1 c.length (CO N c g) g (λk s=>a≤s∧s≤1099511627777∧So N c k s) (λn k s d=>by
  simp only[CO];rw[FY d];rfl) (λn k s p d C=>?_) N 1 a ⟨kG _,j.2,λk l r h=>by omega⟩ (by omega) (by omega) w
 obtain⟨D,F,x⟩:=p
 have m:c[k]? =some c[k]:=by simp [d]
 have o:c[k-1]? =some c[k-1]:=by simp
 have H:=b.step o (q:=c[k]) (by rw[show k-1+1=k by omega];exact m)
 have y:=b.vol m
 have z:=b.vol o
 unfold Gh at y z
 simp only[CO]
 have A:B8 ((k:Int)-1)=((k-1:Nat):Int):=by rw[DE (by omega) (by omega)];omega
 rw[FX d,iN,A,Bv d,Bv (show k-1<c.length by omega)]
 simp only[iM,BV (show k<4611686018427387904 by omega)]
 rw[DE (n:=(c[k]).L-(c[k-1]).L) (by omega) (by omega),DE (n:=(c[k]).G-(c[k-1]).G) (by omega) (by omega)]
 obtain⟨v1,I,J,_⟩:=Fc v (num:=(c[k]).L-(c[k-1]).L) (den:=(c[k]).G-(c[k-1]).G) (by omega) (by omega)
 rw[v1]
 refine⟨_,⟨?_,?_,?_⟩,rfl⟩
 ·omega
 ·omega
 ·intro i l r p t u
  by_cases e:i+1=k
  ·subst e
   cases m.symm.trans u
   have:l=c[i+1-1]:=by
    have:=o.symm.trans (show c[i+1-1]? =some l by rw[mM];exact t)
    exact(jH this).symm
   rw[this]
   omega
  ·have:=x i l r (by omega) t u
   omega
def XV (N:Nat) (l:A7):Int:=(Er N [l.Af,l.U.B,l.U.A]).getD 0
def O9 {N:Nat}(b:18446744073709551616<N) {l:A7}(g:C1 l.Af) (i:C1 l.U.B) (j:C1 l.U.A):Er N [l.Af,l.U.B,l.U.A]=some (XV N l)∧0≤XV N l∧XV N l≤1099511627777∧So N l.U.B l.U.B.length (XV N l):=by
 suffices h:∃s,Er N [l.Af,l.U.B,l.U.A]=some s∧0≤s∧s≤1099511627777∧So N l.U.B l.U.B.length s by
  obtain⟨s,e,h⟩:=h
  have:XV N l=s:=by unfold XV;rw[e];rfl
  rw[this]
  exact⟨e,h⟩
 unfold Er
 obtain⟨M,rfl⟩:∃M,N=M+4:=⟨N-4,by omega⟩
 obtain⟨c,⟨u,v,_⟩,m⟩:=TA b g (Ci (M+4) 0 (CB (M+4) [l.Af,l.U.B,l.U.A] (CP (M+4)) (M+3))) 0 (by omega)
 obtain⟨d,⟨w,z,n⟩,o⟩:=TA b i (Ci (M+4) 1 (CB (M+4) [l.Af,l.U.B,l.U.A] (CP (M+4)) (M+2))) c (by omega)
 obtain⟨a,⟨C,D,_⟩,p⟩:=TA b j (Ci (M+4) 2 (CB (M+4) [l.Af,l.U.B,l.U.A] (CP (M+4)) (M+1))) d (by omega)
 refine⟨a,?_,by omega,by omega,λk x y h q t=>by have:=n k x y h q t;omega⟩
 show CO (M+4) l.Af (Ci (M+4) 0 (CB (M+4) [l.Af,l.U.B,l.U.A] (CP (M+4)) (M+3))) (M+4) 0 1=some a
 rw[m]
 show CO (M+4) l.U.B (Ci (M+4) 1 (CB (M+4) [l.Af,l.U.B,l.U.A] (CP (M+4)) (M+2))) (M+4) c 1=some a
 rw[o]
 show CO (M+4) l.U.A (Ci (M+4) 2 (CB (M+4) [l.Af,l.U.B,l.U.A] (CP (M+4)) (M+1))) (M+4) d 1=some a
 rw[p]
 rfl
def Xj {N:Nat}(o:18446744073709551616<N) {c:List BC}(b:C1 c) {s:Int}(h0:0≤s) (y:s≤1099511627776) (h:So N c c.length s):bU (Hy c) s:=by
 intro k l r g a
 have t:=Jq b k l r g a
 rcases MY g with ⟨rfl,e⟩|⟨m,rfl,hm⟩|⟨rfl,e⟩
 ·have u:c[0]? =some r:=by rw[←L7 c (by have:=b.1;omega)];exact a
  have d:l.L=r.L:=by rw[e,←MO u]
  rw[d,Int.sub_self,Int.zero_mul]
  exact lR h0 (by omega)
 ·have v:=(jF.1 hm).1
  by_cases d:m+1<c.length
  ·rw[L7 c d] at a
   have w:=h m l r d hm a
   have v1:=b.vol hm
   have x:=b.vol a
   unfold Gh at v1 x
   obtain⟨_,_,_,_,q⟩:=Fc o (num:=r.L-l.L) (den:=r.G-l.G) (by omega) (by omega)
   have q:=q (by omega) (by omega)
   exact kR q (jT w (by omega))
  ·have i:m+1=c.length:=by omega
   rw[i,QY] at a
   cases a
   have j:=MN (c:=c) (p:=l) (by rw[←i,mM];exact hm)
   rw[j,Int.sub_self,Int.zero_mul]
   rw[j] at t
   exact lR h0 (by omega)
 ·have n:(Hy c).length=c.length+2:=by simp [Hy]
  have:=(jF.1 a).1
  omega
structure fM (N:Nat) (b:AU) (l:A7):Prop where
 base:IJ b l
 gate:l.C=0→EC N l.U.B l.Af=some true∧EC N l.Af l.U.A=some true∧(0≤l.Q∧l.Q≤64)∧(0≤l.Ab∧l.Ab≤l.Q)∧(0≤l.Ad∧l.Ad≤1125899906842624)∧(l.Y=0→l.Aa=0)∧(l.E≠ -1∨l.Y=0)
 weir:l.C=1∨l.C=5→0≤l.O∧l.O≤1125899906842624
 pump:l.C=2→(0≤l.N∧l.N≤1125899906842624)∧(1≤l.Q∧l.Q≤64)∧(0≤l.Ab∧l.Ab≤l.Q)
 siph:l.C=3→(0≤l.Ak∧l.Ak≤1125899906842624)∧(0≤l.Ae∧l.Ae≤1125899906842624)∧l.Ae<l.Ak
 seep:l.C=4→(l.Y=0→l.Aa=0)
 none_:l.C≠0→l.C≠2→l.Q=0∧l.Ab=0
def UA {a b:Int}(h:QT a b=true):b=0→a=0:=by
 intro c
 simp only[QT,iQ,jC,jG] at h
 exact h.2.resolve_left λh=>h c
def TR {N:Nat}(t:18446744073709551616<N) {b:AU}{l:A7}(d:IJ b l) (h:Ev N l=some true) (a:Eu N l=some true):fM N b l:=by
 have J:=d.kind
 have k:l.C≠0→l.C≠2→l.Q=0∧l.Ab=0:=by
  intro h0 g
  unfold Eu at a
  rw[jD h0,iW g] at a
  simp only[Bool.not_false,lC] at a
  cases n:(decide (0<(l.Af.length:Int))||decide (0<(l.U.B.length:Int))||decide (0<(l.U.A.length:Int))||decide (l.Ad≠0)) with
  |true=>rw[n] at a;cases a
  |false=>
   rw[n,iO] at a
   cases i:(decide (l.Q≠0)||decide (l.Ab≠0)) with
   |true=>rw[i] at a;cases a
   |false=>
    simp only[jP,jK] at i
    exact⟨Decidable.not_not.1 i.1,Decidable.not_not.1 i.2⟩
 unfold Ev at h
 by_cases k0:l.C=0
 ·obtain⟨n,i,D,K,M⟩:=d.gate k0
  obtain⟨V,u⟩:=NM t l.U.B l.Af
  obtain⟨W,v⟩:=NM t l.Af l.U.A
  rw[iW k0,iN,JD (by omega) n,JD (by omega) i,JD (by omega) D] at h
  simp only[u,v,Kk,Jv,Ng,iM,E7,OG] at h
  have h:=jH h
  simp only[iQ,jC,jG] at h
  obtain⟨⟨⟨⟨⟨⟨⟨⟨⟨_,_⟩,_⟩,o⟩,q⟩,F⟩,G⟩,H⟩,I⟩,s⟩:=h
  subst o;subst q
  exact⟨d,λ_=>⟨u,v,Ij F,Ij G,I5 H,UA I,s⟩,λh=>by omega,λh=>by omega,λh=>by omega,λh=>by omega,k⟩
 ·rw[jD k0,iO] at h
  have w:∀c:Bool,(c=true↔l.C=1∨l.C=5)→Dd N l c=some true→fM N b l:=by
   intro c x h
   unfold Dd at h
   simp only[Kk,Jv,Ng,iM,E7,OG] at h
   cases c
   ·have X:¬(l.C=1∨l.C=5):=λh=>by have:=x.2 h;cases this
    rw[iO] at h
    by_cases y:l.C=2
    ·rw[iW y,iN] at h
     have h:=jH h
     simp only[iQ] at h
     obtain⟨⟨m,g⟩,j⟩:=h
     exact⟨d,λh=>by omega,λh=>by omega,λ_=>⟨I5 m,Ij g,Ij j⟩,λh=>by omega,λh=>by omega,k⟩
    ·rw[jD y,iO] at h
     by_cases z:l.C=3
     ·rw[iW z,iN] at h
      have h:=jH h
      simp only[iQ,jG] at h
      obtain⟨⟨⟨⟨m,g⟩,j⟩,o⟩,q⟩:=h
      exact⟨d,λh=>by omega,λh=>by omega,λh=>by omega,λ_=>⟨I5 j,I5 o,q⟩,λh=>by omega,k⟩
     ·rw[jD z,iO] at h
      have h:=jH h
      simp only[iQ,jG] at h
      obtain⟨⟨⟨m,g⟩,j⟩,o⟩:=h
      exact⟨d,λh=>by omega,λh=>by omega,λh=>by omega,λh=>by omega,λ_=>UA j,k⟩
   ·have Y:=x.1 rfl
    rw[iN] at h
    have h:=jH h
    simp only[iQ] at h
    obtain⟨⟨m,g⟩,j⟩:=h
    exact⟨d,λh=>by omega,λ_=>I5 m,λh=>by omega,λh=>by omega,λh=>by omega,k⟩
  by_cases p:l.C=1
  ·rw[iW p,iN] at h
   exact w true (by simp [p]) h
  ·rw[jD p,iO] at h
   exact w _ (by simp [p]) h
def Uq {N:Nat}(c:18446744073709551616<N) {b:AU}(d:HX b) (p:∀l∈b.F,IJ b l) (h:EY N b=some true):∀l∈b.F,fM N b l:=by
 have v:=d.pl
 have w:=d.li
 unfold EY at h
 rcases Fl b.F.length (Cd N b (DM N)) (DM N) (λi=>∀l,b.F[i]? =some l→fM N b l) (λn k h=>by
  simp only[Cd];rw[FY h];rfl) (λn k h=>by
  simp only[Cd]
  obtain⟨x,g,y⟩:=QX c b.F[k]
  obtain⟨q,j⟩:=QH N b.F[k]
  rw[FX h,iN,Bv h]
  simp only[iM,Kk,Nf N _ (show b.D.length<4611686018427387904 by omega),N8 N b _ _ (show b.D.length<4611686018427387904 by omega),g,j,E7,JE,BV (show k<4611686018427387904 by omega)]
  generalize m:(_|| !q)=B
  cases B
  ·simp only[jP,kY] at m
   obtain⟨⟨_,s⟩,t⟩:=m
   subst s;subst t
   refine .inr ⟨λl a=>?_,rfl⟩
   have:l=b.F[k]:=by simpa [h] using a.symm
   rw[this]
   exact TR c (p _ (jQ h)) g j
  ·exact .inl rfl) N 0 (by omega) (iU _) with u|⟨hp,_⟩
 ·rw[show Cd N b (DM N) N 0=some false from u] at h;cases h
 ·intro l a
  obtain⟨i,o,rfl⟩:=kV.1 a
  exact hp i (iU _) o _ (by simp [o])
def KK (N:Nat) (l:A7):Int:=if l.C=0 then XV N l else if l.C=1∨l.C=5∨l.C=3 then sl N l.N l.H else if l.C=4 then 2*sl N l.N l.H else 0
def Lm (N:Nat) (l:A7):Int:=if l.C=0∧l.E≠ -1 then sl N l.Aa l.Y else if l.C=4 then 2*sl N l.Aa l.Y else 0
def L8 (N:Nat) (l:A7) (i:Nat):Int:=(if l.I=(i:Int) then KK N l else 0)+(if l.E=(i:Int) then Lm N l else 0)
def El {n:Int}(h:Gh n):0≤n∧n≤1125899906842624:=h
def PD {N:Nat}(a:18446744073709551616<N) {b:AU}{l:A7}(d:IJ b l):(0≤KK N l∧KK N l≤2199023255554)∧(0≤Lm N l∧Lm N l≤2199023255554):=by
 unfold KK Lm
 by_cases k0:l.C=0
 ·obtain⟨k,m,n,o,p⟩:=d.gate k0
  obtain⟨_,v,w,_⟩:=O9 a k m n
  obtain⟨_,j,t2,_⟩:=Fc a (El o) (El p)
  rw[iR k0]
  refine⟨by omega,?_⟩
  split
  ·omega
  ·rw[iP (by omega)];omega
 ·rw[iP k0,iP (show ¬(l.C=0∧l.E≠ -1) from λh=>k0 h.1)]
  by_cases g:l.C=1∨l.C=5∨l.C=3
  ·obtain⟨i,q,s⟩:=d.part g
   obtain⟨_,j,t2,_⟩:=Fc a (El i) (show 0≤l.H∧l.H≤_ by omega)
   rw[iR g,iP (by omega)]
   omega
  ·rw[iP g]
   by_cases c:l.C=4
   ·obtain⟨i,q,s,t,u,_⟩:=d.seep c
    obtain⟨_,j,t2,_⟩:=Fc a (El i) (show 0≤l.H∧l.H≤_ by omega)
    obtain⟨_,x,y,_⟩:=Fc a (El t) (El u)
    rw[iR c,iR c]
    omega
   ·rw[iP c,iP c]
    omega
def Wj {N:Nat}(a:18446744073709551616<N) {b:AU}{l:A7}(c:IJ b l) (i:Nat):0≤L8 N l i∧L8 N l i≤4398046511108:=by
 obtain⟨d,g⟩:=PD a c
 unfold L8
 split<;>split<;>omega
def Holds (n:Nat) (s:List Int) (a:Nat→Int):Prop:=s.length=n∧∀i,i<n→s[i]? =some (a i)
def Holds.ix {n:Nat}{s:List Int}{c:Nat→Int}(h:Holds n s c) {a:Int}(h0:0≤a) (b:a<n):ix s a=some (c a.toNat):=by
 unfold Go.Proofs.YtibidnaedddfdaaGreat.ix
 rw[iP (by omega)]
 exact h.2 _ (by omega)
def Holds.upd {n:Nat}{s:List Int}{j:Nat→Int}(h:Holds n s j) {a:Int}(h0:0≤a) (c:a<n) (v:Int):Holds n (upd s a v) (λi=>if (i:Int)=a then v else j i):=by
 refine⟨by rw[JH,h.1],λi b=>?_⟩
 unfold Go.Proofs.YtibidnaedddfdaaGreat.upd
 rw[List.getElem?_set]
 have d:=h.1
 show _=some (if (i:Int)=a then v else j i)
 by_cases e:(i:Int)=a
 ·rw[iR (by omega),iR (by omega),iR e]
 ·rw[iP (by omega),iP e]
  exact h.2 i b
def Holds.congr {n:Nat}{s:List Int}{c a:Nat→Int}(h:Holds n s c) (e:∀i,i<n→c i=a i):Holds n s a:=⟨h.1,λi b=>(h.2 i b).trans (jA some (e i b))⟩
def To {N:Nat}(u:18446744073709551616<N) (b:AU) (M:HX b) (hl:∀l∈b.F,IJ b l) (w:List Int→Option Bool):∀(n k:Nat) (s:List Int) (g:Nat→Int),Holds b.D.length s g→(∀i,0≤g i∧g i≤(1+4*(k:Int))*1099511627777)→b.F.length<n+k→k≤b.F.length→
  ∃s',Holds b.D.length s' (λi=>g i+((b.F.drop k).map λl=>L8 N l i).sum)∧BI N b w n (k:Int) s=w s'
 |0,k,s,g,q,_,h,hk=>by omega
 |n+1,k,s,g,q,hg,h,hk=>by
  have q3:=M.pl
  have q4:=M.li
  simp only[BI]
  rcases jN k b.F.length with p|p
  ·rw[FX p,iN,Bv p]
   simp only[iM]
   have v:=hl b.F[k] (jQ p)
   rw[mT p]
   generalize b.F[k]=l at v
   have sp:=PD u v
   have aa:=v.to
   have j:=v.fr
   have B:∀s:List Int,Holds b.D.length s (λi=>g i+L8 N l i)→∃s',Holds b.D.length s' (λi=>g i+((l::b.F.drop (k+1)).map λl=>L8 N l i).sum)∧B3 N (k:Int) (BI N b w n) s=w s':=λs q=>by
    unfold B3
    rw[BV (show k<4611686018427387904 by omega)]
    obtain⟨s',G,Q⟩:=To u b M hl w n (k+1) s _ q (λi=>by have:=hg i;have:=Wj u v i;omega) (by omega) (by omega)
    exact⟨s',G.congr λi _=>by simp only[jZ,List.sum_cons];omega,Q⟩
   have m:∀i,0≤g i∧g i≤4503599627370496:=λi=>by have:=hg i;omega
   have U:=q.ix j.1 j.2
   have gx:=m l.I.toNat
   have V:∀c:Bool,(c=true↔l.C=1∨l.C=5∨l.C=3)→l.C≠0→∃s',Holds b.D.length s' (λi=>g i+((l::b.F.drop (k+1)).map λl=>L8 N l i).sum)∧Cv N s l (B3 N (k:Int) (BI N b w n)) c=w s':=λc p k0=>by
    unfold Cv
    cases c
    ·have hn:¬(l.C=1∨l.C=5∨l.C=3):=λh=>by have:=p.2 h;cases this
     rw[iO]
     by_cases x:l.C=4
     ·rw[iW x,iN]
      obtain⟨G,Q,h3,h4,h5,h6⟩:=v.seep x
      obtain⟨J,v1,v2,_⟩:=Fc u (El G) (show 0≤l.H∧l.H≤_ by omega)
      obtain⟨y,v3,v4,_⟩:=Fc u (El h4) (El h5)
      have A:=q.upd j.1 j.2 (B8 (g l.I.toNat+B8 (2*sl N l.N l.H)))
      have z:=A.ix (a:=l.E) (by omega) (by omega)
      simp only[U,J,z,y,iM]
      refine B _ ((A.upd (a:=l.E) (by omega) (by omega) _).congr λi W=>?_)
      have gi:=m i
      have gt:=m l.E.toNat
      unfold L8 KK Lm
      rw[iP k0,iP hn,iR x,iP (show ¬(l.C=0∧l.E≠ -1) from λh=>k0 h.1),iR x]
      rw[DE (n:=2*sl N l.N l.H) (by omega) (by omega),DE (n:=2*sl N l.Aa l.Y) (by omega) (by omega),DE (n:=g l.I.toNat+2*sl N l.N l.H) (by omega) (by omega)]
      by_cases t:(i:Int)=l.E
      ·have X:l.E.toNat=i:=by omega
       rw[iR t,iR t.symm,X]
       by_cases d:(i:Int)=l.I
       ·have o:l.I.toNat=i:=by omega
        rw[iR d,iR d.symm,o,DE (by omega) (by omega)]
        omega
       ·rw[iP d,iP (show ¬l.I=(i:Int) from λh=>d h.symm),DE (by omega) (by omega)]
        omega
      ·rw[iP t,iP (show ¬l.E=(i:Int) from λh=>t h.symm)]
       by_cases d:(i:Int)=l.I
       ·have o:l.I.toNat=i:=by omega
        rw[iR d,iR d.symm,o]
        omega
       ·rw[iP d,iP (show ¬l.I=(i:Int) from λh=>d h.symm)]
        omega
     ·rw[jD x,iO]
      refine B s (q.congr λi _=>?_)
      unfold L8 KK Lm
      rw[iP k0,iP hn,iP x,iP (show ¬(l.C=0∧l.E≠ -1) from λh=>k0 h.1),iP x]
      split<;>split<;>omega
    ·have hy:=p.1 rfl
     rw[iN]
     obtain⟨G,Q,h3⟩:=v.part hy
     obtain⟨J,v1,v2,_⟩:=Fc u (El G) (show 0≤l.H∧l.H≤_ by omega)
     simp only[U,J,iM]
     refine B _ ((q.upd j.1 j.2 _).congr λi W=>?_)
     unfold L8 KK Lm
     rw[iP k0,iR hy,iP (show ¬(l.C=0∧l.E≠ -1) from λh=>k0 h.1),iP (show ¬l.C=4 by omega),DE (by omega) (by omega)]
     by_cases d:(i:Int)=l.I
     ·have o:l.I.toNat=i:=by omega
      rw[iR d,iR d.symm,o]
      split<;>omega
     ·rw[iP d,iP (show ¬l.I=(i:Int) from λh=>d h.symm)]
      split<;>omega
   by_cases k0:l.C=0
   ·rw[iW k0,iN]
    obtain⟨c1,c2,c3,c4,c5⟩:=v.gate k0
    obtain⟨J,v1,v2,_⟩:=O9 u c1 c2 c3
    obtain⟨y,v3,v4,_⟩:=Fc u (El c4) (El c5)
    have A:=q.upd j.1 j.2 (B8 (g l.I.toNat+XV N l))
    simp only[U,J,iM]
    by_cases K:l.E= -1
    ·rw[show decide (l.E≠ -1)=false by simp [K],iO]
     refine B _ (A.congr λi W=>?_)
     unfold L8 KK Lm
     rw[iR k0,iP (show ¬(l.C=0∧l.E≠ -1) from λh=>h.2 K),iP (show ¬l.C=4 by omega),DE (by omega) (by omega)]
     by_cases d:(i:Int)=l.I
     ·have o:l.I.toNat=i:=by omega
      rw[iR d,iR d.symm,o]
      split<;>omega
     ·rw[iP d,iP (show ¬l.I=(i:Int) from λh=>d h.symm)]
      split<;>omega
    ·rw[show decide (l.E≠ -1)=true by simp [K],iN]
     have z:=A.ix (a:=l.E) (by omega) (by omega)
     simp only[z,y,iM]
     refine B _ ((A.upd (a:=l.E) (by omega) (by omega) _).congr λi W=>?_)
     have gi:=m i
     have gt:=m l.E.toNat
     unfold L8 KK Lm
     rw[iR k0,iR (show l.C=0∧l.E≠ -1 from⟨k0,K⟩),DE (n:=g l.I.toNat+XV N l) (by omega) (by omega)]
     by_cases t:(i:Int)=l.E
     ·have X:l.E.toNat=i:=by omega
      rw[iR t,iR t.symm,X]
      by_cases d:(i:Int)=l.I
      ·have o:l.I.toNat=i:=by omega
       rw[iR d,iR d.symm,o,DE (by omega) (by omega)]
       omega
      ·rw[iP d,iP (show ¬l.I=(i:Int) from λh=>d h.symm),DE (by omega) (by omega)]
       omega
     ·rw[iP t,iP (show ¬l.E=(i:Int) from λh=>t h.symm)]
      by_cases d:(i:Int)=l.I
      ·have o:l.I.toNat=i:=by omega
       rw[iR d,iR d.symm,o]
       omega
      ·rw[iP d,iP (show ¬l.I=(i:Int) from λh=>d h.symm)]
       omega
   ·rw[jD k0,iO]
    by_cases Z:l.C=1
    ·rw[iW Z,iN]
     exact V true ⟨λ_=> .inl Z,λ_=>rfl⟩ k0
    ·rw[jD Z,iO]
     by_cases k5:l.C=5
     ·rw[iW k5,iN]
      exact V true ⟨λ_=> .inr (.inl k5),λ_=>rfl⟩ k0
     ·rw[jD k5,iO]
      exact V _ ⟨λh=> .inr (.inr (by simpa using h)),λh=>by simp;omega⟩ k0
  ·rw[FY p]
   refine⟨s,q.congr λi _=>?_,rfl⟩
   rw[lG p]
   simp
def TC {N:Nat}(q:18446744073709551616<N) {b:AU}(t:HX b) (y:∀p∈b.D,I0 b p) (G:∀l∈b.F,IJ b l) (h:EG N b=some true):
  ∀(i:Nat) p,b.D[i]? =some p→sl N p.N p.H+(b.F.map λl=>L8 N l i).sum≤1099511627776:=by
 have V:=t.pl
 have W:=t.li
 unfold EG at h
 rw[show Kj (b.D.length:Int) (b.D.length:Int) 8=true by simp [Kj];omega] at h
 simp only[chk,iN] at h
 obtain⟨u,I,J⟩:=HZ b.D.length (λn i s=>CV N b (CF N b) n i s) (CF N b) (λk s=>Holds b.D.length s (λi=>if i<k then sl N ((b.D.getD i default).N) ((b.D.getD i default).H) else 0)) (λn k s d=>by
  simp only[CV];rw[FY d];rfl) (λn k s c d=>by
  have j:=y b.D[k] (jQ d)
  obtain⟨z,v1,K,_⟩:=Fc q (El j.num) (El j.den)
  have o:=c.ix (a:=(k:Int)) (by omega) (by omega)
  simp only[CV]
  rw[FX d,iN,Bv d]
  simp only[iM,z,o,BV (show k<4611686018427387904 by omega)]
  refine⟨_,(c.upd (a:=(k:Int)) (by omega) (by omega) (sl N b.D[k].N b.D[k].H)).congr λi M=>?_,rfl⟩
  by_cases e:i=k
  ·subst e
   rw[iR rfl,iR (by omega),jY,jE d]
   rfl
  ·rw[iP (by omega)]
   by_cases A:i<k
   ·rw[iR A,iR (by omega)]
   ·rw[iP A,iP (by omega)]) N 0 (List.replicate ((b.D.length:Int):Int).toNat 0) ⟨by simp,λi c=>by simp [c]⟩ (by omega) (iU _)
 rw[show CV N b (CF N b) N 0 (List.replicate ((b.D.length:Int):Int).toNat 0)=CF N b u from J] at h
 unfold CF at h
 have v:∀i,0≤(if i<b.D.length then sl N ((b.D.getD i default).N) ((b.D.getD i default).H) else 0)∧(if i<b.D.length then sl N ((b.D.getD i default).N) ((b.D.getD i default).H) else 0)≤(1+4*((0:Nat):Int))*1099511627777:=by
  intro i
  split
  ·rename_i c
   have j:=y b.D[i] (jQ c)
   obtain⟨z,v1,K,_⟩:=Fc q (El j.num) (El j.den)
   rw[jY,jE c]
   simp only[jO]
   omega
  ·omega
 obtain⟨g,B,Q⟩:=To q b t G (B4 N) N 0 u _ I v (by omega) (iU _)
 rw[show BI N b (B4 N) N 0 u=B4 N g from Q] at h
 unfold B4 at h
 have U:=B.1
 rcases Fl g.length (CU N g (C2 N)) (C2 N) (λi=>∀x,g[i]? =some x→x≤1099511627776) (λn k h=>by
  simp only[CU];rw[FY h];rfl) (λn k h=>by
  simp only[CU]
  rw[FX h,iN,Bv h]
  simp only[iM,BV (show k<4611686018427387904 by omega)]
  by_cases o:1099511627776<g[k]
  ·rw[iW o];exact .inl rfl
  ·rw[jD o]
   refine .inr ⟨λx e=>?_,rfl⟩
   rw[jE h] at e
   cases e
   omega) N 0 (by omega) (iU _) with w|⟨w,_⟩
 ·rw[show CU N g (C2 N) N 0=some false from w] at h;cases h
 ·intro i p m
  have c:=(jF.1 m).1
  have C:(if i<b.D.length then sl N (b.D.getD i default).N (b.D.getD i default).H else 0)+((b.F.drop 0).map λl=>L8 N l i).sum≤1099511627776:=w i (iU _) (by omega) _ (B.2 i c)
  rw[iR c,jY,m] at C
  exact C
structure Mw (N:Nat) (b:AU):Prop where
 head:HX b
 places:∀p∈b.D,I0 b p
 links:∀l∈b.F,IJ b l
 lk:∀l∈b.F,Sv N l (KK N l) (Lm N l)
 ctr0:∀l∈b.F,∀i,0≤L8 N l i
 rt:∀p∈b.D,p.H≠0→Sz p.N p.H (sl N p.N p.H)
 rt0:∀p∈b.D,0≤sl N p.N p.H
 sums:∀(i:Nat) p,b.D[i]? =some p→sl N p.N p.H+(b.F.map λl=>L8 N l i).sum≤1099511627776
def gQ {N:Nat}(a:18446744073709551616<N) {b:AU}{l:A7}(h:fM N b l) (c:KK N l≤1099511627776) (g:l.E≠ -1→Lm N l≤1099511627776):Sv N l (KK N l) (Lm N l):=by
 have j:=h.base
 have x:=PD a j
 have hk:=j.kind
 refine⟨x.1.1,x.2.1,λk0=>?_,λQ=>?_,λk=>⟨(h.pump k).1,(h.pump k).2.1⟩,λy=>?_,λp=>?_,?_⟩
 ·obtain⟨z,q,D,U,V⟩:=j.gate k0
  obtain⟨t,u,v,W,F,G,X⟩:=h.gate k0
  obtain⟨_,Z,s2,s3⟩:=O9 a z q D
  have i:KK N l=XV N l:=by unfold KK;rw[iR k0]
  rw[i] at c ⊢
  refine⟨z,q,D,t,u,v,F,Xj a q Z c s3,λI=>?_⟩
  have w:Lm N l=sl N l.Aa l.Y:=by unfold Lm;rw[iR (show l.C=0∧l.E≠ -1 from⟨k0,I⟩)]
  have g:=g I
  rw[w] at g ⊢
  exact(Fc a (El U) (El V)).2.2.2.1 g G
 ·obtain⟨m,J,K⟩:=j.part (by omega)
  have i:KK N l=sl N l.N l.H:=by unfold KK;rw[iP (show ¬l.C=0 by omega),iR (show l.C=1∨l.C=5∨l.C=3 by omega)]
  rw[i] at c ⊢
  exact⟨(Fc a (El m) (show 0≤l.H∧l.H≤_ by omega)).2.2.2.1 c (λh=>by omega),h.weir Q⟩
 ·obtain⟨m,J,K⟩:=j.part (by omega)
  have i:KK N l=sl N l.N l.H:=by unfold KK;rw[iP (show ¬l.C=0 by omega),iR (show l.C=1∨l.C=5∨l.C=3 by omega)]
  rw[i] at c ⊢
  exact⟨(Fc a (El m) (show 0≤l.H∧l.H≤_ by omega)).2.2.2.1 c (λh=>by omega),(h.siph y).1,(h.siph y).2.1⟩
 ·obtain⟨m,J,K,p4,p5,M⟩:=j.seep p
  have i:KK N l=2*sl N l.N l.H:=by unfold KK;rw[iP (show ¬l.C=0 by omega),iP (show ¬(l.C=1∨l.C=5∨l.C=3) by omega),iR p]
  have w:Lm N l=2*sl N l.Aa l.Y:=by unfold Lm;rw[iP (show ¬(l.C=0∧l.E≠ -1) by omega),iR p]
  have g:=g M
  rw[i] at c ⊢
  rw[w] at g ⊢
  obtain⟨_,a1,_,a2,_⟩:=Fc a (El m) (show 0≤l.H∧l.H≤_ by omega)
  obtain⟨_,b1,_,b2,_⟩:=Fc a (El p4) (El p5)
  have A:=a2 (by omega) (λh=>by omega)
  have B:=b2 (by omega) (h.seep p)
  have o:∀{n d s:Int},Sz n d s→Sz n d (2*s):=λ{n d s} h=>by
   have h0:=h.n0
   have h1:=h.nd
   have h2:=h.s0
   refine⟨h0,h1,h.dm,by omega,kR h.sl (jT (by omega) (by omega))⟩
  exact⟨o A,o B,M⟩
 ·by_cases k0:l.C=0
  ·obtain⟨t,u,v,W,F,G,X⟩:=h.gate k0
   omega
  ·by_cases k:l.C=2
   ·obtain⟨t,u,v⟩:=h.pump k
    omega
   ·have:=h.none_ k0 k
    omega
def aR {N:Nat}(j:18446744073709551616<N) {b:AU}(h:G5 N b=some true):Mw N b∧JM b:=by
 obtain⟨v,e,k⟩:=R5 j b
 rw[h] at e
 cases e
 have k:=k rfl
 have m:EY N b=some true∧EG N b=some true:=by
  unfold G5 at h
  obtain⟨y9,_,h⟩:=bd h
  obtain⟨aa,ab,h⟩:=bd h
  obtain⟨ac,ad,h⟩:=bd h
  obtain⟨ae,w,h⟩:=bd h
  obtain⟨af,A,h⟩:=bd h
  obtain⟨ag,B,h⟩:=bd h
  obtain⟨ah,C,h⟩:=bd h
  obtain⟨ai,G,h⟩:=bd h
  obtain⟨aj,J,h⟩:=bd h
  have n:∀{c:Bool} {x:Option Bool} {d:Bool},cond c (x.bind λy=>some y) (some false)=some d→d=true→c=true∧x=some true:=by
   intro c x d K hd
   subst hd
   cases c
   ·cases K
   ·cases x with
    |none=>cases K
    |some y=>exact⟨rfl,K⟩
  have M:=jH h
  have Q:=n J M
  have U:=n G Q.1
  have V:=n C U.1
  have o:=n B V.1
  have W:=n A o.1
  have X:=n w W.1
  exact⟨X.2,o.2⟩
 have lf:=Uq j k.head k.links m.1
 have sm:=TC j k.head k.places k.links m.2
 have t:∀l∈b.F,∀i,0≤L8 N l i:=λl a i=>(Wj j (k.links l a) i).1
 have Y:∀p∈b.D,0≤sl N p.N p.H:=λp q=>(Fc j (El (k.places p q).num) (El (k.places p q).den)).2.1
 have one:∀l∈b.F,∀(i:Nat),i<b.D.length→L8 N l i≤1099511627776:=λl a i u=>by
  have g:=sm i _ (jE u)
  have h2:=Y _ (jQ u)
  obtain⟨x,y,e⟩:=List.append_of_mem a
  have hx:0≤(x.map λl=>L8 N l i).sum:=Qz λz s=>t z (by rw[e];simp [s]) i
  have hy:0≤(y.map λl=>L8 N l i).sum:=Qz λz s=>t z (by rw[e];simp [s]) i
  have e2:(b.F.map λl=>L8 N l i).sum=(x.map λl=>L8 N l i).sum+(L8 N l i+(y.map λl=>L8 N l i).sum):=by
   rw[e,List.map_append,mP,jZ,List.sum_cons]
  omega
 refine⟨⟨k.head,k.places,k.links,λl a=>?_,t,λp q hd=>?_,Y,sm⟩,k⟩
 ·have sp:=PD j (k.links l a)
  have fr:=(k.links l a).fr
  have to:=(k.links l a).to
  refine gQ j (lf l a) ?_ λht=>?_
  ·have g:=one l a l.I.toNat (by omega)
   unfold L8 at g
   rw[iR (show l.I=((l.I.toNat:Nat):Int) by omega)] at g
   split at g<;>omega
  ·have g:=one l a l.E.toNat (by omega)
   unfold L8 at g
   rw[iR (show l.E=((l.E.toNat:Nat):Int) by omega)] at g
   split at g<;>omega
 ·obtain⟨i,u,rfl⟩:=kV.1 q
  have g:=sm i _ (jE u)
  have h2:0≤(b.F.map λl=>L8 N l i).sum:=Qz λz s=>t z s i
  have Z:=k.places _ q
  exact(Fc j (El Z.num) (El Z.den)).2.2.2.1 (by omega) (λh=>absurd h hd)
end Go.Proofs.YtibidnaedddfdaaGreat
