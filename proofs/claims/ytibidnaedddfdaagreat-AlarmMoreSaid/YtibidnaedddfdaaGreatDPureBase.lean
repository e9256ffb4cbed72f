import Derived.Test.YtibidnaedddfdaaGreatDPureRight2
namespace Go.Proofs.YtibidnaedddfdaaGreat
set_option linter.all false
open Go.RowKit
def V4 (N:Nat) (n z:Int):Ej N n z=some (V3 n 0 (B8 (z-1))):=rfl
structure RT (b:AU) (t:Fk):Prop where
 place:0≤t.Ah∧t.Ah<b.D.length
 flood:Gh t.Bc
 lead:0≤t.Az∧t.Az≤24
 watch:Gh t.Bd
 quorum:0≤t.Aw∧t.Aw≤128
def VW {N:Nat}(w:1000<N) (b:AU) (a:HX b):∃v,Gd N b=some v∧(v=true→∀t∈b.Ac,RT b t):=by
 have x:=a.pl
 have y:=a.to
 have z:=a.sh
 have j:Df (Dk N b):=by
  unfold Dk
  rcases Fl b.Aq.length (Di N b (E4 N)) (E4 N) (λ_=>True) (λn k h=>by
   simp only[Di];rw[FY h];rfl) (λn k h=>by
   simp only[Di]
   rw[FX h,iN,Bv h]
   simp only[iM,Kk,BV (show k<4611686018427387904 by omega)]
   cases V3 (b.Aq[k]).Ap 0 1073741824
   ·exact .inl rfl
   ·exact .inr ⟨trivial,rfl⟩) N 0 (by omega) (iU _) with h|⟨_,h⟩
  ·exact⟨_,h⟩
  ·exact⟨true,h⟩
 unfold Gd
 rcases Fl b.Ac.length (Dj N b (Dk N b)) (Dk N b) (λi=>∀t,b.Ac[i]? =some t→RT b t) (λn k h=>by
  simp only[Dj];rw[FY h];rfl) (λn k h=>by
  simp only[Dj]
  rw[FX h,iN,Bv h]
  simp only[iM,Kk,Jv,Nf N _ (show b.D.length<4611686018427387904 by omega),E7,JE,BV (show k<4611686018427387904 by omega)]
  generalize d:(_|| !V3 (b.Ac[k]).Aw 0 128)=B
  cases B
  ·simp only[jP,kY] at d
   obtain⟨⟨⟨⟨⟨l,m⟩,o⟩,A⟩,p⟩,q⟩:=d
   refine .inr ⟨λt c=>?_,rfl⟩
   have:t=b.Ac[k]:=by simpa [h] using c.symm
   rw[this]
   have s:=Ij l
   exact⟨⟨s.1,by omega⟩,I5 m,Ij o,I5 p,Ij q⟩
  ·exact .inl rfl) N 0 (by omega) (iU _) with h|⟨hp,h⟩
 ·exact⟨false,h,λh=>by cases h⟩
 ·obtain⟨v,u⟩:=j
  refine⟨v,h.trans u,λ_ t c=>?_⟩
  obtain⟨i,g,rfl⟩:=kV.1 c
  exact hp i (iU _) g _ (by simp [g])
def Uy {N:Nat}(j:1000<N) (b:AU) (c:HX b):Df (GH N b):=by
 have m:=c.ga
 unfold GH
 rcases Fl b.Am.length (Dc N b (Es N)) (Es N) (λ_=>True) (λn k h=>by
  simp only[Dc];rw[FY h];rfl) (λn k h=>by
  simp only[Dc]
  rw[FX h,iN,Bv h]
  simp only[iM,Kk,V4,E7,JE,BV (show k<4611686018427387904 by omega)]
  generalize a:(_|| !V3 (b.Am[k]).Bl 0 1440)=B
  cases B
  ·simp only[jP,kY] at a
   have d:=Ij a.1.1
   obtain⟨z,g⟩:=Df.ix (l:=[(b.D.length:Int),b.W,(b.F.length:Int)]) (i:=(b.Am[k]).C) d.1 (by simp;omega)
   rw[g]
   simp only[iO,iM]
   cases V3 (b.Am[k]).T 0 (B8 (z-1))
   ·exact .inl rfl
   ·exact .inr ⟨trivial,rfl⟩
  ·exact .inl rfl) N 0 (by omega) (iU _) with h|⟨_,h⟩
 ·exact⟨_,h⟩
 ·exact⟨true,h⟩
def Vl {N:Nat}(d:1000<N) (b:AU) (a:HX b):Df (Ge N b):=by
 have g:=a.ro
 unfold Ge
 rcases Fl b.An.length (Dl N b (E5 N)) (E5 N) (λ_=>True) (λn k h=>by
  simp only[Dl];rw[FY h];rfl) (λn k h=>by
  simp only[Dl]
  rw[FX h,iN,Bv h]
  simp only[iM,Kk,Jv,V4,E7,JE,OG,BV (show k<4611686018427387904 by omega)]
  generalize (_|| !Qm (b.An[k]).Bk)=B
  cases B
  ·simp only[iO]
   generalize ((decide ((b.An[k]).Bi= -1)&&decide ((b.An[k]).Bk≠0))||_)=c
   cases c
   ·exact .inr ⟨trivial,rfl⟩
   ·exact .inl rfl
  ·exact .inl rfl) N 0 (by omega) (iU _) with h|⟨_,h⟩
 ·exact⟨_,h⟩
 ·exact⟨true,h⟩
structure JM (b:AU):Prop where
 head:HX b
 places:∀p∈b.D,I0 b p
 links:∀l∈b.F,IJ b l
 towns:∀t∈b.Ac,RT b t
def chainB {b:Bool}{x:Option Bool}{f:Bool→Option Bool}(Q:Prop) {G:Option Bool→Prop}(h:b=true→∃v,x=some v∧(v=true→Q)) (k:∀c,(c=true→b=true∧Q)→G (f c)):G ((cond b (x.bind λy=>some y) (some false)).bind f):=by
 cases b
 ·exact k false λh=>by cases h
 ·obtain⟨v,a,d⟩:=h rfl
  rw[a]
  exact k v λg=>⟨rfl,d g⟩
def Df.q {x:Option Bool}(h:Df x):∃v,x=some v∧(v=true→True):=by obtain⟨v,a⟩:=h;exact⟨v,a,λ_=>trivial⟩
def R5 {N:Nat}(s:18446744073709551616<N) (b:AU):∃v,G5 N b=some v∧(v=true→JM b):=by
 have a:1000<N:=by omega
 unfold G5
 obtain⟨H,z,k⟩:=X2 a b
 rw[z]
 simp only[iM]
 refine chainB True (G:=λx=>∃v,x=some v∧(v=true→JM b)) (λh=>(Vr a (k h)).q) λI u=>?_
 refine chainB (∀p∈b.D,I0 b p) (G:=λx=>∃v,x=some v∧(v=true→JM b)) (λh=>Um a b (k (u h).1)) λA w=>?_
 have m:A=true→HX b∧∀p∈b.D,I0 b p:=λh=>⟨k (u (w h).1).1,(w h).2⟩
 refine chainB (∀l∈b.F,IJ b l) (G:=λx=>∃v,x=some v∧(v=true→JM b)) (λh=>Vw s b (m h).1) λB n=>?_
 have c:B=true→HX b∧(∀p∈b.D,I0 b p)∧∀l∈b.F,IJ b l:=λh=>⟨(m (n h).1).1,(m (n h).1).2,(n h).2⟩
 refine chainB True (G:=λx=>∃v,x=some v∧(v=true→JM b)) (λh=>(TM a b (c h).1 (c h).2.1 (c h).2.2).q) λJ g=>?_
 refine chainB True (G:=λx=>∃v,x=some v∧(v=true→JM b)) (λh=>(Ui s b (c (g h).1).1 (c (g h).1).2.1 (c (g h).1).2.2).q) λK i=>?_
 refine chainB (∀t∈b.Ac,RT b t) (G:=λx=>∃v,x=some v∧(v=true→JM b)) (λh=>VW a b (c (g (i h).1).1).1) λM j=>?_
 refine chainB True (G:=λx=>∃v,x=some v∧(v=true→JM b)) (λh=>(Uy a b (c (g (i (j h).1).1).1).1).q) λQ o=>?_
 refine chainB True (G:=λx=>∃v,x=some v∧(v=true→JM b)) (λh=>(Vl a b (c (g (i (j (o h).1).1).1).1).1).q) λC y=>?_
 refine⟨C,rfl,λh=>?_⟩
 have d:=c (g (i (j (o (y h).1).1).1).1).1
 exact⟨d.1,d.2.1,d.2.2,(j (o (y h).1).1).2⟩
end Go.Proofs.YtibidnaedddfdaaGreat
namespace Go.Proofs.YtibidnaedddfdaaGreat
set_option linter.all false
open Go.RowKit
def HZ {σ t:Type}(L:Nat) (f:Nat→Int→σ→Option t) (c:σ→Option t) (I:Nat→σ→Prop) (a:∀n (k:Nat) s,L≤k→f (n+1) (k:Int) s=c s) (b:∀n (k:Nat) s,I k s→k<L→∃s',I (k+1) s'∧f (n+1) (k:Int) s=f n ((k+1:Nat):Int) s'):
  ∀n (k:Nat) s,I k s→L<n+k→k≤L→∃s',I L s'∧f n (k:Int) s=c s'
 |0,k,s,_,h,i=>by omega
 |n+1,k,s,g,h,i=>by
  rcases jN k L with d|d
  ·obtain⟨j,l,m⟩:=b n k s g d
   obtain⟨o,p,q⟩:=HZ L f c I a b n (k+1) j l (by omega) (by omega)
   exact⟨o,p,m.trans q⟩
  ·have:k=L:=by omega
   subst this
   exact⟨s,g,a n k s d⟩
def Nd (L:Nat) (f:Nat→Int→Option Bool) (m:Option Bool) (c:Nat→Bool) (a:∀n (k:Nat),L≤k→f (n+1) (k:Int)=m) (b:∀n (k:Nat),k<L→f (n+1) (k:Int)=cond (c k) (f n ((k+1:Nat):Int)) (some false)):
  ∀n (k:Nat),L<n+k→k≤L→((∀i,k≤i→i<L→c i=true)∧f n (k:Int)=m)∨((∃i,k≤i∧i<L∧c i=false)∧f n (k:Int)=some false)
 |0,k,h,q=>by omega
 |n+1,k,h,q=>by
  rcases jN k L with j|j
  ·have d:=b n k j
   cases l:c k with
   |false=>rw[l] at d;exact .inr ⟨⟨k,jB _,j,l⟩,d⟩
   |true=>
    rw[l] at d
    rcases Nd L f m c a b n (k+1) (by omega) (by omega) with ⟨p,o⟩|⟨⟨i,p,o,h4⟩,h5⟩
    ·refine .inl ⟨λi s g=>?_,d.trans o⟩
     by_cases e:i=k
     ·subst e;exact l
     ·exact p i (by omega) g
    ·exact .inr ⟨⟨i,by omega,o,h4⟩,d.trans h5⟩
  ·exact .inl ⟨λi s g=>by omega,a n k j⟩
def VX {l:List Int}{k:Nat}(h:k<l.length):(l.take (k+1)).sum=(l.take k).sum+l[k]:=by
 rw[mD h,mP];simp
def Qr:∀{l:List Int},(∀x∈l,0≤x)→0≤l.sum
 |[],_=>by simp
 |a::l,h=>by
  have c:=h a (kI ..)
  have d:=Qr (l:=l) λx b=>h x (kS _ b)
  simp only[List.sum_cons];omega
def OP {l:List Int}(h:∀x∈l,0≤x) (k:Nat):0≤(l.take k).sum∧(l.take k).sum≤l.sum:=by
 have b:=Qr (l:=l.take k) λx a=>h x (List.mem_of_mem_take a)
 have c:=Qr (l:=l.drop k) λx a=>h x (nA a)
 have d:(l.take k).sum+(l.drop k).sum=l.sum:=by rw[←mP,mU]
 omega
def OK (N:Nat) {a b:Int}(l: -4611686018427387903≤a) (m:a≤4611686018427387903) (n: -4611686018427387903≤b) (o:b≤4611686018427387903):Ex N a b=some (a+b):=by
 unfold Ex
 have d:B8 (a+b)=a+b:=DE (by omega) (by omega)
 by_cases p:0<b
 ·have i:B8 (9223372036854775807-b)=9223372036854775807-b:=DE (by omega) (by omega)
  rw[i,d]
  have g:decide (9223372036854775807-b<a)=false:=by simp;omega
  have c:decide (b<0)=false:=by simp;omega
  rw[g,c];simp
 ·have g:decide (0<b)=false:=by simp;omega
  rw[g]
  by_cases j:b<0
  ·have k:B8 (-9223372036854775808-b)= -9223372036854775808-b:=DE (by omega) (by omega)
   have c:decide (a< -9223372036854775808-b)=false:=by simp;omega
   rw[k,d,c];simp
  ·have c:decide (b<0)=false:=by simp;omega
   rw[c,d];simp
def I6 (N:Nat) {a b:Int}(l: -4611686018427387903≤a) (m:a≤4611686018427387903) (n: -4611686018427387903≤b) (o:b≤4611686018427387903):Dg N a b=some (a-b):=by
 unfold Dg
 have d:B8 (a-b)=a-b:=DE (by omega) (by omega)
 by_cases p:b<0
 ·have i:B8 (9223372036854775807+b)=9223372036854775807+b:=DE (by omega) (by omega)
  have g:decide (9223372036854775807+b<a)=false:=by simp;omega
  have c:decide (0<b)=false:=by simp;omega
  rw[i,d,g,c];simp
 ·have g:decide (b<0)=false:=by simp;omega
  rw[g]
  by_cases j:0<b
  ·have k:B8 (-9223372036854775808+b)= -9223372036854775808+b:=DE (by omega) (by omega)
   have c:decide (a< -9223372036854775808+b)=false:=by simp;omega
   rw[k,d,c];simp
  ·have c:decide (0<b)=false:=by simp;omega
   rw[c,d];simp
def Up {α}{f:α→Int}{l:List α}{k:Nat}(h:k<l.length):((l.take (k+1)).map f).sum=((l.take k).map f).sum+f l[k]:=by
 rw[mD h,List.map_append,mP];simp
def Qz {α}{f:α→Int}{l:List α}(h:∀x∈l,0≤f x):0≤(l.map f).sum:=Qr λy a=>by
 obtain⟨x,b,rfl⟩:=kM.1 a;exact h x b
def QR (a t b t':Int):Prop:=a<b∨(a=b∧t<t')
instance (a t a' t':Int):Decidable (QR a t a' t'):=by unfold QR;infer_instance
def Pf (x y:Int):Int:=if x<y then -1 else if y<x then 1 else 0
def Pd (N:Nat) (x y:Int):F9 N x y=some (Pf x y):=by
 unfold F9 Hi Pf
 have c:decide (x≠x)=false:=by simp
 have d:decide (y≠y)=false:=by simp
 simp only[c,d,iM,iO]
 by_cases a:x<y
 ·simp [a]
 ·by_cases b:y<x<;>simp [a,b]
def Zj {N:Nat}(g:5<N) (x y:Int):Iw N [x,y]=some (if x≠0 then x else y):=by
 obtain⟨n,rfl⟩:∃n,N=n+3:=⟨N-3,by omega⟩
 have c:B8 (0+1)=1:=DE (by omega) (by omega)
 have d:B8 (1+1)=2:=DE (by omega) (by omega)
 unfold Iw
 simp only[Gn,Hj,c,d]
 by_cases a:x=0
 ·subst a
  by_cases b:y=0
  ·subst b;simp [ix]
  ·simp [ix,b]
 ·simp [ix,a]
def PN (x y:B9):Int:=if Pf x.X y.X≠0 then Pf x.X y.X else Pf x.E y.E
def PM {N:Nat}(a:5<N) (x y:B9):Eo N x y=some (PN x y):=by
 unfold Eo
 rw[Pd,Pd]
 simp only[iM]
 rw[Zj a]
 rfl
def UO {x y:Int}:Pf x y<0↔x<y:=by unfold Pf;split<;>first|omega|(split<;>omega)
def RH {x y:Int}:Pf x y=0↔x=y:=by unfold Pf;split<;>first|omega|(split<;>omega)
def Na {x y:B9}:PN x y<0↔QR x.X x.E y.X y.E:=by
 unfold PN QR
 have b:= @UO x.X y.X
 have a:= @RH x.X y.X
 have c:= @UO x.E y.E
 by_cases h:Pf x.X y.X=0
 ·rw[iP (by simp [h])]
  have:=a.1 h
  rw[c]
  omega
 ·rw[iR h]
  have:x.X≠y.X:=λe=>h (a.2 e)
  rw[b]
  omega
def Xr {x y:B9}:PN x y=0↔x.X=y.X∧x.E=y.E:=by
 unfold PN
 have a:= @RH x.X y.X
 have b:= @RH x.E y.E
 by_cases h:Pf x.X y.X=0
 ·rw[iP (by simp [h])]
  have:=a.1 h
  rw[b]
  exact⟨λe=>⟨this,e⟩,λe=>e.2⟩
 ·rw[iR h]
  exact⟨λe=>absurd e h,λe=>absurd (a.2 e.1) h⟩
abbrev iJ:= @BH
def W3 {N:Nat}(q:List B9) (t:B9) (c:B9×B9→Option Int) (f:B9→Int) (k:∀x,c (x,t)=some (f x)) (s:q.length<4398048411104) (d:Int→Option (Int×Bool)):
  ∀(n i j:Nat),i≤j→j≤q.length→j-i<n→(∀(m:Nat) x,m<i→q[m]? =some x→f x<0)→(∀(m:Nat) x,j≤m→q[m]? =some x→¬f x<0)→(∀(m u:Nat) x v,m≤u→q[m]? =some x→q[u]? =some v→f v<0→f x<0)→
   ∃r:Nat,A3 N q t c d n (i:Int) (j:Int)=d (r:Int)∧r≤q.length∧(∀(m:Nat) x,m<r→q[m]? =some x→f x<0)∧(∀(m:Nat) x,r≤m→q[m]? =some x→¬f x<0)
 |0,i,j,z,l,A,_,_,_=>by omega
 |n+1,i,j,z,l,A,w,y,g=>by
  simp only[A3]
  rcases jN i j with a|a
  ·rw[FX a,iN,Vs (by omega)]
   have o:(i+j)/2<q.length:=by omega
   rw[Bv o]
   simp only[iM,k]
   cases hd:decide (f q[(i+j)/2]<0) with
   |true=>
    simp only[jG] at hd
    rw[iN,BV (by omega)]
    exact W3 q t c f k s d n _ j (by omega) l (by omega) (λm x b p=>g m ((i+j)/2) x _ (by omega) p (jE o) hd) y g
   |false=>
    simp only[jK] at hd
    rw[iO]
    exact W3 q t c f k s d n i _ (by omega) (by omega) (by omega) w (λm x b p B=>hd (g ((i+j)/2) m _ x b (jE o) p B)) g
  ·have:i=j:=by omega
   subst this
   rw[FY (jB _),iO]
   exact⟨i,rfl,l,w,y⟩
def XY (q:List B9):Prop:=q.Pairwise λx y=>QR x.X x.E y.X y.E
def QQ {a t d t' b c:Int}(g:QR a t d t') (i:QR d t' b c):QR a t b c:=by unfold QR at *;omega
def fE {N:Nat}(z:9007199254740992<N) (q:List B9) (n:XY q) (o:q.length<4398048411104) (t:B9):∃r:Nat,iJ N q t (λx=>Eo N x.1 x.2)=some ((r:Int),decide (∃x,q[r]? =some x∧x.X=t.X∧x.E=t.E))∧r≤q.length∧(∀(m:Nat) x,m<r→q[m]? =some x→QR x.X x.E t.X t.E)∧(∀(m:Nat) x,r≤m→q[m]? =some x→¬QR x.X x.E t.X t.E):=by
 unfold iJ BH
 have p:=nC.1 n
 obtain⟨r,d,s,u,v⟩:=W3 (N:=N) q t (λx=>Eo N x.1 x.2) (λx=>PN x t) (λx=>PM (by omega) _ _) o (A9 N q t λx=>Eo N x.1 x.2) N 0 q.length (iU _) (jB _) (by omega) (λm x c=>by omega) (λm x c a=>by have:=(jF.1 a).1;omega) (λm g x A c a i j=>by
  rw[Na] at j ⊢
  obtain⟨w,l⟩:=jF.1 a
  obtain⟨y,k⟩:=jF.1 i
  rcases jN m g with h|h
  ·have:=p m g w y h
   rw[l,k] at this
   exact QQ this j
  ·have:m=g:=by omega
   subst this
   rw[l] at k
   rw[k];exact j)
 refine⟨r,?_,s,λm x c a=>Na.1 (u m x c a),λm x c a b=>v m x c a (Na.2 b)⟩
 have d:A3 N q t (λx=>Eo N x.1 x.2) (A9 N q t λx=>Eo N x.1 x.2) N 0 (q.length:Int)=_:=d
 rw[d]
 unfold A9
 rcases jN r q.length with b|b
 ·rw[FX b,iN,Bv b]
  simp only[iM,PM (N:=N) (by omega)]
  congr 2
  rw[decide_eq_decide]
  simp only[Xr]
  refine⟨λh=>⟨_,jE b,h⟩,λ⟨x,a,h⟩=>?_⟩
  rw[jE b] at a
  cases a
  exact h
 ·rw[FY b,iO]
  simp only[iM]
  congr 2
  symm
  simp only[jK]
  rintro⟨x,a,_⟩
  rw[List.getElem?_eq_none b] at a
  cases a
abbrev fV (e:B9):Int×Int:=(e.X,e.E)
def Xh {q:List B9}:XY q↔(q.map fV).Pairwise λx y=>QR x.1 x.2 y.1 y.2:=by
 unfold XY;rw[List.pairwise_map]
def Xg {q:List B9}(h:XY q) {r:Nat}(a:r<q.length) {e:B9}(b:fV e=fV q[r]):XY (q.set r e):=by
 rw[Xh] at h ⊢
 rw[List.map_set,b,←List.getElem_map fV (h:=by simpa using a),List.set_getElem_self]
 exact h
def Xw {a t:Int}:¬QR a t a t:=by unfold QR;omega
def Xv {a t b t':Int}(h:¬QR a t b t') (c:¬(a=b∧t=t')):QR b t' a t:=by unfold QR at *;omega
def TP (N:Nat) (s:AH):HQ N s=some ⟨min s.B 1125899906842624,min s.A 1125899906842624⟩:=rfl
def Za {n a:Nat}(h:n*a≤175921860444160) (b:a≤274877906944) {α}(x:Option α):chk (room n a) x=x:=by
 unfold chk room;rw[iW b,Bool.and_true,iW h,Bool.or_true];rfl
def PI {n a:Nat}(h:n*a≤140737488355328) {α}(x:Option α):chk (room n a) x=x:=by
 unfold chk room;rw[iW h];rfl
def T4 {i:Type}(L:Nat) (f:Nat→Int→Option i) (c:Option i) (a:∀n (k:Nat),L≤k→f (n+1) (k:Int)=c) (b:∀n (k:Nat),k<L→f (n+1) (k:Int)=f n ((k+1:Nat):Int)):
  ∀n (k:Nat),L<n+k→k≤L→f n (k:Int)=c
 |0,k,h,g=>by omega
 |n+1,k,h,g=>by
  rcases jN k L with d|d
  ·rw[b n k d];exact T4 L f c a b n (k+1) (by omega) (by omega)
  ·exact a n k d
def SU (a b:AH):P3 a.v b.v=(decide (a.B=b.B)&&decide (a.A=b.A)):=by simp [P3,XW]
def N6 (N:Nat) (a b:AH):G4 N a b=some (decide (b.B≤a.B)&&decide (a.A≤b.A)):=by
 unfold G4 H2
 simp only[iM,SU]
 congr 1
 rw[Bool.eq_iff_iff]
 simp only[iQ,jG]
 omega
end Go.Proofs.YtibidnaedddfdaaGreat
