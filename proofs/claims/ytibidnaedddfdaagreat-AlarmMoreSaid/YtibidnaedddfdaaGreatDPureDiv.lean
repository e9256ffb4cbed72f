import Derived.Test.YtibidnaedddfdaaGreatDPureBits
namespace Go.Proofs.YtibidnaedddfdaaGreat
set_option linter.all false
open Go.RowKit
def Df.mk {α}(v:α):Df (some v):=⟨v,rfl⟩
def Df.bind {α β}{a:Option α}{f:α→Option β}(h:Df a) (k:∀v,a=some v→Df (f v)):Df (a.bind f):=by
 obtain⟨v,b⟩:=h
 obtain⟨u,c⟩:=k v b
 exact⟨u,by rw[b];exact c⟩
def Df.cond {α}{b:Bool}{x y:Option α}(a:b=true→Df x) (c:b=false→Df y):Df (cond b x y):=by
 cases b
 ·exact c rfl
 ·exact a rfl
def E7 {α}(b:Bool) (x y:α):cond b (some x) (some y)=some (cond b x y):=by cases b<;>rfl
def Bv {α}{l:List α}{i:Nat}(h:i<l.length):ix l (i:Int)=some l[i]:=by simp [ix,h]
def Df.ix {α}{l:List α}{i:Int}(h0:0≤i) (h:i<l.length):Df (ix l i):=by
 obtain⟨j,rfl⟩:∃j:Nat,i=j:=⟨i.toNat,by omega⟩
 exact⟨_,Bv (by omega)⟩
def DE {n:Int}(h0: -9223372036854775808≤n) (a:n≤9223372036854775807):B8 n=n:=My ⟨h0,a⟩
def Zz {n:Int}:∃j,M8 (IntKind.u64.wrap n)=some j∧(j:Int)=IntKind.u64.wrap n:=by
 have:=(Lc.1 (EN .u64 n)).1
 exact⟨(IntKind.u64.wrap n).toNat,by unfold M8;rw[iP (by omega)],by omega⟩
def TJ {k:IntKind}{x y:Int}(h:y≠0):Df (Od k x y):=⟨_,by unfold Od;rw[iP h]⟩
def Zb {x y:Int}(h:y≠0):Df (Qv x y):=⟨_,by unfold Qv;rw[iP h]⟩
def Wh (N:Nat) (c y:Int) (b a:Nat) (d:Int→Option (Int×Int)) (g:∀v,Df (d v)):∀(n:Nat) (q r:Int),IntKind.u64.has q→q.toNat<n→Df (C7 N c y b a d n q r)
 |0,q,r,h,i=>by omega
 |n+1,q,r,h,i=>by
  have k:=Lc.1 h
  unfold C7
  refine Df.cond (λj=>?_) λ_=>g _
  have h0:q≠0:=by
   rintro rfl
   have:=(Lc.1 (EN .u64 (IntKind.u64.wrap (4294967296*r)+Du .u64 (DV .u64 c a) 32))).1
   simp [Kf] at j this
   omega
  have e:IntKind.u64.wrap (q-1)=q-1:=N5 (Lc.2 (by omega))
  refine Df.cond (λ_=>g _) λ_=>?_
  exact Wh N c y b a d g n _ _ (EN _ _) (by rw[e];omega)
def Wg (N:Nat) (c y:Int) (b a:Nat) (d:Int→Option (Int×Int)) (g:∀v,Df (d v)):∀(n:Nat) (r q:Int),IntKind.u64.has q→q.toNat<n→Df (DY N c y b a d n r q)
 |0,r,q,h,i=>by omega
 |n+1,r,q,h,i=>by
  have k:=Lc.1 h
  unfold DY
  refine Df.cond (λj=>?_) λ_=>g _
  have h0:q≠0:=by
   rintro rfl
   have:=(Lc.1 (EN .u64 (IntKind.u64.wrap (4294967296*r)+Gj .and .u64 (DV .u64 c a) 4294967295))).1
   simp [Kf] at j this
   omega
  have e:IntKind.u64.wrap (q-1)=q-1:=N5 (Lc.2 (by omega))
  refine Df.cond (λ_=>g _) λ_=>?_
  exact Wg N c y b a d g n _ _ (EN _ _) (by rw[e];omega)
def BN:Nat:=36893488147419103232
def Xt {a s:Nat}(j:s≤63) (c:9223372036854775808≤a*2^s) (b:a*2^s<18446744073709551616):Du .u64 (DV .u64 (a:Int) s) 32≠0:=by
 have d:DV .u64 (a:Int) s=((a*2^s:Nat):Int):=by
  unfold DV
  have g:min s IntKind.u64.bits=s:=by simp [IntKind.bits];omega
  have i:((a:Int)*2^s)=((a*2^s:Nat):Int):=by simp
  rw[g,i]
  exact D1 _ b
 rw[d,Lp]
 generalize a*2^s=t at c b
 omega
def Zx (N:Nat) (i k y g:Int) (a b c d:Nat) (q v:Int):Df (EX N i k y g a b c d q v):=by
 unfold EX
 obtain⟨j,l,_⟩:=Zz (n:=g)
 rw[l]
 exact Df.mk _
def Zy {N:Nat}(o:18446744073709551616<N) (l k y m:Int) (b g i c:Nat) (q:Int) (hd:Du .u64 (DV .u64 y b) 32≠0):Df (DZ N l k y m b g i c q):=by
 unfold DZ
 refine Df.bind (TJ hd) λj d=>?_
 have a:=Lt d
 have n:=(Lc.1 a)
 exact Wg N k y b c _ (λv=>Zx _ _ _ _ _ _ _ _ _ _ _) N _ j a (by omega)
def Sa {N:Nat}(A:18446744073709551616<N) {o q y:Int}(B:IntKind.u64.has o) (h2:IntKind.u64.has q) (C:IntKind.u64.has y) (h:o<y):Df (Ew N o q y):=by
 have g1:=Lc.1 B
 have g:y≠0:=by omega
 have t:¬y≤o:=by omega
 unfold Ew
 refine Df.cond (λp=>absurd (lK p) g) λ_=>Df.cond (λp=>absurd (lK p) t) λ_=>Df.cond (λ_=>?_) λ_=>?_
 ·exact Df.bind (TJ g) λ_ _=>Df.bind (Zb g) λ_ _=>Df.mk _
 ·obtain⟨D,u,F⟩:=V5 C
  obtain⟨s,G,H,I,J⟩:=Yy N (show 0<D by omega) F
  have hd:∀j:Nat,(j:Int)=IntKind.u64.wrap (s:Int)→Du .u64 (DV .u64 y j) 32≠0:=λj K=>by
   rw[D1 s (by omega)] at K
   have:j=s:=by omega
   rw[this,u]
   exact Xt H I J
  rw[u,G]
  rw[←u]
  refine Df.bind (Df.mk _) λw x=>?_
  have i:w=(s:Int):=(jH x).symm
  obtain⟨k,M,Q⟩:=Zz (n:=w)
  obtain⟨U,V,_⟩:=Zz (n:=(64-IntKind.u64.wrap w))
  have l:=hd k (by rw[Q,i])
  rw[M,V]
  refine Df.bind (Df.mk _) λa W=>Df.bind (Df.mk _) λb hb=>Df.bind (Df.mk _) λc p=>Df.bind (Df.mk _) λd X=>?_
  have Y:=jH W
  rw[←Y]
  refine Df.bind (TJ l) λz Z=>?_
  have m:=Lt Z
  have aa:=Lc.1 m
  exact Wh N q y k d _ (λv=>Zy A _ _ _ _ _ _ _ _ _ l) N z _ m (by omega)
def Vh {N:Nat}(g:18446744073709551616<N) (a num den:Int):Df (Fa N a num den):=by
 unfold Fa
 refine Df.cond (λ_=>Df.mk _) λb=>?_
 simp only[jP,jK] at b
 obtain⟨⟨⟨⟨⟨l,m⟩,o⟩,p⟩,q⟩,s⟩:=b
 obtain⟨c,i⟩:∃n:Nat,a=n:=⟨a.toNat,by omega⟩
 obtain⟨d,j⟩:∃n:Nat,num=n:=⟨num.toNat,by omega⟩
 subst i;subst j
 rw[D1 c (by omega),D1 d (by omega),Nc N c d (by omega) (by omega)]
 simp only[iM]
 have hd:IntKind.u64.wrap den=den:=N5 (Lc.2 (by omega))
 rw[hd]
 refine Df.cond (λ_=>Df.mk _) λb=>?_
 simp only[jK] at b
 have k:c*d<18446744073709551616*18446744073709551616:=Nat.mul_lt_mul'' (by omega) (by omega)
 refine Df.bind (Sa g (Lc.2 ⟨by omega,by omega⟩) (Lc.2 ⟨by omega,by omega⟩) (Lc.2 (by omega)) (by omega)) λv _=>?_
 exact Df.cond (λ_=>Df.mk _) λ_=>Df.mk _
def Kg {N:Nat}(c:18446744073709551616<N) {num den:Int}(h0:0≤num) (k:0≤den) (l:den≤9223372036854775807):Df (Dt N num den):=by
 unfold Dt
 refine Df.cond (λ_=>Df.mk _) λd=>?_
 simp only[jK] at d
 refine Df.cond (λ_=>Df.mk _) λa=>?_
 simp only[jK] at a
 obtain⟨b,g⟩:∃n:Nat,num=n:=⟨num.toNat,by omega⟩
 obtain⟨i,j⟩:∃n:Nat,den=n:=⟨den.toNat,by omega⟩
 subst g;subst j
 rw[D1 b (by omega),D1 i (by omega),show(1099511627776:Int)=((1099511627776:Nat):Int) from rfl,Nc N b 1099511627776 (by omega) (by omega)]
 simp only[iM]
 refine Df.bind (Sa c (Lc.2 ⟨by omega,by omega⟩) (Lc.2 ⟨by omega,by omega⟩) (Lc.2 (by omega)) (by omega)) λv _=>?_
 exact Df.cond (λ_=>Df.mk _) λ_=>Df.mk _
def Vs {i j:Nat}(h:i+j<9223372036854775808):B8 (Du .u64 (IntKind.u64.wrap (B8 ((i:Int)+(j:Int)))) 1)=(((i+j)/2:Nat):Int):=by
 have a:B8 ((i:Int)+(j:Int))=((i+j:Nat):Int):=by rw[DE (by omega) (by omega)];rfl
 rw[a,D1 _ (by omega),TG _ 1 (by omega),DE (by omega) (by omega)]
def OA {N:Nat}(f:Int→Option Bool) (L:Nat) (d:L<4611686018427387904) (b:∀i:Nat,i<L→Df (f i)) (a:Int→Option Int):∀(n i j:Nat),i≤j→j≤L→j-i<n→(0<i→f ((i-1:Nat):Int)=some false)→(j<L→f (j:Int)=some true)→
  ∃r:Nat,FE N f a n (i:Int) (j:Int)=a (r:Int)∧r≤L∧(0<r→f ((r-1:Nat):Int)=some false)∧(r<L→f (r:Int)=some true)
 |0,i,j,_,_,h,_,_=>by omega
 |n+1,i,j,o,g,p,k,l=>by
  unfold FE
  by_cases m:i<j
  ·rw[show decide ((i:Int)<(j:Int))=true by simp;omega,iN,Vs (by omega)]
   obtain⟨v,c⟩:=b ((i+j)/2) (by omega)
   rw[c]
   simp only[iM]
   cases v
   ·simp only[Bool.not_false,iN]
    have e:B8 ((((i+j)/2:Nat):Int)+1)=(((i+j)/2+1:Nat):Int):=by rw[DE (by omega) (by omega)];rfl
    rw[e]
    exact OA f L d b a n _ j (by omega) g (by omega) (λ_=>by rw[mM];exact c) l
   ·simp only[jV,iO]
    exact OA f L d b a n i _ (by omega) (by omega) (by omega) k (λ_=>c)
  ·have e:i=j:=by omega
   subst e
   rw[show decide ((i:Int)<(i:Int))=false by simp,iO]
   exact⟨i,rfl,g,k,l⟩
def QM {N:Nat}(f:Int→Option Bool) (L:Nat) (a:L<4611686018427387904) (g:L<N) (b:∀i:Nat,i<L→Df (f i)):∃r:Nat,JK N (L:Int) f=some (r:Int)∧r≤L∧(0<r→f ((r-1:Nat):Int)=some false)∧(r<L→f (r:Int)=some true):=by
 obtain⟨r,c,d⟩:=OA (N:=N) f L a b (HM N) N 0 L (iU _) (jB _) (by omega) (λh=>absurd h (by omega)) (λh=>absurd h (by omega))
 exact⟨r,c,d⟩
def Gh (n:Int):Prop:=0≤n∧n≤1125899906842624
def C1 (c:List BC):Prop:=1≤c.length∧c.length≤32∧∀(k:Nat) p,c[k]? =some p→Gh p.G∧Gh p.L∧∀q,0<k→c[k-1]? =some q→q.G<p.G∧q.L≤p.L
def Sc {N:Nat}(c:List BC) (o:c.length≤32):∀(n k:Nat),c.length<n+k→k≤c.length→∃v,ED N c (Fu N) n (k:Int)=some v∧(v=true→∀(i:Nat) p,k≤i→c[i]? =some p→Gh p.G∧Gh p.L∧∀q,0<i→c[i-1]? =some q→q.G<p.G∧q.L≤p.L)
 |0,k,h,s=>by omega
 |n+1,k,h,s=>by
  unfold ED
  by_cases g:k<c.length
  ·rw[show decide ((k:Int)<(c.length:Int))=true by simp;omega,iN,Bv g]
   simp only[iM]
   cases t:(decide ((c[k]).G<0)||decide (1125899906842624<(c[k]).G)||decide ((c[k]).L<0)||decide (1125899906842624<(c[k]).L))
   ·simp only[iO]
    simp only[jP,jK] at t
    obtain⟨v,u,l⟩:=Sc (N:=N) c o n (k+1) (by omega) (by omega)
    have w:B8 ((k:Int)+1)=((k+1:Nat):Int):=by rw[DE (by omega) (by omega)];rfl
    rw[w,u]
    by_cases h0:0<k
    ·have x:B8 ((k:Int)-1)=((k-1:Nat):Int):=by rw[DE (by omega) (by omega)];omega
     rw[show decide ((0:Int)<(k:Int))=true by simp;omega,x,Bv (show k-1<c.length by omega)]
     simp only[iN,iM,E7]
     cases b:cond (decide ((c[k]).G≤(c[k-1]).G)) true (decide ((c[k]).L<(c[k-1]).L))
     ·simp only[iO]
      refine⟨v,rfl,λd i p m a=>?_⟩
      by_cases e:i=k
      ·subst e
       have:p=c[i]:=by simpa [g] using a.symm
       subst this
       refine⟨⟨by omega,by omega⟩,⟨by omega,by omega⟩,λq _ y=>?_⟩
       have:q=c[i-1]:=by simpa [show i-1<c.length by omega] using y.symm
       subst this
       cases j:decide ((c[i]).G≤(c[i-1]).G) with
       |true=>rw[j] at b;simp at b
       |false=>
        rw[j] at b
        simp only[iO,jK] at b j
        omega
      ·exact l d i p (by omega) a
     ·exact⟨false,rfl,λh=>by cases h⟩
    ·have z:k=0:=by omega
     subst z
     rw[show decide ((0:Int)<((0:Nat):Int))=false by simp]
     simp only[iO,iM]
     refine⟨v,rfl,λd i p m a=>?_⟩
     by_cases e:i=0
     ·subst e
      have:p=c[0]:=by simpa [g] using a.symm
      subst this
      exact⟨⟨by omega,by omega⟩,⟨by omega,by omega⟩,λq h _=>absurd h (by omega)⟩
     ·exact l d i p (by omega) a
   ·exact⟨false,rfl,λh=>by cases h⟩
  ·rw[show decide ((k:Int)<(c.length:Int))=false by simp;omega,iO]
   refine⟨true,rfl,λ_ i p m a=>?_⟩
   have:=(jF.1 a).1
   omega
def In {N:Nat}(j:33<N) (c:List BC):∃v,EE N c=some v∧(v=true→C1 c):=by
 unfold EE
 cases a:(decide ((c.length:Int)<1)||decide (32<(c.length:Int)))
 ·simp only[jP,jK] at a
  obtain⟨v,b,d⟩:=Sc (N:=N) c (by omega) N 0 (by omega) (by omega)
  exact⟨v,b,λg=>⟨by omega,by omega,λk p i=>d g k p (by omega) i⟩⟩
 ·exact⟨false,rfl,λh=>by cases h⟩
def Rm {N:Nat}(b:18446744073709551616<N) {c:List BC}(l:1≤c.length) (m:c.length≤32) (x:Int):Df (EB N c x):=by
 unfold EB
 obtain⟨r,d,n,_⟩:=QM (N:=N) (λy=>Eh N c x y) c.length (by omega) (by omega) λi g=>by
  unfold Eh
  rw[Bv g];exact Df.mk _
 rw[d]
 simp only[iM]
 refine Df.cond (λ_=>Df.bind (Df.ix (by omega) (by omega)) λ_ _=>Df.mk _) λj=>?_
 simp only[jK] at j
 have k:B8 ((r:Int)-1)=((r-1:Nat):Int):=by rw[DE (by omega) (by omega)];omega
 rw[k]
 refine Df.bind (Df.ix (by omega) (by omega)) λ_ _=>Df.cond (λ_=>Df.mk _) λa=>?_
 simp only[jK] at a
 exact Df.bind (Df.ix (by omega) (by omega)) λ_ _=>Df.bind (Df.ix (by omega) (by omega)) λ_ _=>Df.bind (Vh b _ _ _) λ_ _=>Df.mk _
end Go.Proofs.YtibidnaedddfdaaGreat
