import Derived.Test.YtibidnaedddfdaaGreatERefQ
import Derived.Test.YtibidnaedddfdaaGreatECore10
import Derived.ProofKit
import Derived.OpenShut
import Derived.JoinedCond
import Derived.Deep.Slices
import Derived.SizedLaws
namespace Go.Proofs.YtibidnaedddfdaaGreat
set_option linter.all false
open Go.RowKit
def Dp {α}(x:Option α) (P:α→Prop):Prop:=∃v,x=some v∧P v
def Dp.mk {α}{P:α→Prop}{v:α}(h:P v):Dp (some v) P:=⟨v,rfl,h⟩
def Dp.bind {α β}{P:β→Prop}{a:Option α}{f:α→Option β}(h:Df a) (k:∀v,a=some v→Dp (f v) P):Dp (a.bind f) P:=by
 obtain⟨v,b⟩:=h;obtain⟨u,c,d⟩:=k v b;exact⟨u,by rw[b];exact c,d⟩
def Dp.cond {α}{P:α→Prop}{b:Bool}{x y:Option α}(a:b=true→Dp x P) (c:b=false→Dp y P):Dp (cond b x y) P:=by
 cases b
 ·exact c rfl
 ·exact a rfl
def eN (N:Nat) (a b:Int):Df (Es N a b):=by
 unfold Es;exact Df.cond (λ_=>Df.mk _) λ_=>Df.cond (λ_=>Df.mk _) λ_=>Df.mk _
def Vr {N:Nat}(a:18446744073709551616<N) (c:List AV) (y:Int):Df (JJ N c y):=by
 unfold JJ;obtain⟨v,b,d⟩:=KH (N:=N) (by omega) c;rw[b];simp only[uF];cases v
 ·simp only[Bool.not_false,uG,uF];exact Df.mk _
 ·obtain⟨s,t,_⟩:=d rfl;have g:BR ((c.length:Int)-1)=((c.length-1:Nat):Int):=by rw[CT (by omega) (by omega)];omega
  rw[g,A9 (show c.length-1<c.length by omega)];simp only[vL,uH,uF];refine Df.cond (λ_=>Df.mk _) λj=>?_;simp only[vC] at j;obtain⟨r,k,l,m,_⟩:=Pf (N:=N) (λx=>FY N c y x) c.length (by omega) (by omega) λi n=>by
   unfold FY;rw[A9 n];exact Df.mk _
  rw[k];simp only[uF];refine Df.cond (λ_=>Df.mk _) λo=>?_;simp only[vC] at o;have p:r<c.length:=by
   rcases zG l with h|h
   ·exact h
   ·have:=m (by omega);subst h;unfold FY at this;rw[A9 (show c.length-1<c.length by omega)] at this;simp at this;omega
  have q:BR ((r:Int)-1)=((r-1:Nat):Int):=by rw[CT (by omega) (by omega)];omega
  rw[q];exact Df.bind (Df.ix (by omega) (by omega)) λ_ _=>Df.bind (Df.ix (by omega) (by omega)) λ_ _=>Df.bind (Df.ix (by omega) (by omega)) λ_ _=>Df.bind (VZ a _ _ _) λ_ _=>Df.cond (λ_=>Df.mk _) λ_=>Df.mk _
def TC (N:Nat) (b:AF) (r:BW):Df (KA N b r):=by
 unfold KA;refine Df.cond (λ_=>Df.mk _) λh=>?_;simp only[vH,vC] at h;exact Df.bind (Df.ix (by omega) (by omega)) λ_ _=>Df.mk _
def dT (N:Nat) (a b:AB):Dp (LY N a b) λv=>v.2=true→v.1.B≤v.1.A:=by
 unfold LY Dt;simp only[uF];refine Dp.cond (λ_=>Dp.mk λh=>by cases h) λh=>Dp.mk λ_=>?_;simpa using h
def YO {N:Nat}(a:18446744073709551616<N) (b:AF) (r:BW):Dp (IM N b r) λv=>v.2=true→v.1.B≤v.1.A:=by
 have c:∀y i,Dp (E2 N y i) λv=>v.2=true→v.1.B≤v.1.A:=λy i=>by
  unfold E2;obtain⟨v,d,j⟩:=dT N ⟨y.1,i⟩ ⟨0,1125899906842624⟩;rw[d];exact Dp.mk j
 unfold IM;refine Dp.bind (TC N b r) λl _=>Dp.cond (λ_=>Dp.mk λh=>by cases h) λh=>?_;simp only[vH,vC] at h;refine Dp.bind (Df.ix (by omega) (by omega)) λx _=>?_;obtain⟨v,k,_⟩:=KH (N:=N) (by omega) x.Ba;refine Dp.bind ⟨v,k⟩ λ_ _=>Dp.cond (λ_=>Dp.mk λh=>by cases h) λ_=>?_;refine Dp.bind (Vr a _ _) λy _=>Dp.cond (λ_=>Dp.mk λh=>by cases h) λ_=>?_;exact Dp.bind (eN _ _ _) λ_ _=>Dp.bind (Vr a _ _) λ_ _=>Dp.cond (λ_=>c _ _) λ_=>c _ _
def X1 (N:Nat) (b:AF) (r:BW):AB×Bool:=(IM N b r).getD (⟨0,0⟩,false)
def VO {N:Nat}(c:18446744073709551616<N) (b:AF) (r:BW):IM N b r=some (X1 N b r)∧((X1 N b r).2=true→(X1 N b r).1.B≤(X1 N b r).1.A):=by
 obtain⟨v,a,d⟩:=YO c b r;have e:X1 N b r=v:=by unfold X1;rw[a];rfl
 rw[e];exact⟨a,d⟩
def dY (b:AF) (r:BW):Bool:= !(decide (r.Ao<0)||decide ((b.Ab.length:Int)≤r.Ao))
def gG (b:AF) (r:BW):Id:=(ix b.Ab r.Ao).getD default
def PF (b:AF) (t:Dr) (r:BW):Bool:=dY b r&& !(decide ((gG b r).F≠0)||decide ((gG b r).W≠t.Ah))
def Yq (N:Nat) (b:AF) (t:Dr) (r:BW):Bool:=(X1 N b r).2&&decide (t.Be<(X1 N b r).1.B)
def Zv {b:AF}{r:BW}(h:dY b r=true):ix b.Ab r.Ao=some (gG b r)∧0≤r.Ao∧r.Ao<b.Ab.length:=by
 simp only[dY,vE,vH,vC] at h;obtain⟨v,a⟩:=Df.ix (l:=b.Ab) (i:=r.Ao) (by omega) (by omega);exact⟨by unfold gG;rw[a];rfl,by omega,by omega⟩
def Ld (N:Nat) (b:AF) (t:Dr) (A:List Bool) (r:BW):List Bool:=if PF b t r=true∧Yq N b t r=true then upd A r.Ao true else A
def Xh (N:Nat) (b:AF) (t:Dr) (A:List Bool) (a:List BW):List Bool:=a.foldl (Ld N b t) A
def aD (A:List Bool):Nat:=A.count true
def Uq:∀(A:List Bool) (i:Nat),(A.set i true).count true≤A.count true+1∧(A[i]? =some false→(A.set i true).count true=A.count true+1)∧(A[i]? =some true→A.set i true=A)
 |[],i=>by simp
 |a::A,0=>by cases a<;>simp
 |a::A,i+1=>by
  obtain⟨d,b,c⟩:=Uq A i;simp only[List.set_cons_succ,List.count_cons,xL];exact⟨by omega,λh=>by have:=b h;omega,λh=>by rw[c h]⟩
def tR (A B:List Bool):Prop:=A.length=B.length∧∀i:Nat,A[i]? =some true→B[i]? =some true
def WQ (N:Nat) (b:AF) (t:Dr) (A:List Bool) (r:BW):tR A (Ld N b t A r):=by
 unfold Ld;split
 ·refine⟨by simp [upd],λi a=>?_⟩;simp only[upd,List.getElem?_set];have:=(uV.1 a).1;split
  ·rw[uJ (by omega)]
  ·exact a
 ·exact⟨rfl,λ_ h=>h⟩
def YS (N:Nat) (b:AF) (t:Dr) (A:List Bool) (r:BW):(Ld N b t A r).length=A.length:=(WQ N b t A r).1.symm
def T3 {N:Nat}(u:18446744073709551616<N) (b:AF) (d:List BW) (t:Dr) (q:Int→Option Bool) (z:d.length≤100) (C:b.Ab.length≤128):∀(r:List BW) (k n:Nat) (A:List Bool),d.drop k=r→r.length<n→A.length=b.Ab.length→
  Di N b d t q n (aD A:Int) (k:Int) A=q (aD (Xh N b t A r):Int)
 |[],k,n+1,A,h,v,g=>by
  have:d.length≤k:=by simpa using h
  simp only[Di];rw[ES this];rfl
 |r::r',k,n+1,A,h,v,g=>by
  have w:d[k]? =some r:=by have:=uP (·[0]?) h;simpa using this
  have D:d.drop (k+1)=r':=by have:=uP List.tail h;simpa [List.tail_drop] using this
  have G:k<d.length:=(uV.1 w).1;have H:ix d (k:Int)=some r:=by simp [ix,w]
  have I:aD A≤128:=by
   have:A.count true≤A.length:=List.count_le_length;unfold aD;omega
  have p:=λ(A:List Bool) (g:A.length=b.Ab.length)=>T3 u b d t q z C r' (k+1) n A D (by simp at v;omega) g;have J:Xh N b t A (r::r')=Xh N b t (Ld N b t A r) r':=rfl;simp only[Di];rw[Ei G,uG,H];simp only[uF,Hr,BE (show k<4611686018427387904 by omega)];rw[J];cases a:dY b r
  ·have c:(decide (r.Ao<0)||decide ((b.Ab.length:Int)≤r.Ao))=true:=by unfold dY at a;rwa [xD] at a
   rw[c];simp only[uG,uF];have:Ld N b t A r=A:=by unfold Ld PF;rw[a];simp
   rw[this];exact p A g
  ·have c:(decide (r.Ao<0)||decide ((b.Ab.length:Int)≤r.Ao))=false:=by simpa [dY] using a
   obtain⟨K,X,Y⟩:=Zv a;obtain⟨j,x⟩:∃j:Nat,r.Ao=j:=⟨r.Ao.toNat,by omega⟩
   have o:j<A.length:=by omega
   have s:ix A r.Ao=some A[j]:=by rw[x];exact A9 o
   rw[c];simp only[uH,s,uF];have i:upd A r.Ao true=A.set j true:=by unfold upd;rw[x];rfl
   cases y:A[j]
   ·simp only[uH,K,uF];cases l:(decide ((gG b r).F≠0)||decide ((gG b r).W≠t.Ah))
    ·obtain⟨M,Z⟩:=VO u b r;simp only[uH,M,uF];have Q:PF b t r=true:=by unfold PF;rw[a,l];rfl
     cases m:((X1 N b r).2&&decide (t.Be<(X1 N b r).1.B))
     ·have:Ld N b t A r=A:=by unfold Ld Yq;rw[m];simp
      rw[this];exact p A g
     ·have U:Ld N b t A r=upd A r.Ao true:=by unfold Ld;rw[uJ ⟨Q,m⟩]
      have V:BR ((aD A:Int)+1)=(aD (upd A r.Ao true):Int):=by
       have:=(Uq A j).2.1 (by rw[uU o,y]);rw[CT (by omega) (by omega),i];unfold aD;rw[this];rfl
      rw[U];simp only[uG];rw[V];exact p _ (by simp [upd,g])
    ·have:Ld N b t A r=A:=by unfold Ld PF;rw[l];simp
     rw[this];simp only[uG];exact p A g
   ·have:Ld N b t A r=A:=by
     unfold Ld;split
     ·rw[i];exact(Uq A j).2.2 (by rw[uU o,y])
     ·rfl
    rw[this];simp only[uG];exact p A g
def A0 (b:AF):List Bool:=List.replicate b.Ab.length false
def Q (N:Nat) (b:AF) (t:Dr) (a:List BW):Bool:= !decide (t.Ay≤0)&&decide (t.Ay≤(aD (Xh N b t (A0 b) a):Int))
def YZ {N:Nat}(g:18446744073709551616<N) (b:AF) (a:Int) (t:Dr) (c:List BW) (i:c.length≤100) (j:b.Ab.length≤128) (d:ix b.Ad a=some t):JZ N b a c=some (Q N b t c):=by
 obtain⟨l,m⟩:=gF d;unfold JZ;rw[show (decide (a<0)||decide ((b.Ad.length:Int)≤a))=false by simp;omega];simp only[uH,d,uF];unfold Q;cases n:decide (t.Ay≤0)
 ·rw[show Mn (b.Ab.length:Int) (b.Ab.length:Int) 1=true by simp [Mn];omega];simp only[uH,chk,uG];have:=T3 g b c t (Hs N t) i j c 0 N (A0 b) rfl (by omega) (by simp [A0]);have k:aD (A0 b)=0:=by simp [aD,A0,List.count_replicate]
  rw[k] at this;have h0:Di N b c t (Hs N t) N 0 0 (List.replicate ((b.Ab.length:Int):Int).toNat false)=_:=this;rw[h0];rfl
 ·rfl
def vS (N:Nat) (c:List AV) (x:Int):Int:=(Kq N c x).getD 0
def O1 (x:Int):Prop:=0≤x∧x≤1125899906842624
def QN {N:Nat}(a:18446744073709551616<N) {c:List AV}(h:Cp c) {x:Int}(b:O1 x):∃k l r,UM (J0 c) x k l r∧Kq N c x=some (vS N c x)∧vS N c x=H9 l r x:=by
 obtain⟨k,l,r,s,e⟩:=PZ a h b;exact⟨k,l,r,s,by unfold vS;rw[e];rfl,by unfold vS;rw[e];rfl⟩
def nU {N:Nat}(a:18446744073709551616<N) {c:List AV}(h:Cp c) {x:Int}(b:O1 x):II N c x=some (vS N c x):=by
 rw[uB a h b];exact(QN a h b).choose_spec.choose_spec.choose_spec.2.1
def fT {N:Nat}(a:18446744073709551616<N) {c:List AV}(h:Cp c) {x:Int}(b:O1 x):O1 (vS N c x):=by
 obtain⟨k,l,r,s,_,e⟩:=QN a h b;rw[e];exact PY h s
def W6 {N:Nat}(b:18446744073709551616<N) {c:List AV}(h:Cp c) {x y:Int}(d:O1 x) (g:O1 y) (a:x≤y):vS N c x≤vS N c y:=by
 obtain⟨k,l,r,s,_,e⟩:=QN b h d;obtain⟨j,m,r',s',_,i⟩:=QN b h g;rw[e,i];exact s.mono (LN h) s' a
def aE {A d a b w:Int}(hd:0<d) (g:A=d*a+b) (h0:0≤b) (i:b<d):A≤w*d↔(if 0<b then a+1 else a)≤w:=by
 split
 ·constructor
  ·intro h;apply xO;intro c;have:=vT (show w≤a by omega) (Int.le_of_lt hd);rw[xP a] at this;omega
  ·intro h;have:=vT h (Int.le_of_lt hd);rw[Int.add_mul,xP a,Int.one_mul] at this;omega
 ·constructor
  ·intro h;apply xO;intro c;have:=vT (show w+1≤a by omega) (Int.le_of_lt hd);rw[Int.add_mul,xP a,Int.one_mul] at this;omega
  ·intro h;have:=vT h (Int.le_of_lt hd);rw[xP a] at this;omega
set_option maxHeartbeats 1000000 in
def S7 {N:Nat}(K:18446744073709551616<N) {c:List AV}(h:Cp c) {y:Int}(hy:AA y):∃x o,JJ N c y=some (x,o)∧(o=true→O1 x∧∀v,O1 v→(y≤vS N c v↔x≤v))∧(o=false→∀v,O1 v→vS N c v<y):=by
 have h1:=h.1;have h2:=h.2.1;obtain⟨y1,y2⟩:=hy;have g:=LN h;unfold JJ;have w1:BR ((c.length:Int)-1)=((c.length-1:Nat):Int):=by rw[CT (by omega) (by omega)];omega
 have u:c[c.length-1]? =some c[c.length-1]:=by simp
 have eL:=NS u;rw[KN (by omega) h,uF,vL,uH,w1,A9 (show c.length-1<c.length by omega),uF,uF];by_cases j:(c[c.length-1]).L<y
 ·rw[uK j,uG];refine⟨0,false,rfl,(λh=>by cases h),λ_ v F=>?_⟩;obtain⟨k,l,r,s,_,e⟩:=QN K h F;have b:=(s.bounds g).2;have M:=Uk h s.r_;rw[eL] at M;rw[e];omega
 ·rw[uM j,uH];obtain⟨r,Q,Y,Z,e4⟩:=Pf (N:=N) (λx=>FY N c y x) c.length (by omega) (by omega) λi g=>by
   unfold FY;rw[A9 g];exact Df.mk _
  have U:∀i (g:i<c.length),FY N c y (i:Int)=some (decide (y≤(c[i]).L)):=λi g=>by
   unfold FY;rw[A9 g];rfl
  rw[Q,uF];have a:r<c.length:=by
   apply xO;intro hn;have:r=c.length:=by omega
   subst this;have G:=Z (by omega);rw[U (c.length-1) (by omega)] at G;have:=yA (uX G);omega
  have e8:=e4 a;rw[U r a] at e8;have e9:=xI (uX e8);by_cases V:r=0
  ·subst V;rw[show decide (((0:Nat):Int)=0)=true by simp,uG];refine⟨0,true,rfl,λ_=>⟨⟨by decide,by decide⟩,λv F=>⟨λ_=>F.1,λ_=>?_⟩⟩,λh=>by cases h⟩;obtain⟨k,l,r',s,_,e⟩:=QN K h F;have b:=(s.bounds g).1;have M:=TG h s.l_;rw[NU (p:=c[0]) (by simp)] at M;rw[e];omega
  ·have z:c[r-1]? =some c[r-1]:=by simp
   have B:c[r]? =some c[r]:=by simp [a]
   have G:=Z (by omega);rw[U (r-1) (by omega)] at G;have e6:=yA (uX G);have v1:=h.vol z;have v2:=h.vol B;have st:=h.step z (q:=c[r]) (by rw[show r-1+1=r by omega];exact B);have W:(J0 c)[r-1+1]? =some c[r-1]:=(Mh c (by omega)).trans z;rw[show r-1+1=r by omega] at W;have g2:(J0 c)[r+1]? =some c[r]:=(Mh c a).trans B;have w2:BR ((r:Int)-1)=((r-1:Nat):Int):=by rw[CT (by omega) (by omega)];omega
   rw[show decide ((r:Int)=0)=false by simp;omega,uH,w2,A9 (show r-1<c.length by omega),A9 a];simp only[uF];unfold JK at v1 v2;generalize c[r-1]=p at*
   generalize c[r]=q at*
   have a1:(y-p.L)*(q.H-p.H)/(q.L-p.L)≤q.H-p.H:=by
    refine zV (by omega) ?_;rw[xP];exact xA (by omega) (by omega)
   have a0:=OR (t:=y-p.L) (n:=q.H-p.H) (d:=q.L-p.L) (by omega) (by omega) (by omega);rw[CT (n:=y-p.L) (by omega) (by omega),CT (n:=q.H-p.H) (by omega) (by omega),CT (n:=q.L-p.L) (by omega) (by omega),K8 K,UZ (by omega) (by omega) (by omega) (by omega),uF];have hA:(y-p.L)*(q.H-p.H)=(q.L-p.L)*((y-p.L)*(q.H-p.H)/(q.L-p.L))+(y-p.L)*(q.H-p.H)%(q.L-p.L):=(Int.mul_ediv_add_emod _ _).symm;have r0:=Int.emod_nonneg ((y-p.L)*(q.H-p.H)) (show q.L-p.L≠0 by omega);have r1:=zW ((y-p.L)*(q.H-p.H)) (show 0<q.L-p.L by omega);have aa:0<(y-p.L)*(q.H-p.H):=Int.mul_pos (by omega) (by omega);have X:(y-p.L)*(q.H-p.H)≤(q.H-p.H)*(q.L-p.L):=by
    rw[xP];exact xA (by omega) (by omega)
   have C:=λw=>aE (A:=(y-p.L)*(q.H-p.H)) (w:=w) (show 0<q.L-p.L by omega) hA r0 r1;have k1:=(C (q.H-p.H)).1 X;have k0:¬(if 0<(y-p.L)*(q.H-p.H)%(q.L-p.L) then (y-p.L)*(q.H-p.H)/(q.L-p.L)+1 else (y-p.L)*(q.H-p.H)/(q.L-p.L))≤0:=λI=>by
    have:=(C 0).2 I;rw[Int.zero_mul] at this;omega
   have J:∀D,D=(if 0<(y-p.L)*(q.H-p.H)%(q.L-p.L) then (y-p.L)*(q.H-p.H)/(q.L-p.L)+1 else (y-p.L)*(q.H-p.H)/(q.L-p.L))→∃x o,JN N p D=some (x,o)∧(o=true→O1 x∧∀v,O1 v→(y≤vS N c v↔x≤v))∧(o=false→∀v,O1 v→vS N c v<y):=λD hw=>by
    rw[←hw] at k1 k0;unfold JN;rw[CT (by omega) (by omega)];refine⟨_,_,rfl,λ_=>⟨⟨by omega,by omega⟩,λv F=>?_⟩,λh=>by cases h⟩;obtain⟨k,l,r',s,_,e⟩:=QN K h F;have b:=s.bounds g;rw[e];rcases Nat.lt_trichotomy k r with ab|heq|hgt
    ·have m:=g.mono (show k+1≤r by omega) s.r_ W;have:=s.hi;constructor<;>intro I<;>omega
    ·subst heq;have Q:l=p:=uX (s.l_.symm.trans W);have Y:r'=q:=uX (s.r_.symm.trans g2);subst Q Y;have kk:=C (v-l.H);rw[←hw] at kk;have:y≤H9 l r' v↔(y-l.L)*(r'.H-l.H)≤(v-l.H)*(r'.L-l.L):=by
      rw[←Int.le_ediv_iff_mul_le (show 0<r'.H-l.H by omega)];unfold H9;constructor<;>intro I<;>omega
     rw[this,kk];constructor<;>intro I<;>omega
    ·have m:=g.mono (show r+1≤k by omega) g2 s.l_;have:=s.lo;constructor<;>intro I<;>omega
   cases hc:decide (0<(y-p.L)*(q.H-p.H)%(q.L-p.L))
   ·rw[uH];exact J _ (by rw[uI (yA hc)])
   ·rw[uG];exact J _ (by rw[uJ (xI hc),CT (by omega) (by omega)])
def QX {N:Nat}(m:18446744073709551616<N) {c:List AV}(h:Cp c) (y:Int):∃r,Gv N c y=some r∧(0≤r∧r≤1125899906842625)∧∀v,O1 v→(y<vS N c v↔r≤v):=by
 unfold Gv;have x:∀(n:Nat) (d g:Int),0≤d→d≤g→g≤1125899906842625→g-d<n→(∀v,O1 v→v<d→¬y<vS N c v)→(∀v,O1 v→g≤v→y<vS N c v)→∃r,Ee N c y (Hn N) n d g=some r∧(0≤r∧r≤1125899906842625)∧∀v,O1 v→(y<vS N c v↔r≤v):=by
  intro n
  induction n with
  |zero=>intro d g _ _ _ _;omega
  |succ n p=>
   intro d g q B s C t u;simp only[Ee];by_cases k:d<g
   ·obtain⟨a,rfl⟩:∃a:Nat,d=a:=⟨d.toNat,by omega⟩
    obtain⟨b,rfl⟩:∃b:Nat,g=b:=⟨g.toNat,by omega⟩
    have j:O1 (((a+b)/2:Nat):Int):=⟨by omega,by omega⟩
    rw[uK k,uG,RB,CT (n:=((a+b:Nat):Int)) (by omega) (by omega),show(2:Int)=((2:Nat):Int) from rfl,jH _ 2 (by omega) (by omega),uF,nU m h j,uF];have o:(a:Int)≤(((a+b)/2:Nat):Int)∧(((a+b)/2:Nat):Int)<b:=by omega
    generalize (((a+b)/2:Nat):Int)=z at j o
    by_cases w:y<vS N c z
    ·rw[uK w,uG];exact p _ _ q (by omega) (by omega) (by omega) t λv i l=>by
      have:=W6 m h j i l;omega
    ·rw[uM w,uH,CT (by unfold O1 at j;omega) (by unfold O1 at j;omega)];exact p _ _ (by omega) (by omega) s (by omega) (λv i l=>by
      have:=W6 m h i j (by omega);omega) u
   ·rw[uM k,uH];have:d=g:=by omega
    subst this;refine⟨d,rfl,⟨q,s⟩,λv i=>⟨λA=>?_,u v i⟩⟩;apply xO;intro D;exact t v i (by omega) A
 exact x N 0 1125899906842625 (by omega) (by omega) (by omega) (by omega) (λv i h=>by unfold O1 at i;omega) (λv i h=>by unfold O1 at i;omega)
set_option maxHeartbeats 1000000 in
def dG {N:Nat}(q:18446744073709551616<N) {b:AF}(hb:∀p∈b.E,Cp p.Ba) (r:BW) (hr:AA r.Value.B∧AA r.Value.A):IX N b r=IM N b r:=by
 obtain⟨j,t⟩:=hr;unfold IX IM;rw[show Jo N b r=KA N b r from rfl];obtain⟨g,eg⟩:=TC N b r;rw[eg,uF,uF];cases hB:(((!g.2||decide (g.1.F≠0))||decide (g.1.W<0))||decide ((b.E.length:Int)≤g.1.W))
 ·rw[uH,uH];simp only[vH,vC] at hB;obtain⟨p,ep,Q⟩:=Tj (l:=b.E) (i:=g.1.W) (by omega) (by omega);have n:=hb p (wO Q);have h2:=n.2.1;rw[ep,uF,uF,ZZ p.Ba (by omega) (by omega),KN (by omega) n];simp only[uF,vL,wH,uH];obtain⟨d,k1,e1,s1,I⟩:=S7 q n j;rw[e1,uF];obtain⟨c,ef,f1,J⟩:=QX q n r.Value.A;have U:O1 0:=⟨by decide,by decide⟩
  have v0:=fT q n U;have V:k1=true→∀{A:Int→Option (AB×Bool)},(cond (decide (0<r.Value.B)) ((Gv N p.Ba (BR (r.Value.B-1))).bind A) (A 0))=A d:=λhk {A}=>by
   obtain⟨o,w⟩:=s1 hk;by_cases h0:0<r.Value.B
   ·obtain⟨m,X,Y,K⟩:=QX q n (r.Value.B-1);rw[uK h0,uG,CT (by unfold AA at j;omega) (by unfold AA at j;omega),X,uF];have:m=d:=by
     have Z:=(K d o).1 (by have:=(w d o).2 (vZ _);omega);have x:O1 m:=⟨Y.1,by unfold O1 at o;omega⟩
     have a3:=(w m x).1 (by have:=(K m x).2 (vZ _);omega);omega
    rw[this]
   ·rw[uM h0,uH];have:d=0:=by
     have:=(w 0 U).1 (by unfold O1 at v0;omega);unfold O1 at o;omega
    rw[this]
  have j0:∀i:Int,GF N r p i=cond (decide (c-1<i)) (some (⟨0,0⟩,false)) (some (⟨i,c-1⟩,true)):=λi=>by
   unfold GF;rw[ef,uF,CT (by omega) (by omega)]
  have z:∀i:Int,O1 i→E2 N (i,true) (c-1)=cond (decide (c-1<i)) (some (⟨0,0⟩,false)) (some (⟨i,c-1⟩,true)):=λi hi=>by
   unfold E2 LY Dt;unfold O1 at hi;simp only[uF];rw[show max i 0=i by omega,show min (c-1) 1125899906842624=c-1 by omega];by_cases h:c-1<i
   ·rw[uK h,uM (show ¬i≤c-1 by omega)];rfl
   ·rw[uM h,uK (show i≤c-1 by omega)];rfl
  cases k1 with
  |false=>
   have I:=I rfl;simp only[Bool.not_false,uG];by_cases k:r.Value.A<r.Value.B
   ·rw[uK k,uG]
   ·rw[uM k,uH];have C:0<r.Value.B:=by have:=I 0 U;unfold O1 at v0;omega
    obtain⟨m,X,Y,K⟩:=QX q n (r.Value.B-1);rw[uK C,uG,CT (by unfold AA at j;omega) (by unfold AA at j;omega),X,uF,j0];have:¬m≤1125899906842624:=λhh=>by
     have x:O1 m:=⟨Y.1,hh⟩
     have a3:=(K m x).2 (vZ _);have a4:=I m x;omega
    rw[uK (show c-1<m by omega),uG]
  |true=>
   obtain⟨o,w⟩:=s1 rfl;rw[V rfl,vL,uH];obtain⟨a,k2,e2,s2,t2⟩:=S7 q n (y:=H4 (r.Value.A+1)) (Ua _);rw[TV N t (show AA 1 by unfold AA;omega),uF,e2,uF];have D:cond k2 (E2 N (d,true) (BR (a-1))) (E2 N (d,true) 1125899906842624)=E2 N (d,true) (c-1):=by
    have G:∀v,O1 v→vS N p.Ba v<9223372036854775807:=λv hv=>by
     have:=fT q n hv;unfold O1 at this;omega
    unfold AA at t;cases k2 with
    |true=>
     obtain⟨M,u2⟩:=s2 rfl;have Z:=(u2 a M).2 (vZ _);have a0:=G a M;have H:H4 (r.Value.A+1)=r.Value.A+1:=by unfold H4 at Z ⊢;omega
     rw[H] at u2 Z;have b1:=(J a M).1 (by omega);have s:O1 c:=⟨f1.1,by unfold O1 at M;omega⟩
     have b3:=(u2 c s).1 (by have:=(J c s).2 (vZ _);omega);have:a=c:=by omega
     subst this;rw[uG,CT (by omega) (by omega)]
    |false=>
     have u:=t2 rfl;have:¬c≤1125899906842624:=λhh=>by
      have s:O1 c:=⟨f1.1,hh⟩
      have b3:=(J c s).2 (vZ _);have b4:=u c s;unfold H4 at b4;have:=G c s;omega
     rw[uH,show c-1=1125899906842624 by omega]
   rw[D,z d o,j0];by_cases k:r.Value.A<r.Value.B
   ·rw[uK k,uG];have:=(w d o).2 (vZ _);have:=(J d o).1 (by omega);rw[uK (show c-1<d by omega),uG]
   ·rw[uM k,uH]
 ·rw[uG,uG]
def Y5 (N:Nat) (b:AF) (t:Dr) (a:Nat) (r:BW):Bool:=(PF b t r&&Yq N b t r)&&decide (r.Ao=(a:Int))
def YT {N:Nat}{b:AF}{t:Dr}{A:List Bool}{k:Nat}{x:Bool}(h:A[k]? =some x) (r:BW):(Ld N b t A r)[k]? =some (x||Y5 N b t k r):=by
 unfold Ld Y5;have d:=(uV.1 h).1;by_cases a:PF b t r=true∧Yq N b t r=true
 ·rw[uJ a,a.1,a.2];have c:dY b r=true:=by have:=a.1;unfold PF at this;rw[uL] at this;exact this.1
  obtain⟨_,i,j⟩:=Zv c;unfold upd;by_cases e:r.Ao.toNat=k
  ·rw[e,yN d,uK (show r.Ao=(k:Int) by omega)];simp
  ·rw[yD e,h,uM (show ¬r.Ao=(k:Int) by omega)];simp
 ·rw[uI a,h];have:(PF b t r&&Yq N b t r)=false:=by rw[←xQ,uL];exact a
  rw[this];simp
def Xg {N:Nat}{b:AF}{t:Dr}{c:Nat}:∀(a:List BW) {A:List Bool}{x:Bool},A[c]? =some x→(Xh N b t A a)[c]? =some (x||a.any (Y5 N b t c))
 |[],A,x,h=>by rw[show Xh N b t A []=A from rfl,h];simp
 |r::a,A,x,h=>by
  rw[show Xh N b t A (r::a)=Xh N b t (Ld N b t A r) a from rfl,Xg a (YT h r),List.any_cons,Bool.or_assoc]
def Xf {N:Nat}{b:AF}{t:Dr}:∀(a:List BW) (A:List Bool),(Xh N b t A a).length=A.length
 |[],A=>rfl
 |r::a,A=>by rw[show Xh N b t A (r::a)=Xh N b t (Ld N b t A r) a from rfl,Xf a,YS]
def bV {N:Nat}(o:18446744073709551616<N) {b:AF}(v:∀p∈b.E,Cp p.Ba) (t:Dr) (c:List BW) (x:c.length≤100) (q:∀r∈c,AA r.Value.B∧AA r.Value.A) {y:Nat}(s:y<b.Ab.length):Ir N b t c (y:Int)=some (c.any (Y5 N b t y)):=by
 unfold Ir;rw[A9 s];simp only[uF,Fb,Lk];have a:∀r:BW,r.Ao=(y:Int)→PF b t r= !(decide ((b.Ab[y]).F≠0)||decide ((b.Ab[y]).W≠t.Ah)):=λr e=>by
  have l:dY b r=true:=by unfold dY;rw[e];simp;omega
  have m:gG b r=b.Ab[y]:=by unfold gG;rw[e,A9 s];rfl
  unfold PF;rw[l,m,wW]
 cases u:(decide ((b.Ab[y]).F≠0)||decide ((b.Ab[y]).W≠t.Ah))
 ·rw[uH];rw[u] at a;have w:∀n (k:Nat),c.length<n+k→k≤c.length→Du N b t c (y:Int) (Gl N) n (k:Int)=some ((c.drop k).any (Y5 N b t y)):=by
   intro n
   induction n with
   |zero=>intro k l m;omega
   |succ n j=>
    intro k l m;simp only[Du];rcases vG k c.length with d|d
    ·have i:=q _ (vA d);rw[Ei d,uG,A9 d,yI d,List.any_cons];simp only[uF,Hm,BE (show k<4611686018427387904 by omega)];have j:=j (k+1) (by omega) (by omega);generalize c[k]=r at i
     by_cases e:r.Ao=(y:Int)
     ·rw[show decide (r.Ao≠(y:Int))=false by simp [e],uH,dG o v r i,(VO o b r).1,uF];have:Y5 N b t y r=((X1 N b r).2&&decide (t.Be<(X1 N b r).1.B)):=by
       unfold Y5;rw[a r e,uK e];unfold Yq;simp
      rw[this];cases ((X1 N b r).2&&decide (t.Be<(X1 N b r).1.B))
      ·rw[uH,j,wH]
      ·rfl
     ·rw[show decide (r.Ao≠(y:Int))=true by simp [e],uG,j];have:Y5 N b t y r=false:=by
       unfold Y5;rw[uM e];simp
      rw[this,wH]
    ·rw[ES d,uH];have:k=c.length:=by omega
     subst this;rw[List.drop_length];rfl
  have:=w N 0 (by omega) (uO _);rwa [List.drop_zero] at this
 ·rw[uG];rw[u] at a;congr 1;symm;rw[List.any_eq_false];intro r q;unfold Y5;by_cases e:r.Ao=(y:Int)
  ·rw[a r e];simp
  ·rw[uM e];simp
def dI {N:Nat}(q:18446744073709551616<N) {b:AF}(w:∀p∈b.E,Cp p.Ba) (y:b.Ab.length≤128) (a:Int) (c:List BW) (u:c.length≤100) (z:∀r∈c,AA r.Value.B∧AA r.Value.A):∃v,JZ N b a c=some v∧HV N b a c=some v:=by
 by_cases i:0≤a∧a<b.Ad.length
 ·obtain⟨t,et,_⟩:=Tj (l:=b.Ad) i.1 i.2;refine⟨_,YZ q b a t c u y et,?_⟩;unfold HV;rw[show (decide (a<0)||decide ((b.Ad.length:Int)≤a))=false by simp only[vH,vC];omega,uH];have d:(Xh N b t (A0 b) c).length=b.Ab.length:=by rw[Xf];simp [A0]
  have get:∀H (h:H<b.Ab.length),(Xh N b t (A0 b) c)[H]? =some (c.any (Y5 N b t H)):=λH h=>by
   rw[Xg c (x:=false) (by simp [A0,h]),wH]
  unfold Q;generalize Xh N b t (A0 b) c=A at d get
  unfold aD;obtain⟨n,C,e⟩:=Gi b.Ab.length (λf k (s:Int)=>C0 N b a c (Dh N b a) f s k) (Dh N b a) (λk s=>s=(((A.take k).count true:Nat):Int)) (λf k s j=>by
   simp only[C0];rw[ES j];rfl) (λf k s D j=>by
   have m:k<A.length:=by omega
   have o:=get k j;rw[uU m] at o;have o:=uX o;have F:(A.take (k+1)).count true=(A.take k).count true+(if A[k]=true then 1 else 0):=by
    rw[J3 m,List.count_append];cases A[k]<;>simp
   have G:(A.take k).count true≤k:=wP List.count_le_length (by rw[vV];omega);refine⟨_,rfl,?_⟩;rw[F,o];simp only[C0];rw[Ei j,uG,et,uF,bV q w t c u z j,uF,D];unfold HU;rw[BE (show k<4611686018427387904 by omega),BE (show(A.take k).count true<4611686018427387904 by omega)];cases c.any (Y5 N b t k)<;>rfl) N 0 0 (by simp) (by omega) (uO _)
  rw[show C0 N b a c (Dh N b a) N 0 0=_ from e,C,←d,wQ];unfold Dh;rw[et];simp only[uF,Fb];congr 1;by_cases h0:0<t.Ay
  ·rw[uK h0,uM (show ¬t.Ay≤0 by omega)];rfl
  ·rw[uM h0,uK (show t.Ay≤0 by omega)];rfl
 ·refine⟨false,?_,?_⟩
  ·unfold JZ;rw[show (decide (a<0)||decide ((b.Ad.length:Int)≤a))=true by simp only[uZ,uY];omega];rfl
  ·unfold HV;rw[show (decide (a<0)||decide ((b.Ad.length:Int)≤a))=true by simp only[uZ,uY];omega];rfl
def kA {S:Nat→Prop}{h:AX}{v:Value}{l:List BT}(k:Sl S h D2 v l):∀x∈l,∀t∈x.Ag,AA t.Al:=λx a t b=>by
 obtain⟨cs,h0⟩:=k.rdx a;have k:Rd S h D2 (.agg cs.toArray) x:=by first|exact⟨_,rfl,h0⟩|exact⟨cs,rfl,h0⟩
 exact ZL k t b
def ZY {S:Nat→Prop}{h:AX}{v:Value}{l:List BW}(k:Sl S h Dj v l):∀r∈l,AA r.Value.B∧AA r.Value.A:=λr a=>by
 obtain⟨cs,_,b⟩:=k.rdx a;exact b.2.2
def dD {N:Nat}(i:18446744073709551616<N) (m:Iv N=some true) (b:AF) (c:Int) (h:BV) (a:List Ci) (d:List BT) (sure:List Bool) (ahead:Int) (j:List BW) (n:b.E.length≤4398046511104) (o:a.length≤4398046511104) (G:h.N.length≤4398046511104) (q:∀x∈d,∀t∈x.Ag,AA t.Al) (s:∀r∈j,AA r.Value.B∧AA r.Value.A):HZ N b c h a d sure ahead j=some true:=by
 obtain⟨H,I,J⟩:=kF (N:=N) (by omega) b a d;obtain⟨K,M,Q⟩:=eC (N:=N) (by omega) b n a o;unfold HZ;rw[m,uF,I,uF,M,uF];cases D:((((!H|| !K)||decide (8<ahead))||decide (8<(sure.length:Int)))||decide (12<(j.length:Int))) with
 |true=>rfl
 |false=>
  simp only[vH,xD,vC] at D;obtain⟨⟨⟨⟨U,V⟩,h3⟩,h4⟩,h5⟩:=D;obtain⟨W,f2,f3,f4,y⟩:=J U;have z:=Q V;rw[uH];obtain⟨v,F,kv⟩:=Vc i b;rw[F,uF,uF];cases v with
  |false=>rfl
  |true=>
   obtain⟨k,X⟩:=mC i F;obtain⟨v,Y,Z⟩:=Yp (N:=N) (by omega) b k.head h (by omega);simp only[vL,uH];rw[Y,uF,uF];cases v with
   |false=>rfl
   |true=>
    have g:=Z.1 rfl;have aa:=g.hour;have hH:gU b h 0:=⟨by omega,g.vol,g.vols,g.que,⟨g.lks,g.kn⟩,by omega⟩
    have hi:RL d:=λx l=>⟨(y x l).1,(y x l).2.1,(y x l).2.2,q x l⟩
    have C:=k.head.ga;obtain⟨w,q1,q2⟩:=iW i k X.towns W hi (by omega) sure hH c a z (by omega) ahead (by omega);obtain⟨u,p1,p2⟩:=dI i (b:=b) (λp hp=>(k.places p hp).lev) C c j (by omega) s;rw[q1,q2,p1,p2];have:R6 w.v w.v=true:=by simp [R6,Y4]
    simp only[uF,vL,uH,uG,this,beq_self_eq_true]
def cZ:Iv BN=some true:=by decide +kernel
def WV (b:AF) (c:Int) (h:BV) (a:List Ci) (d:List BT) (sure:List Bool) (ahead:Int) (g:List BW) (i:b.E.length≤4398046511104) (j:a.length≤4398046511104) (k:h.N.length≤4398046511104) (l:∀x∈d,∀t∈x.Ag,AA t.Al) (m:∀r∈g,AA r.Value.B∧AA r.Value.A):HZ BN b c h a d sure ahead g=some true:=dD (by unfold BN;omega) cZ b c h a d sure ahead g i j k l m
open Go.ChangeShapes Go.WideShapes Go.ChangeAt Go.RowKit Go.Deep
def E7 {α}(P:Program) (t:TypeId) (r:BU α):Prop:=
 P.cellsOf t=r.sz∧∀{H:Type} {enc:TypeId×Value→H} {w:World} {c:Nat} {a:Nat→Bool} {d:Bool} {g:Nat} {cs:List Value} {x:DataW H×List MemPlace},
  DataW.trod enc P w c a d g t cs=some x→∃y,r.rd (λb=>b<w.heap.size) w.heap cs y
def dV {n:Int}(h:(Lit.int .i64 n).wf=true):AA n:=by
 simpa [Lit.wf,IntKind.min,IntKind.max,IntKind.signed,IntKind.bits,AA] using h
def Yd {P:Program}{t:TypeId}(i:P.cellsOf t=1) (j:P.underlying t=some (.int .i64)):E7 P t AY:=by
 refine⟨i,λ{H enc w d b g a cs x} h=>?_⟩;cases a with
 |zero=>simp [DataW.trod] at h
 |succ n=>
  unfold DataW.trod at h;simp only[j] at h;split at h<;>simp_all;rename_i k l m;obtain⟨⟨rfl,c⟩,_⟩:=h;subst m;exact⟨l,rfl,dV c⟩
def Wb {P:Program}{t:TypeId}(g:P.cellsOf t=1) (i:P.underlying t=some .bool):E7 P t BU.bool:=by
 refine⟨g,λ{H enc w c b d a cs x} h=>?_⟩;cases a with
 |zero=>simp [DataW.trod] at h
 |succ n=>
  unfold DataW.trod at h;simp only[i] at h;split at h<;>first|(exact ⟨_,rfl⟩)|simp_all
def Yc {P:Program}{t:TypeId}(g:P.cellsOf t=1) (i:P.underlying t=some .string):E7 P t BU.str:=by
 refine⟨g,λ{H enc w c b d a cs x} h=>?_⟩;cases a with
 |zero=>simp [DataW.trod] at h
 |succ n=>
  unfold DataW.trod at h;simp only[i] at h;split at h<;>simp_all;exact⟨_,rfl,h.1⟩
def R3 {α}{p:Nat→α→Prop}:∀n,(∀i,i<n→∃x,p i x)→∃l:List α,l.length=n∧∀i x,l[i]? =some x→p i x
 |0,_=>⟨[],rfl,λi x h=>by simp at h⟩
 |n+1,h=>by
  obtain⟨l,b,c⟩:=R3 n λi d=>h i (by omega);obtain⟨x,g⟩:=h n (by omega);refine⟨l++[x],by simp [b],λi y a=>?_⟩;rw[List.getElem?_append] at a;split at a
  ·exact c i y a
  ·rename_i d;have:i-l.length=0:=by
    have:=(uV.1 a).1;simp at this;omega
   rw[this] at a;simp at a;subst a;have:i=n:=by omega
   subst this;exact g
def Gt {P:Program}{t e:TypeId}{α}{r:BU α}(Q:P.cellsOf t=1) (U:P.underlying t=some (.slice e)) (A:E7 P e r) (V:Nat.blt 0 r.sz=true):E7 P t (BU.sl r):=by
 refine⟨Q,λ{H enc w J B K M cs x} h=>?_⟩;have k:0<r.sz:=(by simpa [Nat.blt] using V:1≤r.sz)
 rcases open_slice U h with ⟨rfl,_⟩|⟨a,len,cap,m,n,D,Pl,rfl,hb,hlc,hcm,hm,_,hel⟩
 ·exact⟨[],_,rfl,.inl ⟨rfl,rfl⟩⟩
 ·have W:len≤m:=by rw[hm];split<;>omega
  obtain⟨l,X,C⟩:=R3 (p:=λi x=>a.spot=none∧Pt (λb=>b<w.heap.size) w.heap r (.pointer (some ⟨a.block,a.off+i*r.sz,none⟩)) x) len λi hi=>by
   obtain⟨cs',F,G⟩:=hel i (by omega);obtain⟨y,Y⟩:=A.2 G;obtain⟨_,q,JT⟩:=World.cells?_some F;rw[A.1] at q JT;have u:a.spot=none:=by
    obtain⟨v,I,_⟩:=hel 0 (by omega);obtain⟨_,g,c⟩:=World.cells?_some I;rw[A.1] at g c;have h0:=c 0 k;have Z:(a.add (0*r.sz)).add 0=a:=by simp [Addr.add]
    rw[Z] at h0;cases hs:a.spot with
    |none=>rfl
    |some s=>
     have:w.cell? a=none:=by
      unfold World.cell?;split
      ·simp [hs]
      ·rfl
     rw[this] at h0;have:v[0]? =some (v[0]'(by omega)):=uU (by omega);rw[this] at h0;cases h0
   obtain⟨b,o,s⟩:=a;simp only at u;subst u;have d:∀j,((⟨b,o,none⟩:Addr).add (i*r.sz)).add j=⟨b,o+i*r.sz+j,none⟩:=by
    intro j;have e1:(⟨b,o,none⟩:Addr).add (i*r.sz)=⟨b,o+i*r.sz,none⟩:=by unfold Addr.add;split<;>simp_all
    rw[e1];unfold Addr.add;split<;>simp_all
   have z:b<w.heap.size:=by
    have h0:=JT 0 k;rw[d] at h0;have:cs'[0]? =some (cs'[0]'(by omega)):=uU (by omega);rw[this] at h0;exact World.block_lt_of_cell? w _ h0
   refine⟨y,rfl,cs',⟨⟨b,o+i*r.sz,none⟩,rfl,rfl,z,λj hj=>?_⟩,Y⟩;have:=JT j (by omega);rw[d] at this;exact this
  exact⟨l,_,rfl,.inr ⟨a,cap,by rw[X],by omega,hcm,C⟩⟩
def D3 {P:Program}{t:TypeId}{l:Array Field}(q:P.underlying t=some (.struct l)) {H:Type}{enc:TypeId×Value→H}{w:World}{c:Nat}{a:Nat→Bool}{d:Bool}{g:Nat}{cs:List Value}{x:DataW H×List MemPlace}
  (h:DataW.trod enc P w c a d g t cs=some x):cs.length=P.cellsOf t∧∀(j:Nat) (f:Field) {v} (r:BU v),l[j]? =some f→E7 P f.type r→∃y,r.rd (λb=>b<w.heap.size) w.heap ((cs.drop f.offset).take r.sz) y:=by
 obtain⟨xs,n,_,_,s,i,u⟩:=DataW.trod_struct q h;refine⟨s,λj f v r m o=>?_⟩;have p:=u j f m;have k:j<xs.length:=by rw[i];exact(vJ.1 m).1
 rw[uU k,o.1] at p;exact o.2 p
def bQ {P:Program}{t:TypeId}{l:Array Field}{α}{r:BU α}(m:E7 P t r) (i:r.ag=true) (n:P.underlying t=some (.struct l)) {H:Type}{enc:TypeId×Value→H}{w:World}{j:Reach}{o c:Nat}{a:Nat→Bool}{g:Bool}{v:Value}{d:DataW H}{p:List MemPlace}
  (q:Value.okWide P w j o t v) (h:DataW.Trod enc P w c a g t v d p):∃y,Rd (λb=>b<w.heap.size) w.heap r v y:=by
 obtain⟨cs,rfl,_⟩:=okWide_struct n q;obtain⟨k,s⟩:=h;obtain⟨y,u⟩:=m.2 s;exact⟨y,cs.toList,by simp [BU.val,i],u⟩
def Yx {v:Value}{c:Value}(h:v.cells.toList=[c]) (a:c.oneCell'=true):v=c∨∃cs,v= .agg cs:=by
 cases v<;>first|(right;exact⟨_,rfl⟩)|(left;simpa [Value.cells] using h)
def Po {P:Program}{t:TypeId}{α}{r:BU α}(u:E7 P t r) (m:r.ag=false) (n:r.sz=1) {H:Type}{enc:TypeId×Value→H}{w:World}{g:Nat}{a:Nat→Bool}{i:Bool}{v:Value}{d:DataW H}{p:List MemPlace}
  (o:∀cs,v≠ .agg cs) (h:DataW.Trod enc P w g a i t v d p):∃y,Rd (λb=>b<w.heap.size) w.heap r v y:=by
 obtain⟨q,x⟩:=h;obtain⟨y,l⟩:=u.2 x;have s:=r.len l;rw[n] at s
 match j:v.cells.toList,s with
 |[c],_=>
  rw[j] at l;have k:=r.one l c (by simp);rcases Yx j k with rfl|⟨cs,rfl⟩
  ·exact⟨y,[v],by simp [BU.val,m],l⟩
  ·exact absurd rfl (o cs)
def Qu {P:Program}{t e:TypeId}(b:P.underlying t=some (.slice e)) {w:World}{a:Reach}{c:Nat}{v:Value}(d:Value.okWide P w a c t v):∀cs,v≠ .agg cs:=by
 rintro cs rfl;simp [Value.okWide,b,Cell.okWide,Cell.ok] at d
def Ze {P:Program}{t:TypeId}{k:IntKind}(b:P.underlying t=some (.int k)) {w:World}{a:Reach}{c:Nat}{v:Value}(d:Value.okWide P w a c t v):∀cs,v≠ .agg cs:=by
 rintro cs rfl;simp [Value.okWide,b,Cell.okWide,Cell.ok] at d
def P7 {H:Type}{enc:TypeId×Value→H}{P:Program}(l:laidOutB P=true) {W m:World}(n:Below W.heap.size W m):
  ∀{j:List TypeId} {vs:List Value} {ds:List (DataW H)} {b:List MemPlace},(∀t∈j,P.readableRec t=true∧t<P.types.size)→DataW.TrodAll enc P W 0 (λ_=>true) true j vs ds b→(∀x∈b,x.block<W.heap.size)→
   ∀c:Nat→Bool,(∀x∈b,c x.block=true)→DataW.TrodAll enc P m 0 c true j vs ds b
 |[],vs,ds,b,_,h,_,c,_=>by
  obtain⟨rfl,rfl,rfl⟩:=trodAll_nil h;exact rfl
 |t::j,vs,ds,b,o,h,g,c,i=>by
  obtain⟨v,s,d,u,p,q,rfl,rfl,rfl,w,y⟩:=trodAll_cons h;obtain⟨z,A⟩:=o t (by simp);refine⟨p,q,WideElems.Trod_stays l z A w (λx a=>n.same (g x (by simp [a]))) (λx a=>i x (by simp [a])),?_,rfl⟩;exact P7 l n (λt k=>o t (by simp [k])) y (λx a=>g x (by simp [a])) c λx a=>i x (by simp [a])
def Zn {H:Type}{enc:TypeId×Value→H}{P:Program}{f:Func}{s:ChangeSpec}{W j:World}{args:Array Value}{ds d:List (DataW H)}{a:List MemPlace}{tb:TypeId}
  (n:laidOutB P=true) (g:f.params.toList.all (λt=>P.readableRec t&&decide (t<P.types.size))=true) (i:DataW.Whole enc P f.params.toList s.vars false W args.toList ds d a)
  (o:f.resultTypes= #[tb]) (q:P.underlying tb=some .bool) (b:s.vars=[]) (u:(s.fn H (ds++d)).results=[.lit (.bool true)]) (v:(s.fn H (ds++d)).args=ds) (w:(s.fn H (ds++d)).vars=[])
  (k:Below W.heap.size W j):s.post enc P f false true false false W args (.bool true) j:=by
 have c:∀p∈a,p.block<W.heap.size:=λp y=>i.lt p y;obtain⟨l,C,z,m,rfl,D,F⟩:=id i;rw[b] at m;obtain⟨rfl,rfl⟩:=trodVars_none m;simp only[vR] at*;refine⟨ds,[],l,[],l,[],by simpa using i,?_,?_,?_,?_,λh=>by cases h⟩
 ·simp only[vR];rw[u,o];exact trodAll_mk1 (shut_bool q true)
 ·simp only[vR];rw[v];refine P7 n k (λt A=>?_) z c _ λx B=>by simpa using c x B
  have:=uQ.1 g t A;simpa using this
 ·simp only[vR];rw[w,b];exact rfl
 ·exact k.frame _
def Yi {P:Program}{f:FuncId}{args:Array Value}{W:World}{L:(Nat→Prop)→AX→Prop}(k:CD P f args (λb=>b<W.heap.size) W.heap (λv S' h'=>v= .bool true∧L S' h')):
  Calls P f args W λe c=>e= .returned (.bool true)∧Below W.heap.size W c:=
 (k W W ⟨rfl,rfl,rfl,rfl⟩).mono λe c ⟨v,S',h',g,a,d,i,_⟩=>by
  subst g;subst i;exact⟨rfl,a.os,a.tape,a.out,by rw[a.heap];exact d.siz,λb j=>by rw[a.heap];exact d.same b j⟩
section
variable {H:Type}{enc:TypeId×Value→H}{P:Program}{w:World}{base:Nat}{spare:Nat→Bool}{held:Bool}
def Qi:∀{l:List TypeId}{ds:List (DataW H)}{j:Nat}{t:TypeId}{d:DataW H},l[j]? =some t→ds[j]? =some d→∀q∈d.weights P t,q∈DataW.weightsEach P l ds
 |[],_,j,t,d,h,_=>by cases j<;>cases h
 |_::_,[],j,t,d,_,h=>by cases j<;>cases h
 |a::l,x::ds,0,t,d,b,c=>λq g=>by
  cases b;cases c;simp only[DataW.weightsEach];exact xH _ g
 |a::l,x::ds,j+1,t,d,b,c=>λq g=>by
  simp only[DataW.weightsEach];exact zT _ (Qi (l:=l) (ds:=ds) (j:=j) b c q g)
def fR {R:Nat}{t e:TypeId}(d:P.underlying t=some (.slice e)) {b:Nat}{a:Option Addr}{len cap:Nat}{x:DataW H×List MemPlace}(h:DataW.trod enc P w base spare held b t [.slice a len cap]=some x) (g:∀q∈x.1.weights P t,q≤R):len*P.bytesOf e≤R:=by
 rcases open_slice d h with ⟨c,_⟩|⟨a',len',cap',m,n,D,Pl,c,_,_,_,_,rfl,_⟩
 ·cases c;omega
 ·cases c;simp only[DataW.weights,d] at g;have i:=g _ (vW ..);rw[vQ,yG] at i;exact wP (wM _ (Nat.le_add_right _ _)) i
def nO {t:TypeId}{i:Array Field}(k:P.underlying t=some (.struct i)) {a:Nat}{cs:List Value}{x:DataW H×List MemPlace}(h:DataW.trod enc P w base spare held a t cs=some x) {j:Nat}{f:Field}(g:i[j]? =some f):
  ∃n y,DataW.trod enc P w base spare held n f.type ((cs.drop f.offset).take (P.cellsOf f.type))=some y∧∀q∈y.1.weights P f.type,q∈x.1.weights P t:=by
 obtain⟨xs,n,_,m,s,b,o⟩:=DataW.trod_struct k h;have l:=o j f g;have c:j<xs.length:=by rw[b];exact(vJ.1 g).1
 rw[uU c] at l;refine⟨n,xs[j],l,λq p=>?_⟩;subst m;simp only[DataW.weights,k];refine Qi (j:=j) (t:=f.type) (d:=(xs[j]).1) ?_ ?_ q p
 ·rw[xG,Array.getElem?_toList,g];rfl
 ·rw[xG,uU c];rfl
def WB {R:Nat}{t:TypeId}{b:Array Field}(i:P.underlying t=some (.struct b)) {v u:Value}{d:DataW H}{p:List MemPlace}(h:DataW.Trod enc P w base spare held t v d p) (m:∀q∈d.weights P t,q≤R) {j:Nat}{f:Field}(o:b[j]? =some f) {e:TypeId}(s:P.underlying f.type=some (.slice e)) (x:P.cellsOf f.type=1)
  (z:(v.cells.toList.drop f.offset).take 1=[u]) {α} {S:Nat→Prop} {A:AX} {r:BU α} {l:List α} (k:Sl S A r u l):l.length*P.bytesOf e≤R:=by
 obtain⟨c,B⟩:=h;obtain⟨n,y,g,C⟩:=nO i B o;obtain⟨a,cap,rfl,_⟩:=k.len;rw[x,z] at g;exact fR s g λq D=>m q (C q D)
def bR {R:Nat}{t e:TypeId}(c:P.underlying t=some (.slice e)) {v:Value}{d:DataW H}{p:List MemPlace}(h:DataW.Trod enc P w base spare held t v d p) (g:∀q∈d.weights P t,q≤R) {α}{S:Nat→Prop}{i:AX}{r:BU α}{l:List α}(k:Sl S i r v l):l.length*P.bytesOf e≤R:=by
 obtain⟨b,j⟩:=h;obtain⟨a,cap,rfl,_⟩:=k.len;exact fR c j g
end
end Go.Proofs.YtibidnaedddfdaaGreat
