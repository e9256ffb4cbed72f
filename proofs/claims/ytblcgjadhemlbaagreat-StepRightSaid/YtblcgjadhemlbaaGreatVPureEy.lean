import Derived.Test.YtblcgjadhemlbaaGreatVPureEx
import Derived.Test.YtblcgjadhemlbaaGreatVPureGt
namespace Go.Proofs.YtblcgjadhemlbaaGreat
set_option linter.all false
open Go.RowKit
def XH:∀{a b:List Int},a.Perm b→a.sum=b.sum:=λi=>by
 induction i with
 |nil=>rfl
 |cons x _ c=>simp only[oU,c]
 |swap x y l=>simp only[oU];omega
 |trans _ _ d g=>exact d.trans g
def Jf:∀{l:List Int}{c:Int},(∀x∈l,x≤c)→l.sum≤l.length*c
 |[],c,_=>by simp
 |a::l,c,i=>by
  have d:=i a (oB ..)
  have g:=Jf (l:=l) (c:=c) λx b=>i x (oI _ b)
  rw[oU,qW,Int.natCast_succ,Int.add_mul,Int.one_mul]
  omega
def VI {lt:Int→Int→Bool}(R:Int→Int) (g:∀x y,lt x y=true→R y≤R x) (d:∀x y,lt x y=false→R x≤R y) (x:Int):∀l:List Int,l.Pairwise (λa b=>R b≤R a)→(Qs lt x l).Pairwise λa b=>R b≤R a
 |[],_=>by simp [Qs]
 |y::l,k=>by
  have j:∀z,z∈l→R z≤R y:=λz c=>List.rel_of_pairwise_cons k c
  unfold Qs
  cases i:lt y x with
  |true=>
   refine List.Pairwise.cons (λz c=>?_) (VI R g d x l k.of_cons)
   rcases nM.1 ((NJ lt x l).mem_iff.1 c) with rfl|c
   ·exact g _ _ i
   ·exact j z c
  |false=>
   refine List.Pairwise.cons (λz c=>?_) k
   rcases nM.1 c with rfl|c
   ·exact d _ _ i
   ·exact Int.le_trans (j z c) (d _ _ i)
def Tf {lt:Int→Int→Bool}(R:Int→Int) (c:∀x y,lt x y=true→R y≤R x) (d:∀x y,lt x y=false→R x≤R y):∀l:List Int,(Lv lt l).Pairwise λa b=>R b≤R a
 |[]=> .nil
 |x::l=>VI R c d x _ (Tf R c d l)
def W6 (c:List Int) (x y:Int):(O5 c x y=true→c.getD y.toNat 0≤c.getD x.toNat 0)∧(O5 c x y=false→c.getD x.toNat 0≤c.getD y.toNat 0):=by
 show(cond (!decide (c.getD x.toNat 0=c.getD y.toNat 0)) (decide (c.getD y.toNat 0<c.getD x.toNat 0)) (decide (x.toNat<y.toNat))=true→_)∧(cond (!decide (c.getD x.toNat 0=c.getD y.toNat 0)) (decide (c.getD y.toNat 0<c.getD x.toNat 0)) (decide (x.toNat<y.toNat))=false→_)
 generalize c.getD x.toNat 0=a
 generalize c.getD y.toNat 0=b
 by_cases d:a=b
 ·subst d;exact⟨λ_=>oA _,λ_=>oA _⟩
 ·rw[nL d,Bool.not_false,mW]
  exact⟨λd=>by have:=pR d;omega,λd=>by have:=of_decide_eq_false d;omega⟩
def Wp {n:Nat}{S:Int}(X:0<S) {b a:List Int}(H:b.length=n) (s:∀i,i<n→b[i]? =some (i:Int)) (I:a.length=n) (J:∀x∈a,0≤x∧x≤S-1) {p:Nat}(t:a.sum=p*S):∀x∈(Lv (O5 a) b).take p,0<a.getD x.toNat 0:=by
 intro x K
 have M:=LH (O5 a) b
 have u:=Tf (lt:=O5 a) (λx=>a.getD x.toNat 0) (λx y h=>(W6 a x y).1 h) (λx y h=>(W6 a x y).2 h) b
 have m:b.map (λx=>a.getD x.toNat 0)=a:=oR λi=>by
  rcases nT i n with h|h
  ·rw[pZ,s i h]
   have:i<a.length:=by omega
   simp [oT,this]
  ·rw[oE (by simp;omega),oE (by omega)]
 have C:((Lv (O5 a) b).map λx=>a.getD x.toNat 0).sum=p*S:=by
  rw[XH (M.map _),m,t]
 have v:∀y:Int,0≤a.getD y.toNat 0∧a.getD y.toNat 0≤S-1:=λy=>by
  rw[oT]
  cases h:a[y.toNat]? with
  |none=>exact⟨oA _,by show(0:Int)≤S-1;omega⟩
  |some z=>exact J z (oM h)
 generalize Lv (O5 a) b=l at*
 obtain⟨j,o⟩:=pS.1 K
 rw[rJ] at o
 split at o
 ·rename_i Q
  apply pY
  intro Y
  have g:a.getD x.toNat 0=0:=by have:=(v x).1;omega
  have d:∀y∈l.drop j,a.getD y.toNat 0=0:=λy q=>by
   obtain⟨k,w⟩:=pS.1 q
   rw[qM] at w
   have U:=(nK.1 o).1
   have V:=(nK.1 w).1
   have D:=(nK.1 o).2
   have F:=(nK.1 w).2
   rcases rM k with h0|h0
   ·subst h0
    have:y=x:=by rw[←D,←F];rfl
    rw[this];exact g
   ·have:=rK.1 u j (j+k) U V (by omega)
    rw[D,F,g] at this
    have:=(v y).1
    omega
  have W:((l.drop j).map λx=>a.getD x.toNat 0).sum≤0:=by
   have:=Jf (l:=(l.drop j).map λx=>a.getD x.toNat 0) (c:=0) λz g=>by
    obtain⟨y,q,rfl⟩:=oC.1 g
    exact Int.le_of_eq (d y q)
   omega
  have A:((l.take j).map λx=>a.getD x.toNat 0).sum≤(j:Int)*(S-1):=by
   have:=Jf (l:=(l.take j).map λx=>a.getD x.toNat 0) (c:=S-1) λz g=>by
    obtain⟨y,q,rfl⟩:=oC.1 g
    exact(v y).2
   have Z:((l.take j).map λx=>a.getD x.toNat 0).length≤j:=by simp;omega
   have:(((l.take j).map λx=>a.getD x.toNat 0).length:Int)*(S-1)≤(j:Int)*(S-1):=qK (by omega) (by omega)
   omega
  have G:(l.map λx=>a.getD x.toNat 0).sum=((l.take j).map λx=>a.getD x.toNat 0).sum+((l.drop j).map λx=>a.getD x.toNat 0).sum:=by
   rw[←pK,←qQ,List.take_append_drop]
  have B:((j:Int)+1)*S≤p*S:=qK (by omega) (by omega)
  rw[Int.add_mul,Int.one_mul] at B
  rw[Int.mul_sub,Int.mul_one] at A
  omega
 ·cases o
def V0 {N:Nat}(M:1000000<N) (l:List Int) (Q:l.length≤1000) (y:l.Nodup) {n:Nat}(c:∀x∈l,0≤x∧x<n) (a:List Int) (D:a.length=n) (F:∀x∈a, -4611686018427387904≤x∧x≤4611686018427387000):
  ∃r,FD N l (Gl N) N 0 a=some (r,true)∧r.length=n∧r.sum=a.sum+l.length∧∀(i:Nat) x,a[i]? =some x→r[i]? =some (x+if (i:Int)∈l then 1 else 0):=by
 obtain⟨s,⟨z,A,p⟩,e⟩:=EQ l.length (λm i s=>FD N l (Gl N) m i s) (Gl N) (λk s=>s.length=n∧s.sum=a.sum+k∧∀(i:Nat) x,a[i]? =some x→s[i]? =some (x+if (i:Int)∈l.take k then 1 else 0)) (λm k s d=>by
  simp only[FD];rw[E7 d];rfl) (λm k s G d=>by
  obtain⟨z,A,p⟩:=G
  simp only[FD]
  obtain⟨H,U⟩:=c _ (nP d)
  obtain⟨j,B,b⟩:=aE (l:=s) H (by omega)
  have g:j<a.length:=by omega
  have t:(j:Int)∉l.take k:=λI=>by
   obtain⟨q,w⟩:=pS.1 I
   rw[rJ] at w
   split at w
   ·rename_i C
    have J:=(nK.1 w).2
    exact rK.1 y q k (by omega) d C (by rw[J,B])
   ·cases w
  have u:s[j]=a[j]:=by
   have:=p j _ (nO g)
   rw[nB t,nO b] at this
   have:=mZ this
   omega
  have K:=F _ (nP g)
  rw[Ev d,mW,BS d,mV,B,BS b,mV,mV,mV,mV,u,DG (n:=a[j]+1) (by omega) (by omega),BX (by omega)]
  refine⟨_,⟨by rw[K0];exact z,?_,λi x c=>?_⟩,rfl⟩
  ·show(s.set (j:Int).toNat _).sum=_
   rw[oW,L7 b,A,u]
   omega
  ·have v:l.take (k+1)=l.take k++[(j:Int)]:=by rw[pO d,B]
   by_cases o:j=i
   ·subst o
    rw[GO b,v,nD (by simp)]
    rw[nO g] at c
    cases c
    rfl
   ·rw[IC o,p i x c,v]
    have:(i:Int)≠(j:Int):=λV=>o (by omega)
    simp [this]) N 0 a ⟨D,by simp,λi x c=>by simp [c]⟩ (by omega) (nE _)
 rw[oL] at p
 exact⟨s,e,z,A,p⟩
structure ShX (t S:Int) (w:List Int) (k:Nat) (s:Int×List Int×List Int×List Int):Prop where
 l1:s.2.1.length=w.length
 l2:s.2.2.1.length=w.length
 l3:s.2.2.2.length=w.length
 or_:∀i,i<k→s.2.1[i]? =some (i:Int)
 rm:∀i x,i<k→w[i]? =some x→s.2.2.1[i]? =some (t*x%S)
 qt:∀i x,i<k→w[i]? =some x→s.2.2.2[i]? =some (t*x/S)
 ex:s.1=t-((w.take k).map λx=>t*x/S).sum
def U3 {t S:Int}(b:0<S):∀w:List Int,S*(w.map λx=>t*x/S).sum+(w.map λx=>t*x%S).sum=t*w.sum
 |[]=>by simp
 |a::w=>by
  have c:=U3 (t:=t) b w
  have d:=Int.mul_ediv_add_emod (t*a) S
  simp only[oJ,oU]
  rw[Int.mul_add,Int.mul_add]
  omega
def W4 {N W:Nat}(hN:18446744073709551616<N) (hW:W≤64) {w:List Int}(o:PX W w) {t:Int}(C:0≤t∧t≤w.sum):∃q,JT N t w=some (q,true)∧T6 q w∧q.sum=t:=by
 have ar:=o.len
 have ag:=o.mv
 unfold JT
 rw[nL (show ¬64<(w.length:Int) by omega),mX]
 obtain⟨s,⟨i1,i2⟩,e⟩:=EQ w.length (λn i s=>FG N w (FI N t w) n s i) (FI N t w) (λk s=>s=(w.take k).sum∧0≤s) (λn k s g=>by
  simp only[FG];rw[E7 g];rfl) (λn k s p g=>by
  obtain⟨i1,i2⟩:=p
  have h1:=Fw o.nn (k+1)
  have B:=Fw o.nn k
  have G:=o.nn _ (nP g)
  rw[Hf g] at h1
  simp only[FG]
  rw[Ev g,mW,BS g,mV,DG (n:=1125899906842624-s) (by omega) (by omega),nL (show ¬w[k]<0 by omega),nL (show ¬1125899906842624-s<w[k] by omega),pT,mX,BX (by omega),DG (n:=s+w[k]) (by omega) (by omega)]
  exact⟨_,⟨by rw[Hf g,i1],by omega⟩,rfl⟩) N 0 0 ⟨rfl,oA _⟩ (by omega) (nE _)
 rw[show FG N w (FI N t w) N 0 0=FI N t w s from e]
 rw[oL] at i1
 subst i1
 unfold FI
 rw[nL (show ¬t<0 by omega),nL (show ¬w.sum<t by omega),pT,mX,IM (by omega) _ (by decide)]
 by_cases U:w.sum=0
 ·rw[nW U,mW]
  refine⟨_,rfl,⟨MC _ _,λi x y a D=>?_⟩,by simp;omega⟩
  rw[qG] at a
  split at a
  ·cases a;exact⟨oA _,o.nn y (oM D)⟩
  ·cases a
 rw[nL U,mX,IM (by omega) _ (by decide),IM (by omega) _ (by decide)]
 have u:0<w.sum:=by have:=o.sum0;omega
 have h1:1≤w.length:=by
  cases w with
  |nil=>exact absurd rfl U
  |cons _ _=>simp
 obtain⟨⟨v,A,b,q⟩,⟨K,M,V,F,X,Y,Q⟩,e3⟩:=EQ w.length (λn i (s:Int×List Int×List Int×List Int)=>FE N t w w.sum (FH N) n s.1 i s.2.1 s.2.2.1 s.2.2.2) (λs=>FH N s.1 s.2.1 s.2.2.1 s.2.2.2) (λk s=>ShX t w.sum w k s) (λn k s g=>by
  simp only[FE];rw[E7 g];rfl) (λn k s p g=>by
  obtain⟨v,A,b,q⟩:=s
  obtain⟨K,M,V,F,X,Y,Q⟩:=p
  simp only at K M V F X Y Q
  have w0:=o.nn _ (nP g)
  have wS:=Hg o.nn _ (nP g)
  have hq:=Xg (t:=t) (n:=w[k]) (d:=w.sum) (by omega) wS C.1
  have au:=Ti (t:=t) (n:=w[k]) (d:=w.sum) (by omega) w0 C.1
  have ah:v≤t∧ -(k:Int)*1125899906842624≤v:=by
   have h1:0≤((w.take k).map λx=>t*x/w.sum).sum:=Pe λx a=>Ti (by omega) (o.nn x (rN a)) C.1
   have B:((w.take k).map λx=>t*x/w.sum).sum≤(((w.take k).map λx=>t*x/w.sum).length:Int)*1125899906842624:=Jf λz U=>by
    obtain⟨x,a,rfl⟩:=oC.1 U
    have:=Xg (t:=t) (n:=x) (d:=w.sum) (by omega) (Hg o.nn x (rN a)) C.1
    omega
   have G:((w.take k).map λx=>t*x/w.sum).length=k:=by simp;omega
   rw[G] at B
   rw[Int.neg_mul]
   omega
  have aq:(k:Int)*1125899906842624≤64*1125899906842624:=qK (by omega) (by decide)
  rw[Int.neg_mul] at ah
  simp only[FE]
  rw[Ev g,mW,BS g,mV,Mp hN,bQ ⟨C.1,by omega⟩ ⟨w0,by omega⟩ ⟨by omega,ag⟩ (by omega)]
  simp only[mV,BS (show k<A.length by omega),BS (show k<b.length by omega),BS (show k<q.length by omega)]
  rw[BX (by omega),DG (n:=v-t*w[k]/w.sum) (by omega) (by omega)]
  refine⟨⟨_,_,_,_⟩,⟨by show(upd A _ _).length=_;rw[K0];exact K,by show(upd b _ _).length=_;rw[K0];exact M,by show(upd q _ _).length=_;rw[K0];exact V,λi p=>?_,λi x p a=>?_,λi x p a=>?_,?_⟩,rfl⟩
  ·show(upd A (k:Int) (k:Int))[i]? =_
   by_cases m:k=i
   ·subst m;exact GO (by omega) _
   ·rw[IC m];exact F i (by omega)
  ·show(upd b (k:Int) _)[i]? =_
   by_cases m:k=i
   ·subst m
    rw[nO g] at a
    cases a
    exact GO (by omega) _
   ·rw[IC m];exact X i x (by omega) a
  ·show(upd q (k:Int) _)[i]? =_
   by_cases m:k=i
   ·subst m
    rw[nO g] at a
    cases a
    exact GO (by omega) _
   ·rw[IC m];exact Y i x (by omega) a
  ·show v-t*w[k]/w.sum=_
   rw[Ot g,Q]
   omega) N 0 (t,List.replicate ((w.length:Int)).toNat 0,List.replicate ((w.length:Int)).toNat 0,List.replicate ((w.length:Int)).toNat 0) ⟨MC _ _,MC _ _,MC _ _,λi p=>by omega,λi x p=>by omega,λi x p=>by omega,by simp⟩ (by omega) (nE _)
 simp only at K M V F X Y Q
 rw[show FE N t w w.sum (FH N) N t 0 _ _ _=FH N v A b q from e3]
 have H:b=w.map λx=>t*x%w.sum:=oR λi=>by
  rcases nT i w.length with h|h
  ·rw[X i _ h (nO h),pZ,nO h];rfl
  ·rw[oE (by omega),oE (by simp;omega)]
 have I:q=w.map λx=>t*x/w.sum:=oR λi=>by
  rcases nT i w.length with h|h
  ·rw[Y i _ h (nO h),pZ,nO h];rfl
  ·rw[oE (by omega),oE (by simp;omega)]
 rw[oL] at Q
 have av:=U3 (t:=t) u w
 have J:∀x∈b,0≤x∧x≤w.sum-1:=λx a=>by
  rw[H] at a
  obtain⟨y,_,rfl⟩:=oC.1 a
  have B:=Int.emod_nonneg (t*y) (show w.sum≠0 by omega)
  have G:=Int.emod_lt_of_pos (t*y) u
  omega
 have Z:b.sum=v*w.sum:=by
  have hc:=Int.mul_comm w.sum (w.map λx=>t*x/w.sum).sum
  rw[H,Q,Int.sub_mul,←hc]
  omega
 have aw:0≤b.sum:=I0 λx a=>(J x a).1
 have ai:b.sum≤(w.length:Int)*w.sum:=by
  have B:=Jf (l:=b) (c:=w.sum-1) λx a=>(J x a).2
  rw[M,Int.mul_sub,Int.mul_one] at B
  omega
 have x0:0≤v:=by
  by_cases aa:v<0
  ·have:v*w.sum<0:=Int.mul_neg_of_neg_of_pos aa u
   omega
  ·omega
 have x1:v≤w.length:=Int.le_of_mul_le_mul_right (by rw[←Z];exact ai) u
 obtain⟨en,rfl⟩:∃en:Nat,v=en:=⟨v.toNat,by omega⟩
 have hp:=LH (O5 b) A
 have ab:∀x∈A,0≤x∧x<(w.length:Int):=λx a=>by
  obtain⟨i,p⟩:=pS.1 a
  have ax:=(nK.1 p).1
  have B:=F i (by omega)
  rw[p] at B
  cases B
  omega
 have aj:A.Nodup:=rK.2 λi j p hj ay h=>by
  have B:=F i (by omega)
  have G:=F j (by omega)
  rw[nO p] at B
  rw[nO hj] at G
  have B:=mZ B
  have G:=mZ G
  omega
 have ac:=Wp u K F M J Z
 have hs:P3 A b=some (Lv (O5 b) A):=by
  unfold P3
  rw[nD ⟨by omega,by omega,by omega,nC.2 λx a=>by
   have:=ab x a
   simp only[mY,nR]
   omega⟩]
 have ad:(Lv (O5 b) A).length=w.length:=by rw[hp.length_eq];exact K
 have ae:((Lv (O5 b) A).take en).Nodup:=List.Nodup.sublist (List.take_sublist _ _) (hp.nodup_iff.2 aj)
 have ak:∀x∈q,0≤x∧x≤t:=λx a=>by
  rw[I] at a
  obtain⟨y,D,rfl⟩:=oC.1 a
  exact⟨Ti (by omega) (o.nn y D) C.1,Xg (by omega) (Hg o.nn y D) C.1⟩
 unfold FH kP
 rw[hs,mV,nD ⟨x0,by omega,by omega⟩,mV,oW]
 obtain⟨r,er,r1,r2,r3⟩:=V0 (N:=N) (by omega) ((Lv (O5 b) A).take en) (by rw[pD];omega) ae (n:=w.length) (λx a=>ab x (hp.mem_iff.1 (rN a))) q V (λx a=>by have:=ak x a;omega)
 refine⟨r,er,⟨r1,λi x y a D=>?_⟩,?_⟩
 ·have al:q[i]? =some (t*y/w.sum):=by rw[I,pZ,D];rfl
  have am:b[i]? =some (t*y%w.sum):=by rw[H,pZ,D];rfl
  rw[r3 i _ al] at a
  have a:=mZ a
  have af:=o.nn y (oM D)
  have az:=Hg o.nn y (oM D)
  have g0:=Ti (t:=t) (n:=y) (d:=w.sum) (by omega) af C.1
  have a0:=Int.mul_ediv_add_emod (t*y) w.sum
  have a1:t*y≤w.sum*y:=qK C.2 af
  split at a
  ·rename_i hm
   have an:=ac _ hm
   rw[oW,oT,am,oV] at an
   have ao:w.sum*(t*y/w.sum)<w.sum*y:=by omega
   have:=Int.lt_of_mul_lt_mul_left ao (by omega)
   omega
  ·have ap:w.sum*(t*y/w.sum)≤w.sum*y:=by
    have:=Int.emod_nonneg (t*y) (show w.sum≠0 by omega)
    omega
   have:=Int.le_of_mul_le_mul_left ap u
   omega
 ·rw[r2,pD,ad,I,qZ (by omega)]
  omega
def Yp {N W:Nat}(v:18446744073709551616<N) (w:W≤64) {p:List Int}(a:PX W p) (n:Int):∃t,Kc N p n=some (t,IB p t)∧T6 t p∧t.sum=max 0 (min n p.sum):=by
 have z:=a.len
 have m:T6 (List.replicate W 0) p:=⟨by simp [a.len],λi x y g A=>by
  rw[qG] at g
  split at g
  ·cases g;exact⟨oA _,a.nn y (oM A)⟩
  ·cases g⟩
 have o:∀t,T6 t p→G0 N p t=some (t,IB p t):=λt B=>by
  unfold G0
  rw[a.wo (by omega) (by omega) (B.sub a).2.2,mV]
 have C:List.replicate ((p.length:Int)).toNat (0:Int)=List.replicate W 0:=by rw[a.len];rfl
 have D:=a.sum0
 unfold Kc
 rw[IM (by omega) _ (by decide),C]
 by_cases q:0<n
 ·rw[nW q,nW (show(p.length:Int)≤64 by omega)]
  have b:Gs N p=some true:=by
   unfold Gs
   obtain⟨s,⟨u,F⟩,e⟩:=EQ p.length (λn i s=>DT N p (E4 N) n s i) (λ_=>E4 N) (λk s=>s=(p.take k).sum∧0≤s) (λn k s c=>by
    simp only[DT];rw[E7 c];rfl) (λn k s G c=>by
    obtain⟨u,F⟩:=G
    have H:=Fw a.nn (k+1)
    have J:=Fw a.nn k
    have K:=a.nn _ (nP c)
    have M:=a.mv
    rw[Hf c] at H
    simp only[DT]
    rw[Ev c,mW,BS c,mV,DG (n:=1125899906842624-s) (by omega) (by omega),nL (show ¬p[k]<0 by omega),nL (show ¬1125899906842624-s<p[k] by omega),pT,mX,BX (by omega),DG (n:=s+p[k]) (by omega) (by omega)]
    exact⟨_,⟨by rw[Hf c,u],by omega⟩,rfl⟩) N 0 0 ⟨rfl,oA _⟩ (by omega) (nE _)
   exact e
  obtain⟨j,e,l,d⟩:=W4 v w a (t:=min n p.sum) ⟨by omega,by omega⟩
  rw[Bool.and_self,mW,b,mV,mV,mW,a.total (by omega) (by omega),mV,e,mV,mW]
  unfold JA
  have I:NO (List.replicate W (0:Int)) j=j:=YF (by rw[l.len,z];simp)
  rw[I]
  exact⟨j,o j l,l,by rw[d];omega⟩
 ·rw[nL q,Bool.false_and,mX,mV,mX]
  exact⟨_,o _ m,m,by rw[Rv];omega⟩
end Go.Proofs.YtblcgjadhemlbaaGreat
