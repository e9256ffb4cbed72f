import Derived.Test.YtibidnaedddfdaaGreatAPureBits
namespace Go.Proofs.YtibidnaedddfdaaGreat
open Go.RowKit
set_option linter.unusedVariables false
set_option linter.unusedSimpArgs false
theorem Df.mk {α}(v:α):Df (some v):=⟨v,rfl⟩
theorem Df.bind {α β}{a:Option α}{f:α→Option β}(h:Df a) (k:∀v,a=some v→Df (f v)):Df (Option.bind a f):=by
 obtain⟨v,hv⟩:=h
 obtain⟨u,hu⟩:=k v hv
 exact⟨u,by rw[hv];exact hu⟩
theorem Df.cond {α}{b:Bool}{x y:Option α}(h1:b=true→Df x) (h2:b=false→Df y):Df (cond b x y):=by
 cases b
 ·exact h2 rfl
 ·exact h1 rfl
theorem C2 {α}(b:Bool) (x y:α):cond b (some x) (some y)=some (cond b x y):=by cases b<;>rfl
theorem A9 {α}{l:List α}{i:Nat}(h:i<l.length):ix l (i:Int)=some l[i]:=by simp [ix,h]
theorem Df.ix {α}{l:List α}{i:Int}(h0:0≤i) (h:i<l.length):Df (ix l i):=by
 obtain⟨j,rfl⟩:∃j:Nat,i=j:=⟨i.toNat,by omega⟩
 exact⟨_,A9 (by omega)⟩
theorem E6 {n:Int}(h0: -9223372036854775808≤n) (h1:n≤9223372036854775807):Ar n=n:=Ka ⟨h0,h1⟩
theorem V8 {n:Int}:∃j,No (IntKind.u64.wrap n)=some j∧(j:Int)=IntKind.u64.wrap n:=by
 have:=(KO.1 (Cf .u64 n)).1
 exact⟨(IntKind.u64.wrap n).toNat,by unfold No;rw[if_neg (by omega)],by omega⟩
theorem QK {k:IntKind}{x y:Int}(h:y≠0):Df (Oj k x y):=⟨_,by unfold Oj;rw[if_neg h]⟩
theorem Vm {x y:Int}(h:y≠0):Df (QJ x y):=⟨_,by unfold QJ;rw[if_neg h]⟩
theorem Th (N:Nat) (lo y:Int) (j14 j17:Nat) (kj:Int→Option (Int×Int)) (hk:∀v,Df (kj v)):∀(n:Nat) (q r:Int),IntKind.u64.has q→q.toNat<n→Df (Co N lo y j14 j17 kj n q r)
 |0,q,r,h,hn=>by omega
 |n+1,q,r,h,hn=>by
  have hh:=KO.1 h
  unfold Co
  refine Df.cond (λhc=>?_) λ_=>hk _
  have h0:q≠0:=by
   rintro rfl
   have:=(KO.1 (Cf .u64 (IntKind.u64.wrap (4294967296*r)+Ci .u64 (Cu .u64 lo j17) 32))).1
   simp [PO] at hc this
   omega
  have e:IntKind.u64.wrap (q-1)=q-1:=MZ (KO.2 (by omega))
  refine Df.cond (λ_=>hk _) λ_=>?_
  exact Th N lo y j14 j17 kj hk n _ _ (Cf _ _) (by rw[e];omega)
theorem Tg (N:Nat) (lo y:Int) (j14 j17:Nat) (kj:Int→Option (Int×Int)) (hk:∀v,Df (kj v)):∀(n:Nat) (r q:Int),IntKind.u64.has q→q.toNat<n→Df (Cn N lo y j14 j17 kj n r q)
 |0,r,q,h,hn=>by omega
 |n+1,r,q,h,hn=>by
  have hh:=KO.1 h
  unfold Cn
  refine Df.cond (λhc=>?_) λ_=>hk _
  have h0:q≠0:=by
   rintro rfl
   have:=(KO.1 (Cf .u64 (IntKind.u64.wrap (4294967296*r)+F8 .and .u64 (Cu .u64 lo j17) 4294967295))).1
   simp [PO] at hc this
   omega
  have e:IntKind.u64.wrap (q-1)=q-1:=MZ (KO.2 (by omega))
  refine Df.cond (λ_=>hk _) λ_=>?_
  exact Tg N lo y j14 j17 kj hk n _ _ (Cf _ _) (by rw[e];omega)
def BN:Nat:=36893488147419103232
theorem Ua {yn s:Nat}(hs:s≤63) (e3:9223372036854775808≤yn*2^s) (e4:yn*2^s<18446744073709551616):Ci .u64 (Cu .u64 (yn:Int) s) 32≠0:=by
 have e9:Cu .u64 (yn:Int) s=((yn*2^s:Nat):Int):=by
  unfold Cu
  have hm:min s IntKind.u64.bits=s:=by simp [IntKind.bits];omega
  have hp:((yn:Int)*2^s)=((yn*2^s:Nat):Int):=by simp
  rw[hm,hp]
  exact G2 _ e4
 rw[e9,Sb]
 generalize yn*2^s=t at e3 e4
 omega
theorem V5 (N:Nat) (hi lo y y8:Int) (j14 j15 j16 j17:Nat) (q v:Int):Df (DW N hi lo y y8 j14 j15 j16 j17 q v):=by
 unfold DW
 obtain⟨j,hj,_⟩:=V8 (n:=y8)
 rw[hj]
 exact Df.mk _
theorem V6 {N:Nat}(hN:18446744073709551616<N) (hi lo y y8:Int) (j14 j15 j16 j17:Nat) (q:Int) (hd:Ci .u64 (Cu .u64 y j14) 32≠0):Df (DX N hi lo y y8 j14 j15 j16 j17 q):=by
 unfold DX
 refine Df.bind (QK hd) λz41 hz41=>?_
 have hz41h:=Km hz41
 have hlt:=(KO.1 hz41h)
 exact Tg N lo y j14 j17 _ (λv=>V5 _ _ _ _ _ _ _ _ _ _ _) N _ z41 hz41h (by omega)
theorem P1 {N:Nat}(hN:18446744073709551616<N) {hi lo y:Int}(h1:IntKind.u64.has hi) (h2:IntKind.u64.has lo) (h3:IntKind.u64.has y) (h:hi<y):Df (Ed N hi lo y):=by
 have g1:=KO.1 h1
 have hy0:y≠0:=by omega
 have hyh:¬y≤hi:=by omega
 unfold Ed
 refine Df.cond (λhc=>absurd (of_decide_eq_true hc) hy0) λ_=>Df.cond (λhc=>absurd (of_decide_eq_true hc) hyh) λ_=>Df.cond (λ_=>?_) λ_=>?_
 ·exact Df.bind (QK hy0) λ_ _=>Df.bind (Vm hy0) λ_ _=>Df.mk _
 ·obtain⟨yn,ey,hy⟩:=S7 h3
  obtain⟨s,e1,e2,e3,e4⟩:=Xf N (show 0<yn by omega) hy
  have hd:∀j:Nat,(j:Int)=IntKind.u64.wrap (s:Int)→Ci .u64 (Cu .u64 y j) 32≠0:=λj hj=>by
   rw[G2 s (by omega)] at hj
   have:j=s:=by omega
   rw[this,ey]
   exact Ua e2 e3 e4
  rw[ey,e1]
  rw[←ey]
  refine Df.bind (Df.mk _) λy8 hy8=>?_
  have hy8':y8=(s:Int):=(Option.some.inj hy8).symm
  obtain⟨j14,e5,e6⟩:=V8 (n:=y8)
  obtain⟨j16,e8,_⟩:=V8 (n:=(64-IntKind.u64.wrap y8))
  have hd':=hd j14 (by rw[e6,hy8'])
  rw[e5,e8]
  refine Df.bind (Df.mk _) λa ha=>Df.bind (Df.mk _) λb hb=>Df.bind (Df.mk _) λc hc=>Df.bind (Df.mk _) λd hd2=>?_
  have ea:=Option.some.inj ha
  rw[←ea]
  refine Df.bind (QK hd') λz18 hz=>?_
  have hzh:=Km hz
  have hlt:=KO.1 hzh
  exact Th N lo y j14 d _ (λv=>V6 hN _ _ _ _ _ _ _ _ _ hd') N z18 _ hzh (by omega)
theorem Sc {N:Nat}(hN:18446744073709551616<N) (a num den:Int):Df (Ez N a num den):=by
 unfold Ez
 refine Df.cond (λ_=>Df.mk _) λhc=>?_
 simp only[Bool.or_eq_false_iff,decide_eq_false_iff_not] at hc
 obtain⟨⟨⟨⟨⟨c1,c2⟩,c3⟩,c4⟩,c5⟩,c6⟩:=hc
 obtain⟨an,ea⟩:∃n:Nat,a=n:=⟨a.toNat,by omega⟩
 obtain⟨bn,eb⟩:∃n:Nat,num=n:=⟨num.toNat,by omega⟩
 subst ea;subst eb
 rw[G2 an (by omega),G2 bn (by omega),Pj N an bn (by omega) (by omega)]
 simp only[Option.bind_some]
 have hd:IntKind.u64.wrap den=den:=MZ (KO.2 (by omega))
 rw[hd]
 refine Df.cond (λ_=>Df.mk _) λhc=>?_
 simp only[decide_eq_false_iff_not] at hc
 have hlt:an*bn<18446744073709551616*18446744073709551616:=Nat.mul_lt_mul'' (by omega) (by omega)
 refine Df.bind (P1 hN (KO.2 ⟨by omega,by omega⟩) (KO.2 ⟨by omega,by omega⟩) (KO.2 (by omega)) (by omega)) λv _=>?_
 exact Df.cond (λ_=>Df.mk _) λ_=>Df.mk _
theorem JV {N:Nat}(hN:18446744073709551616<N) {num den:Int}(h0:0≤num) (h1:0≤den) (h2:den≤9223372036854775807):Df (Dm N num den):=by
 unfold Dm
 refine Df.cond (λ_=>Df.mk _) λhc=>?_
 simp only[decide_eq_false_iff_not] at hc
 refine Df.cond (λ_=>Df.mk _) λhc2=>?_
 simp only[decide_eq_false_iff_not] at hc2
 obtain⟨an,ea⟩:∃n:Nat,num=n:=⟨num.toNat,by omega⟩
 obtain⟨dn,ed⟩:∃n:Nat,den=n:=⟨den.toNat,by omega⟩
 subst ea;subst ed
 rw[G2 an (by omega),G2 dn (by omega),show(1099511627776:Int)=((1099511627776:Nat):Int) from rfl,Pj N an 1099511627776 (by omega) (by omega)]
 simp only[Option.bind_some]
 refine Df.bind (P1 hN (KO.2 ⟨by omega,by omega⟩) (KO.2 ⟨by omega,by omega⟩) (KO.2 (by omega)) (by omega)) λv _=>?_
 exact Df.cond (λ_=>Df.mk _) λ_=>Df.mk _
theorem Sq {i j:Nat}(h:i+j<9223372036854775808):Ar (Ci .u64 (IntKind.u64.wrap (Ar ((i:Int)+(j:Int)))) 1)=(((i+j)/2:Nat):Int):=by
 have e1:Ar ((i:Int)+(j:Int))=((i+j:Nat):Int):=by rw[E6 (by omega) (by omega)];rfl
 rw[e1,G2 _ (by omega),Sa _ 1 (by omega),E6 (by omega) (by omega)]
theorem Mc {N:Nat}(f:Int→Option Bool) (L:Nat) (hL:L<4611686018427387904) (hf:∀i:Nat,i<L→Df (f i)) (kj:Int→Option Int):∀(n i j:Nat),i≤j→j≤L→j-i<n→(0<i→f ((i-1:Nat):Int)=some false)→(j<L→f (j:Int)=some true)→
  ∃r:Nat,DR N f kj n (i:Int) (j:Int)=kj (r:Int)∧r≤L∧(0<r→f ((r-1:Nat):Int)=some false)∧(r<L→f (r:Int)=some true)
 |0,i,j,_,_,h,_,_=>by omega
 |n+1,i,j,h1,h2,h3,h4,h5=>by
  unfold DR
  by_cases hij:i<j
  ·rw[show decide ((i:Int)<(j:Int))=true by simp;omega,cond_true,Sq (by omega)]
   obtain⟨v,hv⟩:=hf ((i+j)/2) (by omega)
   rw[hv]
   simp only[Option.bind_some]
   cases v
   ·simp only[Bool.not_false,cond_true]
    have e:Ar ((((i+j)/2:Nat):Int)+1)=(((i+j)/2+1:Nat):Int):=by rw[E6 (by omega) (by omega)];rfl
    rw[e]
    exact Mc f L hL hf kj n _ j (by omega) h2 (by omega) (λ_=>by rw[Nat.add_sub_cancel];exact hv) h5
   ·simp only[Bool.not_true,cond_false]
    exact Mc f L hL hf kj n i _ (by omega) (by omega) (by omega) h4 (λ_=>hv)
  ·have e:i=j:=by omega
   subst e
   rw[show decide ((i:Int)<(i:Int))=false by simp,cond_false]
   exact⟨i,rfl,h2,h4,h5⟩
theorem Ra {N:Nat}(f:Int→Option Bool) (L:Nat) (hL:L<4611686018427387904) (hN:L<N) (hf:∀i:Nat,i<L→Df (f i)):∃r:Nat,H3 N (L:Int) f=some (r:Int)∧r≤L∧(0<r→f ((r-1:Nat):Int)=some false)∧(r<L→f (r:Int)=some true):=by
 obtain⟨r,h1,h2⟩:=Mc (N:=N) f L hL hf (Fy N) N 0 L (Nat.zero_le _) (Nat.le_refl _) (by omega) (λh=>absurd h (by omega)) (λh=>absurd h (by omega))
 exact⟨r,h1,h2⟩
def G3 (n:Int):Prop:=0≤n∧n≤1125899906842624
def G1 (c:List BA):Prop:=1≤c.length∧c.length≤32∧∀(k:Nat) p,c[k]? =some p→G3 p.X∧G3 p.Y∧∀q,0<k→c[k-1]? =some q→q.X<p.X∧q.Y≤p.Y
theorem P2 {N:Nat}(c:List BA) (hl:c.length≤32):∀(n k:Nat),c.length<n+k→k≤c.length→∃v,EA N c (F4 N) n (k:Int)=some v∧(v=true→∀(i:Nat) p,k≤i→c[i]? =some p→G3 p.X∧G3 p.Y∧∀q,0<i→c[i-1]? =some q→q.X<p.X∧q.Y≤p.Y)
 |0,k,h,hk=>by omega
 |n+1,k,h,hk=>by
  unfold EA
  by_cases hc:k<c.length
  ·rw[show decide ((k:Int)<(c.length:Int))=true by simp;omega,cond_true,A9 hc]
   simp only[Option.bind_some]
   cases hb:(decide ((c[k]).X<0)||decide (1125899906842624<(c[k]).X)||decide ((c[k]).Y<0)||decide (1125899906842624<(c[k]).Y))
   ·simp only[cond_false]
    simp only[Bool.or_eq_false_iff,decide_eq_false_iff_not] at hb
    obtain⟨v,hv,hp⟩:=P2 (N:=N) c hl n (k+1) (by omega) (by omega)
    have ek:Ar ((k:Int)+1)=((k+1:Nat):Int):=by rw[E6 (by omega) (by omega)];rfl
    rw[ek,hv]
    by_cases h0:0<k
    ·have e1:Ar ((k:Int)-1)=((k-1:Nat):Int):=by rw[E6 (by omega) (by omega)];omega
     rw[show decide ((0:Int)<(k:Int))=true by simp;omega,e1,A9 (show k-1<c.length by omega)]
     simp only[cond_true,Option.bind_some,C2]
     cases hb2:cond (decide ((c[k]).X≤(c[k-1]).X)) true (decide ((c[k]).Y<(c[k-1]).Y))
     ·simp only[cond_false]
      refine⟨v,rfl,λhvt i p hi hip=>?_⟩
      by_cases e:i=k
      ·subst e
       have:p=c[i]:=by simpa [hc] using hip.symm
       subst this
       refine⟨⟨by omega,by omega⟩,⟨by omega,by omega⟩,λq _ hq=>?_⟩
       have:q=c[i-1]:=by simpa [show i-1<c.length by omega] using hq.symm
       subst this
       cases h7:decide ((c[i]).X≤(c[i-1]).X) with
       |true=>rw[h7] at hb2;simp at hb2
       |false=>
        rw[h7] at hb2
        simp only[cond_false,decide_eq_false_iff_not] at hb2 h7
        omega
      ·exact hp hvt i p (by omega) hip
     ·exact⟨false,rfl,λh=>by cases h⟩
    ·have e0:k=0:=by omega
     subst e0
     rw[show decide ((0:Int)<((0:Nat):Int))=false by simp]
     simp only[cond_false,Option.bind_some]
     refine⟨v,rfl,λhvt i p hi hip=>?_⟩
     by_cases e:i=0
     ·subst e
      have:p=c[0]:=by simpa [hc] using hip.symm
      subst this
      exact⟨⟨by omega,by omega⟩,⟨by omega,by omega⟩,λq h _=>absurd h (by omega)⟩
     ·exact hp hvt i p (by omega) hip
   ·exact⟨false,rfl,λh=>by cases h⟩
  ·rw[show decide ((k:Int)<(c.length:Int))=false by simp;omega,cond_false]
   refine⟨true,rfl,λ_ i p hi hip=>?_⟩
   have:=(List.getElem?_eq_some_iff.1 hip).1
   omega
theorem Ha {N:Nat}(hN:33<N) (c:List BA):∃v,DD N c=some v∧(v=true→G1 c):=by
 unfold DD
 cases hb:(decide ((c.length:Int)<1)||decide (32<(c.length:Int)))
 ·simp only[Bool.or_eq_false_iff,decide_eq_false_iff_not] at hb
  obtain⟨v,h1,h2⟩:=P2 (N:=N) c (by omega) N 0 (by omega) (by omega)
  exact⟨v,h1,λhv=>⟨by omega,by omega,λk p hk=>h2 hv k p (by omega) hk⟩⟩
 ·exact⟨false,rfl,λh=>by cases h⟩
theorem PQ {N:Nat}(hN:18446744073709551616<N) {c:List BA}(h1:1≤c.length) (h2:c.length≤32) (x:Int):Df (Fj N c x):=by
 unfold Fj
 obtain⟨r,e1,e2,_⟩:=Ra (N:=N) (λy=>FM N c x y) c.length (by omega) (by omega) λi hi=>by
  unfold FM
  rw[A9 hi];exact Df.mk _
 rw[e1]
 simp only[Option.bind_some]
 refine Df.cond (λ_=>Df.bind (Df.ix (by omega) (by omega)) λ_ _=>Df.mk _) λhc=>?_
 simp only[decide_eq_false_iff_not] at hc
 have e3:Ar ((r:Int)-1)=((r-1:Nat):Int):=by rw[E6 (by omega) (by omega)];omega
 rw[e3]
 refine Df.bind (Df.ix (by omega) (by omega)) λ_ _=>Df.cond (λ_=>Df.mk _) λhc2=>?_
 simp only[decide_eq_false_iff_not] at hc2
 exact Df.bind (Df.ix (by omega) (by omega)) λ_ _=>Df.bind (Df.ix (by omega) (by omega)) λ_ _=>Df.bind (Sc hN _ _ _) λ_ _=>Df.mk _
end Go.Proofs.YtibidnaedddfdaaGreat
