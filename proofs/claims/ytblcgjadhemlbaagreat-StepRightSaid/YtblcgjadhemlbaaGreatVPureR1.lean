import Derived.Test.YtblcgjadhemlbaaGreatVPureC2
import Derived.Test.YtblcgjadhemlbaaGreatVPureC1
import Derived.Test.YtblcgjadhemlbaaGreatVPureBase
import Derived.Test.YtblcgjadhemlbaaGreatVPureEx
import Derived.Test.YtblcgjadhemlbaaGreatVPureT1
namespace Go.Proofs.YtblcgjadhemlbaaGreat
set_option linter.all false
open Go.RowKit
def Ts (o:Nat) (w:List (List Int)):Int:=(w.map λx=>x.getD o 0).sum
def Qy (o:Nat) (q:List BE):Int:=(q.map λl=>l.X.getD o 0).sum
def YG (o:Nat) (a b:List BE):Qy o (a++b)=Qy o a+Qy o b:=by unfold Qy;rw[qQ,pK]
def YH {o:Nat}{w:List (List Int)}{k:Nat}{x y:List Int}(a:w[k]? =some x):Ts o (upd w (k:Int) y)=Ts o w-x.getD o 0+y.getD o 0:=by
 have b:=(nK.1 a).1
 have c:=(nK.1 a).2
 unfold Ts upd
 rw[oW,List.map_set,L7 (by simpa using b),List.getElem_map,c]
def PX.bd {W:Nat}{p:List Int}(b:PX W p):∀x∈p, -2305843009213693952≤x∧x≤2305843009213693952:=λx a=>by
 have:=b.mem a
 omega
def V8 (m:BA):Bool:=decide (m.D<0)
def P4 (b:AU) (H:Int) (o:Nat):∀(l:List BA),Qy o (l.filterMap (Ku b H))+Nq o (l.filter V8)=Nq o l∧Fu (l.filterMap (Ku b H))+KE (l.filter V8)=KE l
 |[]=>⟨rfl,rfl⟩
 |m::l=>by
  obtain⟨i,j⟩:=P4 b H o l
  have g:∀l,Nq o (m::l)=m.X.getD o 0+Nq o l:=λl=>by unfold Nq;rw[oJ,oU]
  have a:∀l,KE (m::l)=m.X.sum+KE l:=λl=>by unfold KE;rw[oJ,oU]
  by_cases k:m.D<0
  ·rw[List.filterMap_cons_none (by unfold Ku;rw[nD k]),List.filter_cons_of_pos (by unfold V8;simpa using k),g,g,a,a]
   omega
  ·rw[List.filterMap_cons_some (b:=(⟨B0 (B0 (H+1)+Nr b m.I.toNat m.Bf),m.D,m.X⟩:BE)) (by unfold Ku;rw[nB k]),List.filter_cons_of_neg (by unfold V8;simpa using k),g,a]
   have c:∀(x:BE) l,Qy o (x::l)=x.X.getD o 0+Qy o l:=λx l=>by unfold Qy;rw[oJ,oU]
   have d:∀(x:BE) l,Fu (x::l)=x.X.sum+Fu l:=λx l=>by unfold Fu;rw[oJ,oU]
   rw[c,d]
   simp only
   omega
def VA {W:Nat}{l:List BA}(b:∀m∈l,PX W m.X):0≤KE l:=by
 unfold KE
 exact Pe (f:=λm:BA=>m.X.sum) λm a=>(b m a).sum0
def UQ {N W:Nat}(d:1000000<N) (j:W≤1000):∀{l:List BA}{out:List Int},(∀m∈l,PX W m.X)→out.length=W→(∀x∈out,0≤x)→out.sum+KE l≤2305843009213693952→(Qr N out l).length=W∧(∀x∈Qr N out l,0≤x)∧(Qr N out l).sum=out.sum+KE (l.filter V8)∧∀o,o<W→(Qr N out l).getD o 0=out.getD o 0+Nq o (l.filter V8)
 |[],out,_,b,h0,_=>⟨b,h0,by show out.sum=out.sum+0;omega,λo _=>by show out.getD o 0=out.getD o 0+0;omega⟩
 |m::l,out,c,b,h0,q=>by
  have a:=c m (.head _)
  have s:=VA (l:=l) λm a=>c m (.tail _ a)
  have k:∀l,KE (m::l)=m.X.sum+KE l:=λl=>by unfold KE;rw[oJ,oU]
  have g:∀o l,Nq o (m::l)=m.X.getD o 0+Nq o l:=λo l=>by unfold Nq;rw[oJ,oU]
  rw[k] at q
  have t:=a.sum0
  rw[show Qr N out (m::l)=Qr N (if m.D<0 then (Gk N out m.X).getD [] else out) l from rfl]
  by_cases z:m.D<0
  ·rw[nD z,U6 d (by omega) (by rw[a.len,b]) (λx n=>by have:=Hg h0 x n;have:=h0 x n;omega) a.bd,oV,List.filter_cons_of_pos (by unfold V8;simpa using z)]
   have i:(Gp out m.X).sum=out.sum+m.X.sum:=KW (b.trans a.len.symm)
   obtain⟨u,v,w,y⟩:=UQ d j (l:=l) (out:=Gp out m.X) (λm a=>c m (.tail _ a)) (N4 b a.len) (PZ h0 a.nn) (by omega)
   exact⟨u,v,by rw[w,i,k];omega,λo p=>by rw[y o p,Vw b a.len p,g];omega⟩
  ·rw[nB z,List.filter_cons_of_neg (by unfold V8;simpa using z)]
   exact UQ d j (l:=l) (λm a=>c m (.tail _ a)) b h0 (by omega)
def TZ {b:AU}{H:Int}{W o:Nat}(a:o<W):∀{l:List BA}{w:List (List Int)},IG b.A.length W w→OZ l w→(∀m∈l,∃p,p<b.A.length∧kE b H W p m)→Ts o (No w l)+Nq o l=Ts o w
 |[],w,_,_,_=>by show Ts o w+0=_;omega
 |m::l,w,t,y,u=>by
  obtain⟨⟨x,k,n⟩,c⟩:=y
  obtain⟨p,B,q⟩:=u m (.head _)
  have d:=t.all x (oM k)
  have i:=n.sub d
  have j:w.getD m.I.toNat []=x:=by rw[oT,k];rfl
  have g:∀o l,Nq o (m::l)=m.X.getD o 0+Nq o l:=λo l=>by unfold Nq;rw[oJ,oU]
  have v:upd w m.I (IB x m.X)=upd w ((m.I.toNat:Nat):Int) (IB x m.X):=by rw[q.fr,oW]
  rw[j] at c
  have z:=TZ a (l:=l) (w:=upd w m.I (IB x m.X)) (t.upd _ i.1) c λm s=>u m (.tail _ s)
  rw[show No w (m::l)=No (upd w m.I (IB (w.getD m.I.toNat []) m.X)) l from rfl,j,g]
  rw[v,YH k,Vu d.len i.2.2.len a] at z
  rw[v]
  omega
end Go.Proofs.YtblcgjadhemlbaaGreat
namespace Go.Proofs.YtblcgjadhemlbaaGreat
set_option linter.all false
open Go.RowKit
end Go.Proofs.YtblcgjadhemlbaaGreat
namespace Go.Proofs.YtblcgjadhemlbaaGreat
set_option linter.all false
open Go.RowKit
end Go.Proofs.YtblcgjadhemlbaaGreat
namespace Go.Proofs.YtblcgjadhemlbaaGreat
set_option linter.all false
open Go.RowKit
structure AfX (b:AU) (s:BD) (r:BD×List BA×List Int) (o3:List (List Int)) (l:List BA):Prop where
 own:IG b.A.length b.H.length r.1.G
 que:QX b.A.length b.H.length r.1.J
 tot:EO r.1.G+Fu r.1.J+KE (l.filter V8)=EO o3+Fu (Kv s.B s.J)
 ol:r.1.P.length=b.H.length
 o0:∀x∈r.1.P,0≤x
 os:r.1.P.sum=s.P.sum+KE (l.filter V8)
 oc:∀o,o<b.H.length→r.1.P.getD o 0=s.P.getD o 0+Nq o (l.filter V8)
 col:∀o,o<b.H.length→Ts o r.1.G+Qy o r.1.J+Nq o (l.filter V8)=Ts o o3+Qy o (Kv s.B s.J)
 ql:r.1.J.length≤s.J.length+100000
 l0:0≤KE (l.filter V8)
def Vc {N:Nat}(Y:18446744073709551616<N) {b:AU}(F:HD b) {s:BD}(c:mP b s) {G:List Gh}{I:List (List Int)}{r:BD×List BA×List Int}{K:List Int}{u:List (List Int)}{l:List BA}(h:Vd N b s G I r K u l):AfX b s r u l:=by
 have Z:=F.own
 have g:∀m∈l,PX b.H.length m.X:=λm i=>by obtain⟨p,_,j⟩:=h.lv.mv m i;exact j.px
 have a:QX b.A.length b.H.length (Kv s.B s.J):=λl M=>c.x.que l (oX.1 M).1
 have d:QX b.A.length b.H.length (l.filterMap (Ku b s.B)):=λx k=>by
  obtain⟨m,i,e⟩:=qS.1 k
  obtain⟨p,_,j⟩:=h.lv.mv m i
  unfold Ku at e
  split at e
  ·cases e
  ·cases e
   have:=j.to
   exact⟨j.px,by show 0≤m.D;omega,by show m.D<_;omega⟩
 have n:=(E9 a 0).2
 rw[pB,show Fu ([]:List BE)=0 from rfl] at n
 have q:=(E9 c.x.que 0).2
 rw[pB,show Fu ([]:List BE)=0 from rfl] at q
 have Q:=c.x.own.sum0
 have U:=h.lv.ox.sum0
 have ht:=h.lv.tot
 have h3:=h.os3
 have h4:=c.outs
 have h5:=c.x.inns
 obtain⟨v,w,y,z⟩:=UQ (N:=N) (by omega) (by omega) g c.x.out c.out0 (by omega)
 rw[←h.lv.out_] at v w y z
 have t:=h.mlen
 rw[h.lv.ms_,oD] at t
 refine⟨h.lv.ox,?_,?_,v,w,y,z,λo V=>?_,?_,VA λm i=>g m (oX.1 i).1⟩
 ·rw[h.que]
  exact λx k=>(oQ.1 k).elim (a x) (d x)
 ·have:=(P4 b s.B 0 l).2
  rw[h.que,TV]
  omega
 ·have W:=(P4 b s.B o l).1
  have C:=TZ V h.ox3 h.lv.val h.lv.mv
  rw[←h.lv.own] at C
  rw[h.que,YG]
  omega
 ·rw[h.que,oD]
  have W:(Kv s.B s.J).length≤s.J.length:=List.length_filter_le _ _
  have C:=List.length_filterMap_le (Ku b s.B) l
  omega
end Go.Proofs.YtblcgjadhemlbaaGreat
namespace Go.Proofs.YtblcgjadhemlbaaGreat
set_option linter.all false
open Go.RowKit
structure jZ (b:AU) (s:BD):Prop where
 rg:mP b s
 rem:∀(k:Nat) p m,b.A[k]? =some p→s.M[k]? =some m→0≤m∧m≤max 0 (p.L-1)
 opn:∀(k:Nat) l g,b.E[k]? =some l→s.Q[k]? =some g→g.Al=true→l.C=5∨l.C=3
def Vx {N:Nat}(K:1000000<N) {b:AU}(U:HD b) (w:∀p∈b.A,HR b p) (s:BD) (hq:s.J.length≤1000):∃v,Fs N b s=some v∧(v=true→jZ b s):=by
 have hP:=U.pl
 have hL:=U.li
 have hW:=U.own
 unfold Fs
 generalize hB:(_||decide ((s.P.length:Int)≠(b.H.length:Int)))=B
 cases B
 ·simp only[nZ,nV,ne_eq,Decidable.not_not] at hB
  obtain⟨⟨⟨⟨⟨⟨b1,b2⟩,b3⟩,b4⟩,b5⟩,b6⟩,b7⟩:=hB
  rw[mX]
  rcases ME b.A.length (λn i (_:Unit)=>Dn N b s (DR N b s) n i) (λ_=>DR N b s) (some false) (λi _=>∀(k:Nat) p m,k<i→b.A[k]? =some p→s.M[k]? =some m→0≤m∧m≤max 0 (p.L-1)) (λn k t c=>by
   simp only[Dn];rw[E7 c];rfl) (λn k t X c=>by
   simp only[Dn]
   have y:k<s.M.length:=by omega
   have hd:=(w _ (nP c)).den
   unfold Ia at hd
   rw[Ev c,mW,BS c,BS y,BX (by omega)]
   simp only[mV,Fl,KG]
   rw[DG (n:=(b.A[k]).L-1) (by omega) (by omega)]
   cases I:(decide (s.M[k]<0)||decide (max 0 ((b.A[k]).L-1)<s.M[k]))
   ·simp only[nZ,nV] at I
    refine .inr ⟨(),λj p m hj q z=>?_,rfl⟩
    by_cases d:j=k
    ·subst d
     rw[nO c] at q
     rw[nO y] at z
     cases q;cases z
     omega
    ·exact X j p m (by omega) q z
   ·exact .inl rfl) N 0 () (λk p m h=>by omega) (by omega) (nE _) with e|⟨_,i1,e⟩
  ·exact⟨_,e,λh=>by cases h⟩
  ·rw[show Dn N b s (DR N b s) N 0=DR N b s from e]
   unfold DR
   rcases ME b.E.length (λn i (_:Unit)=>Dm N b s (DQ N b s) n i) (λ_=>DQ N b s) (some false) (λi _=>∀(k:Nat) l g,k<i→b.E[k]? =some l→s.Q[k]? =some g→((0≤g.V∧g.V≤l.T)∧(0≤g.W∧g.W≤l.T))∧(g.Al=true→l.C=5∨l.C=3)) (λn k t c=>by
    simp only[Dm];rw[E7 c];rfl) (λn i t X c=>by
    simp only[Dm]
    have y:i<s.Q.length:=by omega
    rw[Ev c,mW,BS c,BS y,BX (by omega)]
    simp only[mV]
    cases I:(((decide ((s.Q[i]).V<0)||decide ((b.E[i]).T<(s.Q[i]).V))||decide ((s.Q[i]).W<0))||decide ((b.E[i]).T<(s.Q[i]).W))
    ·simp only[nZ,nV] at I
     obtain⟨⟨⟨c1,c2⟩,c3⟩,c4⟩:=I
     rw[mX]
     cases Y:(((s.Q[i]).Al&&decide ((b.E[i]).C≠5))&&decide ((b.E[i]).C≠3))
     ·refine .inr ⟨(),λk l g ae a o=>?_,rfl⟩
      by_cases d:k=i
      ·subst d
       rw[nO c] at a
       rw[nO y] at o
       cases a;cases o
       refine⟨⟨⟨by omega,by omega⟩,by omega,by omega⟩,λZ=>?_⟩
       rw[Z,Bool.true_and,Bool.and_eq_false_iff] at Y
       simp only[nV,ne_eq,Decidable.not_not] at Y
       exact Y
      ·exact X k l g (by omega) a o
     ·exact .inl rfl
    ·exact .inl rfl) N 0 () (λk l g h=>by omega) (by omega) (nE _) with e|⟨_,i2,e⟩
   ·exact⟨_,e,λh=>by cases h⟩
   ·rw[show Dm N b s (DQ N b s) N 0=DQ N b s from e]
    unfold DQ
    obtain⟨r,er,k1⟩:=WB K b s (by omega) hq
    rw[er,mV]
    cases aa:r.2
    ·exact⟨_,rfl,λh=>by cases h⟩
    ·obtain⟨k1,k2,k3,k4⟩:=k1 aa
     have D:IG b.A.length b.H.length s.G:=⟨by omega,k1⟩
     have F:QX b.A.length b.H.length s.J:=λl a=>(k2 l a).1
     have af:=D.sum0
     have ab:=(E9 F 0).2
     rw[pB,show Fu ([]:List BE)=0 from rfl] at ab
     obtain⟨u,hu,ku⟩:=TC K (l:=s.O) (by omega) (m:=1152921504606846976) (by decide)
     rw[oF,mX,hu,mV]
     cases ac:u.2
     ·exact⟨_,rfl,λh=>by cases h⟩
     ·obtain⟨u1,u2,u3⟩:=ku ac
      have u0:=I0 u1
      rw[DG (n:=u.1+1125899906842624) (by omega) (by omega),DG (n:=u.1+1125899906842624-r.1) (by omega) (by omega)]
      obtain⟨x,hx,kx⟩:=TC K (l:=s.P) (by omega) (m:=u.1+1125899906842624-r.1) ⟨by omega,by omega⟩
      rw[oF,mX,hx,mV]
      refine⟨_,rfl,λad=>?_⟩
      obtain⟨x1,x2,x3⟩:=kx ad
      exact⟨⟨⟨D,F,by omega,by omega,by omega,by omega,u1,u2,by omega⟩,⟨by omega,by omega⟩,λk l g a o=>(i2 k l g (nK.1 a).1 a o).1,λl a=>(k2 l a).2,x1,by omega⟩,λk p m q z=>i1 k p m (nK.1 q).1 q z,λk l g a o=>(i2 k l g (nK.1 a).1 a o).2⟩
 ·exact⟨_,rfl,λh=>by cases h⟩
def TX {N W:Nat}(g:1000000<N) (j:W≤16) {p:List Int}(a:PX W p):H5 N p (W:Int)=some true:=by
 have c:Gs N p=some true:=by
  unfold Gs
  obtain⟨s,_,e⟩:=EQ p.length (λn i s=>DT N p (E4 N) n s i) (λ_=>E4 N) (λk s=>s=(p.take k).sum) (λn k s b=>by
   simp only[DT];rw[E7 b];rfl) (λn k s d b=>by
   have c:=Fw a.nn (k+1)
   have l:=Fw a.nn k
   have m:=a.nn _ (nP b)
   have o:=a.mv
   have q:=a.len
   rw[Hf b] at c
   simp only[DT]
   rw[Ev b,mW,BS b,mV,DG (n:=1125899906842624-s) (by omega) (by omega),nL (show ¬p[k]<0 by omega),nL (show ¬1125899906842624-s<p[k] by omega),pT,mX,DG (n:=s+p[k]) (by omega) (by omega),BX (by omega)]
   exact⟨_,by rw[Hf b,d],rfl⟩) N 0 0 rfl (by have:=a.len;omega) (nE _)
  exact e
 unfold H5
 rw[a.len,nW (show(0:Int)≤(W:Int) by omega),nW (show(W:Int)≤16 by omega),nW rfl,Bool.and_self,Bool.and_self,mW,c]
 rfl
def Ux {N:Nat}(g:1000000<N) {l:List Int}(j:l.length≤1000) {m:Int}(o:m≤2305843009213693952) (h0:∀x∈l,0≤x) (p:l.sum≤m):Gx N l m=some (l.sum,true):=by
 unfold Gx
 obtain⟨s,b,e⟩:=EQ l.length (λn i s=>Dp N l m (FX N) n s i) (FX N) (λk s=>s=(l.take k).sum) (λn k s a=>by
  simp only[Dp];rw[E7 a];rfl) (λn k s c a=>by
  have d:=Fw h0 (k+1)
  have q:=Fw h0 k
  have t:=h0 _ (nP a)
  rw[Hf a] at d
  simp only[Dp]
  rw[Ev a,mW,BS a,mV,DG (n:=m-s) (by omega) (by omega),nL (show ¬l[k]<0 by omega),nL (show ¬m-s<l[k] by omega),pT,mX,DG (n:=s+l[k]) (by omega) (by omega),BX (by omega)]
  exact⟨_,by rw[Hf a,c],rfl⟩) N 0 0 rfl (by omega) (nE _)
 rw[oL] at b
 subst b
 exact e
def XM {N:Nat}(j:1000000<N) {b:AU}(F:b.A.length≤64) (v:b.H.length≤16) {s:BD}(g:IG b.A.length b.H.length s.G) (I:s.J.length≤900000) (c:QX b.A.length b.H.length s.J) (m:∀l∈s.J,s.B≤l.Ad∧0<l.X.sum) (K:EO s.G+Fu s.J≤1125899906842624):ID N b s=some (EO s.G+Fu s.J,true):=by
 have y:=g.len
 have o:=(E9 c 0).2
 rw[pB,show Fu ([]:List BE)=0 from rfl] at o
 have z:=g.sum0
 unfold ID
 obtain⟨t,w,e⟩:=EQ s.G.length (λn i t=>DP N b s (DD N b s) n t i) (DD N b s) (λk t=>t=EO (s.G.take k)) (λn k t a=>by
  simp only[DP];rw[E7 a];rfl) (λn k t p a=>by
  have d:=g.all _ (nP a)
  have q:=Jp g (k+1)
  have C:=Jp g k
  have M:=d.sum0
  rw[K7 a] at q ⊢
  simp only[DP]
  rw[Ev a,mW,BS a,mV,TX j v d,mV,oF,mX,d.total j (by omega),mV,DG (n:=t+(s.G[k]).sum) (by omega) (by omega),nL (by omega),mX,BX (by omega)]
  exact⟨_,by rw[p],rfl⟩) N 0 0 (by simp [EO]) (by omega) (nE _)
 rw[show DP N b s (DD N b s) N 0 0=DD N b s t from e]
 rw[oL] at w
 subst w
 unfold DD
 obtain⟨u,x,D⟩:=EQ s.J.length (λn i t=>EF N b s (F5 N) n t i) (F5 N) (λk t=>t=EO s.G+Fu (s.J.take k)) (λn k t a=>by
  simp only[EF];rw[E7 a];rfl) (λn k t p a=>by
  have d:=c _ (nP a)
  have Q:=m _ (nP a)
  have q:=E9 c (k+1)
  have C:=E9 c k
  rw[KD a] at q ⊢
  simp only[EF]
  rw[Ev a,mW,BS a,mV,nL (show ¬(s.J[k]).Ad<s.B by omega),mX,K6,mV,nW d.2.1,nW d.2.2,Bool.and_self,oF,mV,mX,TX j v d.1,mV,oF,mV,mX,d.1.total j (by omega),mV,DG (n:=t+(s.J[k]).X.sum) (by omega) (by omega),nL (show ¬(s.J[k]).X.sum≤0 by omega),nL (show ¬1125899906842624<t+(s.J[k]).X.sum by omega),pT,mX,BX (by omega)]
  exact⟨_,by rw[p];omega,rfl⟩) N 0 (EO s.G) (by simp [Fu]) (by omega) (nE _)
 rw[oL] at x
 subst x
 exact D
def TH {N:Nat}(g:1000000<N) {b:AU}(j:HD b) (d:∀p∈b.A,HR b p) {s:BD}(y:s.J.length≤900000) (h:jZ b s):Fs N b s=some true:=by
 have z:=j.pl
 have hL:=j.li
 have D:=j.own
 have l:=h.rg.x.own.len
 have m:=h.rg.x.rem
 have o:=h.rg.x.gates
 have q:=h.rg.x.inn
 have t:=h.rg.x.out
 have hh:=h.rg.hour
 have F:=h.rg.x.own.sum0
 have u:=(E9 h.rg.x.que 0).2
 rw[pB,show Fu ([]:List BE)=0 from rfl] at u
 have H:=I0 h.rg.x.inn0
 have I:=h.rg.x.inns
 have K:=h.rg.outs
 have U:=h.rg.x.tot
 unfold Fs
 rw[l,m,o,q,t,nL (show ¬s.B<0 by omega),nL (show ¬16777216<s.B by omega)]
 simp only[ne_eq,not_true_eq_false,decide_false,pT,mX]
 have X:Dn N b s (DR N b s) N 0=DR N b s:=OG b.A.length (λn i=>Dn N b s (DR N b s) n i) (DR N b s) (λn k a=>by
  simp only[Dn];rw[E7 a];rfl) (λn k a=>by
  have c:k<s.M.length:=by omega
  have hd:=(d _ (nP a)).den
  have hm:=h.rem k _ _ (nO a) (nO c)
  unfold Ia at hd
  simp only[Dn]
  rw[Ev a,mW,BS a,mV,BS c,mV,nL (show ¬s.M[k]<0 by omega),mX,mV,DG (n:=(b.A[k]).L-1) (by omega) (by omega),nL (show ¬max 0 ((b.A[k]).L-1)<s.M[k] by omega),mV,mX,BX (by omega)]) N 0 (by omega) (nE _)
 have Y:Dm N b s (DQ N b s) N 0=DQ N b s:=OG b.E.length (λn i=>Dm N b s (DQ N b s) n i) (DQ N b s) (λn k a=>by
  simp only[Dm];rw[E7 a];rfl) (λn k a=>by
  have c:k<s.Q.length:=by omega
  obtain⟨⟨g1,g2⟩,g3,g4⟩:=h.rg.gts k _ _ (nO a) (nO c)
  have Z:=h.opn k _ _ (nO a) (nO c)
  have v:(((s.Q[k]).Al&&decide ((b.E[k]).C≠5))&&decide ((b.E[k]).C≠3))=false:=by
   cases w:(s.Q[k]).Al
   ·rfl
   ·rcases Z w with e|e
    ·simp [e]
    ·simp [e]
  simp only[Dm]
  rw[Ev a,mW,BS a,mV,BS c,mV,nL (show ¬(s.Q[k]).V<0 by omega),nL (show ¬(b.E[k]).T<(s.Q[k]).V by omega),nL (show ¬(s.Q[k]).W<0 by omega),nL (show ¬(b.E[k]).T<(s.Q[k]).W by omega),pT,pT,pT,mX,v,mX,BX (by omega)]) N 0 (by omega) (nE _)
 rw[X]
 unfold DR
 rw[Y]
 unfold DQ
 rw[XM g z D h.rg.x.own y h.rg.x.que h.rg.at_ h.rg.x.tot,mV,oF,mX,Ux g (by omega) (by decide) h.rg.x.inn0 h.rg.x.inns,mV,oF,mX]
 simp only
 rw[DG (n:=s.O.sum+1125899906842624) (by omega) (by omega),DG (n:=s.O.sum+1125899906842624-(EO s.G+Fu s.J)) (by omega) (by omega),Ux g (by omega) (by omega) h.rg.out0 h.rg.outs,mV]
end Go.Proofs.YtblcgjadhemlbaaGreat
