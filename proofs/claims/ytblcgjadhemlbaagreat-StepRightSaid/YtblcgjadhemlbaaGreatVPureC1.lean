import Derived.Test.YtblcgjadhemlbaaGreatVPureT1
import Derived.Test.YtblcgjadhemlbaaGreatVPureEx
namespace Go.Proofs.YtblcgjadhemlbaaGreat
set_option linter.all false
open Go.RowKit
def VG {c:Prop}[Decidable c] {H a t b:Int}{y:List Int}(g:b≠ -3):∀m∈(if c then [] else [(⟨H,a,t,b,y⟩:BA)]),m.Bf≠ -3:=λm d=>by
 split at d
 ·cases d
 ·rw[pJ.1 d];exact g
def WP (p:Nat) (m:BA):Bool:=decide (m.I=(p:Int))&&decide (m.Bf= -3)
def Uu {p:Nat}{l:List BA}(b:∀m∈l,m.Bf≠ -3):l.filter (WP p)=[]:=List.filter_eq_nil_iff.2 λm a=>by unfold WP;simp [b m a]
def Q9 {p q:Nat}(a:q≠p) {l:List BA}(c:∀m∈l,m.I=(q:Int)):l.filter (WP p)=[]:=List.filter_eq_nil_iff.2 λm b=>by unfold WP;rw[c m b];simp;omega
def Yo {H:Int}{p N:Nat}{b:AU}{a:List Gh}{x:List Int}:(RJ H p (LB N b p a) x).filter (WP p)=RJ H p (LB N b p a) x:=List.filter_eq_self.2 λm c=>by
 obtain⟨e,d,g,i⟩:=Pc m c
 obtain⟨t,_,rfl⟩:=oC.1 d
 unfold WP
 rw[g,i]
 simp [Uw]
def R4 {p:Nat}:∀{l:List BA}{o:List (List Int)}(c:∀m∈l,m.I=(p:Int)) {j:Nat}(a:p≠j),(No o l)[j]? =o[j]?
 |[],_,_,_,_=>rfl
 |m::l,o,c,j,a=>by
  show(No (upd o m.I (IB (o.getD m.I.toNat []) m.X)) l)[j]? =_
  rw[R4 (p:=p) (l:=l) (λq b=>c q (.tail _ b)) a,c m (.head _),IC a]
def RN {N:Nat}(I:18446744073709551616<N) {w:A4}{H:Int}{W:Nat}(Z:w.s.B=H) (U:W≤64) {p:Nat}(z:p<w.b.A.length) (i:HR w.b w.b.A[p]) {o:List (List Int)}{out:List Int}{j:List BA}{k:List BE}{rem:List Int}{M:Nat}(hM:M≤999999) (C:IG w.b.A.length W o) (h:YX W out j k M):
  ∃r l,C4 N w (p:Int) w.b.A[p] o out j k rem=some r∧r.2.1=rem∧Sk w.b H N W p o out j k r.1 r.2.2.1 r.2.2.2.1 r.2.2.2.2 l∧l.length≤1∧(∀m∈l,m.Bf≠ -3)∧∀x,r.1[p]? =some x→x.sum≤(w.b.A[p]).Aj:=by
 have q:1000000<N:=by omega
 have h1:=h.mv
 have h2:=h.sn
 have u:=i.cap
 unfold Ia at u
 have D:w.b.A.getD p default=w.b.A[p]:=by simp [oT,z]
 unfold C4
 obtain⟨x,hx,d,a⟩:=C.ix z
 have aa:=a.mv
 have ab:=a.sum0
 rw[hx,mV,mV,a.total q (by omega),mV,DG (n:=x.sum-(w.b.A[p]).Aj) (by omega) (by omega)]
 by_cases v:0<x.sum-(w.b.A[p]).Aj
 ·rw[nW v,mW,Gq,mV]
  have he:eF w.b W p ⟨(w.b.A[p]).Ak,(w.b.A[p]).K, -2,λy=>A0 N (x.sum-(w.b.A[p]).Aj) y⟩:=⟨λy c=>by obtain⟨t,e,h,_⟩:=N8 I U (x.sum-(w.b.A[p]).Aj) y c;exact⟨t,e,h⟩,by show(-2:Int)≠ -4;decide,i.down,by show _=Nr _ _ (-2);unfold Nr;rw[nB (by omega),nB (by decide),D]⟩
  obtain⟨r,l,x',t,F,G,g,q3,V,X,Y⟩:=R7 q (w:=(⟨w.b,w.in_,(⟨w.s.B,o,rem,w.s.J,w.s.Q,w.s.O,out⟩:BD),j,w.peaks,k⟩:A4)) Z (by omega) C z he h.out (by show j.length≤_;omega) (by show k.length≤_;omega)
  simp only at G g V X
  rw[d] at G
  cases G
  obtain⟨t',e',_,ts⟩:=N8 I U (x.sum-(w.b.A[p]).Aj) x a
  rw[e'] at g
  have g:=nF Prod.fst (mZ g)
  simp only at g
  subst g
  rw[F,mV]
  refine⟨_,l,rfl,rfl,X,by rw[Y];exact R8,by rw[Y];exact VG (by show(-2:Int)≠ -3;decide),λy c=>?_⟩
  have c:r.1[p]? =some y:=c
  rw[V,GO (nK.1 d).1] at c
  rw[←mZ c,(q3.sub a).2.1,ts]
  omega
 ·rw[nL v,mX]
  refine⟨_,[],rfl,rfl,Sk.nil C h.out,by simp,λm hm=>(by cases hm),λy c=>?_⟩
  have c:o[p]? =some y:=c
  rw[d] at c
  cases c
  omega
def RM {N:Nat}(u:18446744073709551616<N) {w:A4}{H:Int}{W:Nat}(v:w.s.B=H) (C:W≤64) {p:Nat}(i:p<w.b.A.length) (a:HR w.b w.b.A[p]) {o:List (List Int)}{out:List Int}{c:List BA}{d:List BE}{rem:List Int}(y:Int×Int) {M:Nat}(hM:M≤999998) (F:IG w.b.A.length W o) (h:YX W out c d M):
  ∃r l,EI N w (p:Int) w.b.A[p] o out c d y (C4 N w (p:Int) w.b.A[p]) rem=some r∧r.2.1=rem∧Sk w.b H N W p o out c d r.1 r.2.2.1 r.2.2.2.1 r.2.2.2.2 l∧l.length≤2∧(∀m∈l,m.Bf≠ -3)∧∀x,r.1[p]? =some x→x.sum≤(w.b.A[p]).Aj:=by
 have j:1000000<N:=by omega
 have h1:=h.mv
 have h2:=h.sn
 have k:w.b.A.getD p default=w.b.A[p]:=by simp [oT,i]
 unfold EI
 rw[Gq,mV]
 have G:eF w.b W p ⟨(w.b.A[p]).Ak,(w.b.A[p]).K, -1,λx=>A0 N y.1 x⟩:=⟨λz I=>by obtain⟨t,e,h,_⟩:=N8 u C y.1 z I;exact⟨t,e,h⟩,by show(-1:Int)≠ -4;decide,a.down,by show _=Nr _ _ (-1);unfold Nr;rw[nB (by omega),nB (by decide),k]⟩
 obtain⟨r,l,x',t,n,q1,q2,q3,q4,q,D⟩:=R7 j (w:=(⟨w.b,w.in_,(⟨w.s.B,o,rem,w.s.J,w.s.Q,w.s.O,out⟩:BD),c,w.peaks,d⟩:A4)) v (by omega) F i G h.out (by show c.length≤_;omega) (by show d.length≤_;omega)
 have U:l.length≤1:=by rw[D];exact R8
 have V:=h.next q U
 rw[n,mV]
 obtain⟨r',X,Y,Z,z2,z3,z5,z4⟩:=RN u v C i a (rem:=rem) (M:=M+1) (by omega) q.ox V
 exact⟨r',l++X,Y,Z,q.trans z2,by rw[oD];omega,λm g=>(oQ.1 g).elim (λg=>by rw[D] at g;exact VG (by show(-1:Int)≠ -3;decide) m g) (z5 m),z4⟩
def XT {N:Nat}(X:1000000<N) {w:A4}{H:Int}{W M:Nat}(Y:w.s.B=H) (hW:W≤64) {p:Nat}(Z:p<w.b.A.length) (ho:IG w.b.A.length W w.s.G) (h:YX W w.s.P w.moves w.sent M) (hM:M≤900000) (a:List AK) (z:XL w.b W p a) (aa:a.length≤2000) (u:List (List Int)→List Int→List BA→List BE→Option (List (List Int)×List Int×List Int×List BA×List BE)):
  ∃o out c d l,Sk w.b H N W p w.s.G w.s.P w.moves w.sent o out c d l∧l.length≤a.length∧(∀x,w.s.G[p]? =some x→l=RJ H p a x)∧DA N w (p:Int) a u N 0 w.s.G w.s.P w.moves w.sent=u o out c d:=by
 obtain⟨⟨o,out,c,d⟩,⟨l,g,C,v⟩,e⟩:=EQ a.length (λn i (s:List (List Int)×List Int×List BA×List BE)=>DA N w (p:Int) a u n i s.1 s.2.1 s.2.2.1 s.2.2.2) (λs=>u s.1 s.2.1 s.2.2.1 s.2.2.2) (λk s=>∃l,Sk w.b H N W p w.s.G w.s.P w.moves w.sent s.1 s.2.1 s.2.2.1 s.2.2.2 l∧l.length≤k∧∀x,w.s.G[p]? =some x→l=RJ H p (a.take k) x∧s.1[p]? =some (WS (a.take k) x)) (λn k s j=>by
  simp only[DA];rw[E7 j];rfl) (λn k s hi j=>by
  obtain⟨o,out,c,d⟩:=s
  obtain⟨l,g,C,v⟩:=hi
  simp only at v
  simp only at g
  have I:=h.next g C
  have h1:=I.mv
  have h2:=I.sn
  simp only[DA]
  rw[Ev j,mW,BX (by omega),BS j,mV,mV]
  obtain⟨r,K,m,t,D,y,U,q3,q4,q5,V⟩:=R7 X (w:=(⟨w.b,w.in_,(⟨w.s.B,o,w.s.M,w.s.J,w.s.Q,w.s.O,out⟩:BD),c,w.peaks,d⟩:A4)) Y (by omega) g.ox Z (z _ (nP j)) g.ol (by show c.length≤_;omega) (by show d.length≤_;omega)
  have hl:K.length≤1:=by rw[V];exact R8
  rw[D,mV]
  exact⟨(_,_,_,_),⟨l++K,g.trans q5,by rw[oD];omega,λx q=>by
   obtain⟨u1,u2⟩:=v x q
   have y:o[p]? =some m:=y
   have F:WS (a.take k) x=m:=mZ (u2.symm.trans y)
   rw[pO j,Pd,R5,←u1,F]
   have v1:RJ H p [a[k]] m=(if t.sum≤0 then [] else [(⟨H,(p:Int),(a[k]).to_,(a[k]).way,t⟩:BA)]):=by
    simp only[RJ];rw[U];simp
   have v2:WS [a[k]] m=IB m t:=by
    simp only[WS];rw[U]
   rw[v1,v2]
   refine⟨by rw[V],?_⟩
   show r.1[p]? =_
   rw[q4]
   exact GO (nK.1 y).1 _⟩,rfl⟩) N 0 (w.s.G,w.s.P,w.moves,w.sent) ⟨[],Sk.nil ho h.out,nJ _,λx q=>⟨rfl,q⟩⟩ (by omega) (nE _)
 exact⟨o,out,c,d,l,g,C,λx q=>by have:=(v x q).1;rwa [oL] at this,e⟩
def XS {N:Nat}(g:18446744073709551616<N) {w:A4}{H:Int}{W M:Nat}(J:w.s.B=H) (n:W≤64) (hL:w.b.E.length≤900) (ht:w.in_.Ae.length≤1000) (U:∀l∈w.b.E,JO w.b l) (q:∀p∈w.b.A,HR w.b p) (hg:w.s.Q.length=w.b.E.length) (V:w.peaks.length=w.b.A.length) (d:w.s.M.length=w.b.A.length) {p:Nat}(c:p<w.b.A.length) (ho:IG w.b.A.length W w.s.G) (h:YX W w.s.P w.moves w.sent M) (hM:M≤900000):
  ∃r l,GS N w (p:Int)=some r∧r.2.1.length=w.b.A.length∧Sk w.b H N W p w.s.G w.s.P w.moves w.sent r.1 r.2.2.1 r.2.2.2.1 r.2.2.2.2 l∧l.length≤w.in_.Ae.length+w.b.E.length+2∧(∀x,w.s.G[p]? =some x→l.filter (WP p)=RJ H p (LB N w.b p w.in_.Ae) x)∧∀x,r.1[p]? =some x→x.sum≤(w.b.A[p]).Aj:=by
 have j:1000000<N:=by omega
 have k:=q _ (nP c)
 have a1:=Wo g (w:=w) ht c
 have a2:=RA N w.b p w.in_.Ae
 have a3:=Wq g (b:=w.b) n p w.in_.Ae
 generalize X:LB N w.b p w.in_.Ae=l1 at a1 a2 a3
 obtain⟨K,b1,b2,b3⟩:=Xf g n (by omega) U hg V c
 have Y:XL w.b W p (l1++K):=λe he=>(oQ.1 he).elim (a3 e) λh=>(b3 e h).1
 have ad:(l1++K).length≤w.in_.Ae.length+w.b.E.length:=by rw[oD];omega
 unfold GS
 rw[BS c,mV,a1,mV,b1,mV,WL j _ _ (by omega) (by omega),mV]
 obtain⟨o,out,ms,sn,l,i,i2,i3,e⟩:=XT j J n c ho h hM (l1++K) Y (by omega) (Ew N w (p:Int) w.b.A[p])
 have Z:=h.next i i2
 rw[e]
 have hf:∀a:List BA,(∀m∈a,m.Bf≠ -3)→∀x,w.s.G[p]? =some x→(l++a).filter (WP p)=RJ H p l1 x:=λa aa x hx=>by
  rw[qU,Uu aa,oS,i3 x hx,Pd,qU,Uu (l:=RJ H p K _) (λm hm=>by obtain⟨e',ab,h1,_⟩:=Pc m hm;have:=(b3 e' ab).2;omega),oS,←X,Yo]
 unfold Ew
 cases decide ((w.b.A[p]).L≠0)
 ·obtain⟨r,a,t,u,v,r3,z,C⟩:=RN g J n c k (rem:=w.s.M) (by omega) i.ox Z
  exact⟨r,l++a,t,by rw[u];exact d,i.trans v,by rw[oD];omega,hf a z,C⟩
 ·have D:p<w.peaks.length:=by omega
  have F:p<w.s.M.length:=by omega
  have I:(upd w.s.M (p:Int) 0).length=w.b.A.length:=by rw[K0];exact d
  obtain⟨x,hx,ae,ac⟩:=i.ox.ix c
  obtain⟨y,hy⟩:=W8 g w.b.A[p] w.peaks[p] w.s.M[p]
  rw[mW,BS D,mV,mV,BS F,mV,mV,hy,mV,mV,mV,hx,mV,mV,ac.total j (by omega),mV]
  cases decide (y.1≤x.sum)
  ·obtain⟨r,a,t,u,v,r3,z,C⟩:=RM g J n c k (rem:=upd w.s.M (p:Int) 0) y (by omega) i.ox Z
   exact⟨r,l++a,t,by rw[u];exact I,i.trans v,by rw[oD];omega,hf a z,C⟩
  ·rw[mW,BS (show p<(upd w.s.M (p:Int) 0).length by omega),mV,mV]
   obtain⟨r,a,t,u,v,r3,z,C⟩:=RM g J n c k (rem:=upd (upd w.s.M (p:Int) 0) (p:Int) y.2) y (by omega) i.ox Z
   exact⟨r,l++a,t,by rw[u,K0];exact I,i.trans v,by rw[oD];omega,hf a z,C⟩
structure Vd (N:Nat) (b:AU) (s:BD) (ts:List Gh) (o1:List (List Int)) (r:BD×List BA×List Int) (ns:List Int) (o3:List (List Int)) (l:List BA):Prop where
 nl:ns.length=b.A.length
 mlen:r.2.1.length≤100000
 n0:∀n∈ns,0≤n
 at3:∀(p:Nat) x n,o1[p]? =some x→ns[p]? =some n→o3[p]? =some (Gp (Gp x (v1 b.H.length n)) (SZ b.H.length s.B s.J p))
 ox3:IG b.A.length b.H.length o3
 os3:EO o3+Fu (Kv s.B s.J)≤1125899906842624
 pk:r.2.2=o3.map List.sum
 lv:kF b s.B N b.H.length b.A.length o3 s.P (WQ s.B b.H.length 0 ns) r.1.G r.1.P r.2.1 (l.filterMap (Ku b s.B)) l
 que:r.1.J=Kv s.B s.J++l.filterMap (Ku b s.B)
 hour:r.1.B=B0 (s.B+1)
 inn:r.1.O=Gp s.O (v1 b.H.length ns.sum)
 tk:∀p,p<b.A.length→∀x,o3[p]? =some x→l.filter (WP p)=RJ s.B p (LB N b p ts) x
 cap:∀(p:Nat) (hp:p<b.A.length) x,r.1.G[p]? =some x→x.sum≤(b.A[p]).Aj
structure kR (N:Nat) (b:AU) (H:Int) (ts:List Gh) (o3:List (List Int)) (k:Nat) (o:List (List Int)) (l:List BA):Prop where
 tk:∀p,p<k→∀x,o3[p]? =some x→l.filter (WP p)=RJ H p (LB N b p ts) x
 hi:∀p,k≤p→l.filter (WP p)=[]∧o[p]? =o3[p]?
 cap:∀(p:Nat) (hp:p<b.A.length),p<k→∀x,o[p]? =some x→x.sum≤(b.A[p]).Aj
def kR.next {N:Nat}{b:AU}{H:Int}{g:List Gh}{u:List (List Int)}{k W:Nat}{o i:List (List Int)}{out c:List Int}{v j:List BA}{w n:List BE}{l d:List BA}(J:kR N b H g u k o l) (G:k<b.A.length) (q:Sk b H N W k o out v w i c j n d) (y:∀x,o[k]? =some x→d.filter (WP k)=RJ H k (LB N b k g) x) (z:∀x,i[k]? =some x→x.sum≤(b.A[k]).Aj):kR N b H g u (k+1) i (l++d):=by
 have fr:∀m∈d,m.I=(k:Int):=λm B=>(q.mv m B).fr
 refine⟨λp s x a=>?_,λp s=>⟨?_,?_⟩,λp s C x a=>?_⟩
 ·rw[qU]
  by_cases e:p=k
  ·subst e
   obtain⟨D,F⟩:=J.hi p (nJ _)
   rw[D,nX]
   exact y x (F.trans a)
  ·rw[Q9 (λt=>e t.symm) fr,oS]
   exact J.tk p (by omega) x a
 ·rw[qU,(J.hi p (by omega)).1,Q9 (by omega) fr];rfl
 ·rw[q.own,R4 fr (by omega)];exact(J.hi p (by omega)).2
 ·by_cases e:p=k
  ·subst e;exact z x a
  ·rw[q.own,R4 fr (λt=>e t.symm)] at a
   exact J.cap p s (by omega) x a
end Go.Proofs.YtblcgjadhemlbaaGreat
namespace Go.Proofs.YtblcgjadhemlbaaGreat
set_option linter.all false
open Go.RowKit
def Y6 {N:Nat}(j:1000000<N) {p:List Int}(l:p.length≤1000) (h0:∀x∈p,0≤x) (m:p.sum≤2305843009213693952):H7 N p=some p.sum:=by
 unfold H7
 obtain⟨s,⟨b,c⟩,e⟩:=EQ p.length (λn i s=>EK N p (GH N) n s i) (GH N) (λk s=>s=(p.take k).sum∧0≤s) (λn k s a=>by
  simp only[EK];rw[E7 a];rfl) (λn k s d a=>by
  obtain⟨b,c⟩:=d
  have g:=Fw h0 (k+1)
  have o:=h0 _ (nP a)
  rw[Hf a] at g
  simp only[EK]
  rw[Ev a,mW,BS a,mV,DG (n:=s+p[k]) (by omega) (by omega),BX (by omega)]
  exact⟨_,⟨by rw[Hf a,b],by omega⟩,rfl⟩) N 0 0 ⟨rfl,oA _⟩ (by omega) (nE _)
 rw[oL] at b
 subst b
 exact e
def OZ.at_:∀{l:List BA}{o:List (List Int)},OZ l o→∀(j:Nat) (b:j<l.length),∃x,(No o (l.take j))[(l[j]).I.toNat]? =some x∧T6 (l[j]).X x
 |m::l,o,b,0,_=>b.1
 |m::l,o,b,j+1,a=>OZ.at_ (l:=l) b.2 j (by simpa using a)
end Go.Proofs.YtblcgjadhemlbaaGreat
namespace Go.Proofs.YtblcgjadhemlbaaGreat
set_option linter.all false
open Go.RowKit
def Nq (o:Nat) (a:List BA):Int:=(a.map λm=>m.X.getD o 0).sum
def Vu {W o:Nat}{x y:List Int}(c:x.length=W) (d:y.length=W) (g:o<W):(IB x y).getD o 0=x.getD o 0-y.getD o 0:=by
 have a:o<x.length:=by omega
 have b:o<y.length:=by omega
 unfold IB
 simp [oT,qA,a,b]
end Go.Proofs.YtblcgjadhemlbaaGreat
namespace Go.Proofs.YtblcgjadhemlbaaGreat
set_option linter.all false
open Go.RowKit
def Vw {W o:Nat}{x y:List Int}(c:x.length=W) (d:y.length=W) (g:o<W):(Gp x y).getD o 0=x.getD o 0+y.getD o 0:=by
 have a:o<x.length:=by omega
 have b:o<y.length:=by omega
 unfold Gp
 simp [oT,qA,a,b]
end Go.Proofs.YtblcgjadhemlbaaGreat
namespace Go.Proofs.YtblcgjadhemlbaaGreat
set_option linter.all false
open Go.RowKit
end Go.Proofs.YtblcgjadhemlbaaGreat
namespace Go.Proofs.YtblcgjadhemlbaaGreat
set_option linter.all false
open Go.RowKit
def cI (N:Nat) (p:List Int) (h0:∀x∈p,0≤x) (i:Int):∃v,Ji N p i=some v∧(0<v→∃j:Nat,i=(j:Int)∧p[j]? =some v):=by
 unfold Ji
 cases b:(decide (i<0)||decide ((p.length:Int)≤i)) with
 |true=>exact⟨0,rfl,λd=>absurd d (by decide)⟩
 |false=>
  simp only[nZ,nV] at b
  obtain⟨j,c,a⟩:=aE (l:=p) (i:=i) (by omega) (by omega)
  have:=h0 _ (nP a)
  rw[mX,c,BS a,mV,mV,mV,nL (show ¬p[j]<0 by omega)]
  exact⟨p[j],rfl,λ_=>⟨j,rfl,nO a⟩⟩
def ZD {N W:Nat}(I:1000000<N) (J:W≤1000) {p:List Int}(c:PX W p) (fr to n:Int):∃r,Kd N p fr to n=some r∧PX W r∧r.sum=p.sum:=by
 have s:=c.len
 unfold Kd
 obtain⟨v,A,t⟩:=cI N p c.nn fr
 rw[IM (by omega) _ (by decide),A,mV,SU]
 cases y:(((decide (0<min n v)&&decide (0≤to))&&decide (to<(p.length:Int)))&&decide (fr≠to))
 ·exact⟨p,rfl,c,rfl⟩
 ·simp only[mY,nR] at y
  obtain⟨⟨⟨K,B⟩,C⟩,M⟩:=y
  obtain⟨j,D,d⟩:=t (by omega)
  obtain⟨k,F,a⟩:=aE (l:=p) (i:=to) B C
  have g:=(nK.1 d).1
  have m:=(nK.1 d).2
  have o:j≠k:=by omega
  have G:=c.mem (oM d)
  have H:=c.mem (nP a)
  have b:k<(upd p (j:Int) (v-min n v)).length:=by rw[K0];exact a
  have u:(upd p (j:Int) (v-min n v))[k]=p[k]:=by
   have:(upd p (j:Int) (v-min n v))[k]? =p[k]? :=IC o _
   rw[nO b,nO a] at this
   exact mZ this
  rw[mW,D,BS g,m]
  simp only[mV]
  rw[DG (n:=v-min n v) (by omega) (by omega),F,BS b,u]
  simp only[mV]
  rw[Sa N (by omega) (by omega) (by omega) (by omega),mV]
  have z:(upd (upd p (j:Int) (v-min n v)) (k:Int) (p[k]+min n v)).sum=p.sum:=by
   have w:(p.set j (v-min n v))[k]'(by simpa using a)=p[k]:=List.getElem_set_ne o _
   unfold upd
   rw[oW,oW,L7 (by simpa using a),L7 g,w,m]
   omega
  refine⟨_,rfl,⟨by rw[K0,K0];exact s,λx q=>?_,by rw[z];exact c.mv⟩,z⟩
  rcases rE q with q|rfl
  ·rcases rE q with q|rfl
   ·exact c.nn x q
   ·omega
  ·omega
def Yr {N:Nat}(v:1000000<N) {w:A4}{W:Nat}(B:W≤1000) (U:w.in_.Az.length≤1000) (C:IG w.b.A.length W w.s.G):∃o,FY N w=some o∧IG w.b.A.length W o∧o.map List.sum=w.s.G.map List.sum:=by
 unfold FY
 obtain⟨o,⟨F,J⟩,e⟩:=EQ w.in_.Az.length (λn i l=>Cn N w n i l) (λl=>some l) (λ_ l=>IG w.b.A.length W l∧l.map List.sum=w.s.G.map List.sum) (λn k l d=>by
  simp only[Cn];rw[E7 d];rfl) (λn k l a d=>by
  obtain⟨a,c⟩:=a
  simp only[Cn,F7]
  rw[Ev d,mW,BS d,BX (by omega)]
  simp only[mV,K6,Fl,Nt]
  generalize w.in_.Az[k]=x
  cases g:(((decide (0≤x.Ax)&&decide (x.Ax<(w.b.A.length:Int)))&&(decide (0≤x.I)&&decide (x.I<(w.b.H.length:Int))))&&(decide (0≤x.D)&&decide (x.D<(w.b.H.length:Int))))
  ·exact⟨l,⟨a,c⟩,rfl⟩
  ·simp only[mY,nR] at g
   obtain⟨j,K,m⟩:=aE (l:=l) g.1.1.1 (by rw[a.len];exact g.1.1.2)
   obtain⟨y,M,p,q⟩:=a.ix (k:=j) (by rw[←a.len];exact m)
   obtain⟨z,Q,t,u⟩:=ZD v B q x.I x.D x.Be
   rw[mW,K]
   simp only[M,mV]
   rw[Q,mV]
   exact⟨_,⟨a.upd _ t,by rw[←c];exact(show(upd l (j:Int) z).map List.sum=upd (l.map List.sum) (j:Int) y.sum by unfold upd;rw[List.map_set,u]).trans (TM (by rw[pZ,p];rfl))⟩,rfl⟩) N 0 w.s.G ⟨C,rfl⟩ (by omega) (nE _)
 exact⟨o,e,F,J⟩
def UD (N:Nat) {w w':A4}(a:w.b=w'.b) (c:w.in_=w'.in_) (n:Nat):∀(i:Int) (l:List (List Int)),Cn N w n i l=Cn N w' n i l:=by
 induction n with
 |zero=>intro i l;rfl
 |succ n d=>intro i l;simp only[Cn,F7,a,c,d]
def Ws {N:Nat}(d:1000000<N) {b:AU}{s:BD}{in_:Eb}{W:Nat}(g:W≤1000) (i:in_.Az.length≤1000) (j:IG b.A.length W s.G):∃o,(∀a:List BH,FY N (⟨b,in_,({ s with Q:=a}:BD),([]:List BA),(List.replicate ((b.A.length:Int)).toNat (0:Int)),([]:List BE)⟩:A4)=some o)∧IG b.A.length W o∧EO o=EO s.G∧o.map List.sum=s.G.map List.sum:=by
 obtain⟨o,e,k,c⟩:=Yr d (w:=(⟨b,in_,s,([]:List BA),[],([]:List BE)⟩:A4)) g i j
 refine⟨o,λa=>?_,k,by unfold EO;rw[c],c⟩
 rw[←e]
 exact UD N (w:=(⟨b,in_,({ s with Q:=a}:BD),([]:List BA),(List.replicate ((b.A.length:Int)).toNat (0:Int)),([]:List BE)⟩:A4)) (w':=(⟨b,in_,s,([]:List BA),[],([]:List BE)⟩:A4)) rfl rfl N 0 s.G
end Go.Proofs.YtblcgjadhemlbaaGreat
