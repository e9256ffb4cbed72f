import Derived.Test.YtblcgjadhemlbaaGreatWPureT1
import Derived.Test.YtblcgjadhemlbaaGreatWPureEy
import Derived.Test.YtblcgjadhemlbaaGreatWPureAsk
namespace Go.Proofs.YtblcgjadhemlbaaGreat
set_option linter.all false
open Go.RowKit
def WL {c:Prop}[Decidable c] {H a t b:Int}{y:List Int}(g:b≠ -3):∀m∈(if c then [] else [(⟨H,a,t,b,y⟩:BB)]),m.Be≠ -3:=λm d=>by
 split at d
 ·cases d
 ·rw[tA.1 d];exact g
def Xf (p:Nat) (m:BB):Bool:=decide (m.G=(p:Int))&&decide (m.Be= -3)
def Vt {p:Nat}{l:List BB}(b:∀m∈l,m.Be≠ -3):l.filter (Xf p)=[]:=List.filter_eq_nil_iff.2 λm a=>by unfold Xf;simp [b m a]
def Ro {p q:Nat}(a:q≠p) {l:List BB}(c:∀m∈l,m.G=(q:Int)):l.filter (Xf p)=[]:=List.filter_eq_nil_iff.2 λm b=>by unfold Xf;rw[c m b];simp;omega
def Z4 {H:Int}{p N:Nat}{b:AU}{a:List G9}{x:List Int}:(Rz H p (LX N b p a) x).filter (Xf p)=Rz H p (LX N b p a) x:=List.filter_eq_self.2 λm c=>by
 obtain⟨e,d,g,i⟩:=QC m c
 obtain⟨t,_,rfl⟩:=rX.1 d
 unfold Xf
 rw[g,i]
 simp [Vw]
def Sn {p:Nat}:∀{l:List BB}{o:List (List Int)}(c:∀m∈l,m.G=(p:Int)) {j:Nat}(a:p≠j),(So o l)[j]? =o[j]?
 |[],_,_,_,_=>rfl
 |m::l,o,c,j,a=>by
  show(So (upd o m.G (JJ (o.getD m.G.toNat []) m.Ag)) l)[j]? =_
  rw[Sn (p:=p) (l:=l) (λq b=>c q (.tail _ b)) a,c m (.head _),Hb a]
def R7 {N:Nat}(J:18446744073709551616<N) {w:AX}{H:Int}{W:Nat}(X:w.s.D=H) (K:W≤64) {p:Nat}(B:p<w.b.A.length) (j:HZ w.b w.b.A[p]) {o:List (List Int)}{d:List Int}{k:List BB}{q:List BD}{rem:List Int}{M:Nat}(hM:M≤999999) (C:Ir w.b.A.length W o) (h:Zm W d k q M):
  ∃r l,CF N w (p:Int) w.b.A[p] o d k q rem=some r∧r.2.1=rem∧Tc w.b H N W p o d k q r.1 r.2.2.1 r.2.2.2.1 r.2.2.2.2 l∧l.length≤1∧(∀m∈l,m.Be≠ -3)∧∀x,r.1[p]? =some x→x.sum≤(w.b.A[p]).Ae:=by
 have u:1000000<N:=by omega
 have h1:=h.mv
 have h2:=h.sn
 have v:=j.cap
 unfold Hu at v
 have F:w.b.A.getD p default=w.b.A[p]:=by simp [rR,B]
 unfold CF
 obtain⟨x,Y,g,a⟩:=C.ix B
 have Z:=a.mv
 have aa:=a.sum0
 rw[Y,qN,qN,a.total u (by omega),qN,Cx (n:=x.sum-(w.b.A[p]).Ae) (by omega) (by omega)]
 by_cases z:0<x.sum-(w.b.A[p]).Ae
 ·rw[rF z,qO,FM,qN]
  have he:iY w.b W p ⟨(w.b.A[p]).Aq,(w.b.A[p]).N, -2,λy=>A3 N (x.sum-(w.b.A[p]).Ae) y⟩:=⟨λy c=>by obtain⟨t,e,h,_⟩:=M8 J K (x.sum-(w.b.A[p]).Ae) y c;exact⟨t,e,h⟩,by show(-2:Int)≠ -4;decide,j.down,by show _=Re _ _ (-2);unfold Re;rw[qP (by omega),qP (by decide),F]⟩
  obtain⟨r,l,x',t,G,I,i,q3,Q,U,V⟩:=Ss u (w:=(⟨w.b,w.in_,(⟨w.s.D,o,rem,w.s.M,w.s.P,w.s.S,d⟩:A7),k,w.peaks,q⟩:AX)) X (by omega) C B he h.out (by show k.length≤_;omega) (by show q.length≤_;omega)
  simp only at I i Q U
  rw[g] at I
  cases I
  obtain⟨t',e',_,ts⟩:=M8 J K (x.sum-(w.b.A[p]).Ae) x a
  rw[e'] at i
  have i:=rE Prod.fst (qS i)
  simp only at i
  subst i
  rw[G,qN]
  refine⟨_,l,rfl,rfl,U,by rw[V];exact Sv,by rw[V];exact WL (by show(-2:Int)≠ -3;decide),λy c=>?_⟩
  have c:r.1[p]? =some y:=c
  rw[Q,F5 (rB.1 g).1] at c
  rw[←qS c,(q3.sub a).2.1,ts]
  omega
 ·rw[rD z,qQ]
  refine⟨_,[],rfl,rfl,Tc.nil C h.out,by simp,λm hm=>(by cases hm),λy c=>?_⟩
  have c:o[p]? =some y:=c
  rw[g] at c
  cases c
  omega
def R6 {N:Nat}(v:18446744073709551616<N) {w:AX}{H:Int}{W:Nat}(B:w.s.D=H) (C:W≤64) {p:Nat}(j:p<w.b.A.length) (c:HZ w.b w.b.A[p]) {o:List (List Int)}{a:List Int}{d:List BB}{g:List BD}{rem:List Int}(y:Int×Int) {M:Nat}(hM:M≤999998) (G:Ir w.b.A.length W o) (h:Zm W a d g M):
  ∃r l,DI N w (p:Int) w.b.A[p] o a d g y (CF N w (p:Int) w.b.A[p]) rem=some r∧r.2.1=rem∧Tc w.b H N W p o a d g r.1 r.2.2.1 r.2.2.2.1 r.2.2.2.2 l∧l.length≤2∧(∀m∈l,m.Be≠ -3)∧∀x,r.1[p]? =some x→x.sum≤(w.b.A[p]).Ae:=by
 have k:1000000<N:=by omega
 have h1:=h.mv
 have h2:=h.sn
 have n:w.b.A.getD p default=w.b.A[p]:=by simp [rR,j]
 unfold DI
 rw[FM,qN]
 have I:iY w.b W p ⟨(w.b.A[p]).Aq,(w.b.A[p]).N, -1,λx=>A3 N y.1 x⟩:=⟨λz J=>by obtain⟨t,e,h,_⟩:=M8 v C y.1 z J;exact⟨t,e,h⟩,by show(-1:Int)≠ -4;decide,c.down,by show _=Re _ _ (-1);unfold Re;rw[qP (by omega),qP (by decide),n]⟩
 obtain⟨r,l,x',t,q,q1,q2,q3,q4,u,F⟩:=Ss k (w:=(⟨w.b,w.in_,(⟨w.s.D,o,rem,w.s.M,w.s.P,w.s.S,a⟩:A7),d,w.peaks,g⟩:AX)) B (by omega) G j I h.out (by show d.length≤_;omega) (by show g.length≤_;omega)
 have K:l.length≤1:=by rw[F];exact Sv
 have Q:=h.next u K
 rw[q,qN]
 obtain⟨r',U,V,X,Y,z3,Z,z4⟩:=R7 v B C j c (rem:=rem) (M:=M+1) (by omega) u.ox Q
 exact⟨r',l++U,V,X,u.trans Y,by rw[sA];omega,λm i=>(sN.1 i).elim (λi=>by rw[F] at i;exact WL (by show(-1:Int)≠ -3;decide) m i) (Z m),z4⟩
def Yj {N:Nat}(X:1000000<N) {w:AX}{H:Int}{W M:Nat}(Y:w.s.D=H) (hW:W≤64) {p:Nat}(Z:p<w.b.A.length) (ho:Ir w.b.A.length W w.s.F) (h:Zm W w.s.U w.moves w.sent M) (hM:M≤900000) (a:List AK) (B:XL w.b W p a) (aa:a.length≤2000) (v:List (List Int)→List Int→List BB→List BD→Option (List (List Int)×List Int×List Int×List BB×List BD)):
  ∃o c d g l,Tc w.b H N W p w.s.F w.s.U w.moves w.sent o c d g l∧l.length≤a.length∧(∀x,w.s.F[p]? =some x→l=Rz H p a x)∧Cd N w (p:Int) a v N 0 w.s.F w.s.U w.moves w.sent=v o c d g:=by
 obtain⟨⟨o,c,d,g⟩,⟨l,j,C,y⟩,e⟩:=Ee a.length (λn i (s:List (List Int)×List Int×List BB×List BD)=>Cd N w (p:Int) a v n i s.1 s.2.1 s.2.2.1 s.2.2.2) (λs=>v s.1 s.2.1 s.2.2.1 s.2.2.2) (λk s=>∃l,Tc w.b H N W p w.s.F w.s.U w.moves w.sent s.1 s.2.1 s.2.2.1 s.2.2.2 l∧l.length≤k∧∀x,w.s.F[p]? =some x→l=Rz H p (a.take k) x∧s.1[p]? =some (Xj (a.take k) x)) (λn k s m=>by
  simp only[Cd];rw[E4 m];rfl) (λn k s hi m=>by
  obtain⟨o,c,d,g⟩:=s
  obtain⟨l,j,C,y⟩:=hi
  simp only at y
  simp only at j
  have J:=h.next j C
  have h1:=J.mv
  have h2:=J.sn
  simp only[Cd]
  rw[En m,qO,BT (by omega),BR m,qN,qN]
  obtain⟨r,K,q,t,G,z,Q,q3,q4,q5,V⟩:=Ss X (w:=(⟨w.b,w.in_,(⟨w.s.D,o,w.s.O,w.s.M,w.s.P,w.s.S,c⟩:A7),d,w.peaks,g⟩:AX)) Y (by omega) j.ox Z (B _ (rH m)) j.ol (by show d.length≤_;omega) (by show g.length≤_;omega)
  have hl:K.length≤1:=by rw[V];exact Sv
  rw[G,qN]
  exact⟨(_,_,_,_),⟨l++K,j.trans q5,by rw[sA];omega,λx u=>by
   obtain⟨u1,u2⟩:=y x u
   have z:o[p]? =some q:=z
   have I:Xj (a.take k) x=q:=qS (u2.symm.trans z)
   rw[tG m,QD,Sq,←u1,I]
   have v1:Rz H p [a[k]] q=(if t.sum≤0 then [] else [(⟨H,(p:Int),(a[k]).to_,(a[k]).way,t⟩:BB)]):=by
    simp only[Rz];rw[Q];simp
   have v2:Xj [a[k]] q=JJ q t:=by
    simp only[Xj];rw[Q]
   rw[v1,v2]
   refine⟨by rw[V],?_⟩
   show r.1[p]? =_
   rw[q4]
   exact F5 (rB.1 z).1 _⟩,rfl⟩) N 0 (w.s.F,w.s.U,w.moves,w.sent) ⟨[],Tc.nil ho h.out,qX _,λx u=>⟨rfl,u⟩⟩ (by omega) (qW _)
 exact⟨o,c,d,g,l,j,C,λx u=>by have:=(y x u).1;rwa [rY] at this,e⟩
def Yi {N:Nat}(g:18446744073709551616<N) {w:AX}{H:Int}{W M:Nat}(K:w.s.D=H) (n:W≤64) (hL:w.b.E.length≤900) (ht:w.in_.Ad.length≤1000) (V:∀l∈w.b.E,IA w.b l) (q:∀p∈w.b.A,HZ w.b p) (hg:w.s.P.length=w.b.E.length) (X:w.peaks.length=w.b.A.length) (d:w.s.O.length=w.b.A.length) {p:Nat}(c:p<w.b.A.length) (ho:Ir w.b.A.length W w.s.F) (h:Zm W w.s.U w.moves w.sent M) (hM:M≤900000):
  ∃r l,D6 N w (p:Int)=some r∧r.2.1.length=w.b.A.length∧Tc w.b H N W p w.s.F w.s.U w.moves w.sent r.1 r.2.2.1 r.2.2.2.1 r.2.2.2.2 l∧l.length≤w.in_.Ad.length+w.b.E.length+2∧(∀x,w.s.F[p]? =some x→l.filter (Xf p)=Rz H p (LX N w.b p w.in_.Ad) x)∧∀x,r.1[p]? =some x→x.sum≤(w.b.A[p]).Ae:=by
 have j:1000000<N:=by omega
 have k:=q _ (rH c)
 have a1:=X6 g (w:=w) ht c
 have a2:=Rp N w.b p w.in_.Ad
 have a3:=X8 g (b:=w.b) n p w.in_.Ad
 generalize Y:LX N w.b p w.in_.Ad=l1 at a1 a2 a3
 obtain⟨Q,b1,b2,b3⟩:=Yx g n (by omega) V hg X c
 have Z:XL w.b W p (l1++Q):=λe he=>(sN.1 he).elim (a3 e) λh=>(b3 e h).1
 have ad:(l1++Q).length≤w.in_.Ad.length+w.b.E.length:=by rw[sA];omega
 unfold D6
 rw[BR c,qN,a1,qN,b1,qN,SI j _ _ (by omega) (by omega),qN]
 obtain⟨o,ae,ms,sn,l,i,i2,i3,e⟩:=Yj j K n c ho h hM (l1++Q) Z (by omega) (D5 N w (p:Int) w.b.A[p])
 have hn:=h.next i i2
 rw[e]
 have hf:∀a:List BB,(∀m∈a,m.Be≠ -3)→∀x,w.s.F[p]? =some x→(l++a).filter (Xf p)=Rz H p l1 x:=λa aa x hx=>by
  rw[uN,Vt aa,sL,i3 x hx,QD,uN,Vt (l:=Rz H p Q _) (λm hm=>by obtain⟨e',ab,h1,_⟩:=QC m hm;have:=(b3 e' ab).2;omega),sL,←Y,Z4]
 unfold D5
 cases decide ((w.b.A[p]).I≠0)
 ·obtain⟨r,a,t,u,v,r3,z,B⟩:=R7 g K n c k (rem:=w.s.O) (by omega) i.ox hn
  exact⟨r,l++a,t,by rw[u];exact d,i.trans v,by rw[sA];omega,hf a z,B⟩
 ·have C:p<w.peaks.length:=by omega
  have G:p<w.s.O.length:=by omega
  have J:(upd w.s.O (p:Int) 0).length=w.b.A.length:=by rw[LH];exact d
  obtain⟨x,hx,af,ac⟩:=i.ox.ix c
  obtain⟨y,hy⟩:=YQ g w.b.A[p] w.peaks[p] w.s.O[p]
  rw[qO,BR C,qN,qN,BR G,qN,qN,hy,qN,qN,qN,hx,qN,qN,ac.total j (by omega),qN]
  cases decide (y.1≤x.sum)
  ·obtain⟨r,a,t,u,v,r3,z,B⟩:=R6 g K n c k (rem:=upd w.s.O (p:Int) 0) y (by omega) i.ox hn
   exact⟨r,l++a,t,by rw[u];exact J,i.trans v,by rw[sA];omega,hf a z,B⟩
  ·rw[qO,BR (show p<(upd w.s.O (p:Int) 0).length by omega),qN,qN]
   obtain⟨r,a,t,u,v,r3,z,B⟩:=R6 g K n c k (rem:=upd (upd w.s.O (p:Int) 0) (p:Int) y.2) y (by omega) i.ox hn
   exact⟨r,l++a,t,by rw[u,LH];exact J,i.trans v,by rw[sA];omega,hf a z,B⟩
structure nV (N:Nat) (b:AU) (s:A7) (ts:List G9) (o1:List (List Int)) (r:A7×List BB×List Int) (ns:List Int) (o3:List (List Int)) (l:List BB):Prop where
 nl:ns.length=b.A.length
 mlen:r.2.1.length≤100000
 n0:∀n∈ns,0≤n
 at3:∀(p:Nat) x n,o1[p]? =some x→ns[p]? =some n→o3[p]? =some (Fw (Fw x (v1 b.J.length n)) (O6 b.J.length s.D s.M p))
 ox3:Ir b.A.length b.J.length o3
 os3:E8 o3+HG (NC s.D s.M)≤1125899906842624
 pk:r.2.2=o3.map List.sum
 lv:nZ b s.D N b.J.length b.A.length o3 s.U (Xh s.D b.J.length 0 ns) r.1.F r.1.U r.2.1 (l.filterMap (Pf b s.D)) l
 que:r.1.M=NC s.D s.M++l.filterMap (Pf b s.D)
 hour:r.1.D=Bw (s.D+1)
 inn:r.1.S=Fw s.S (v1 b.J.length ns.sum)
 tk:∀p,p<b.A.length→∀x,o3[p]? =some x→l.filter (Xf p)=Rz s.D p (LX N b p ts) x
 cap:∀(p:Nat) (hp:p<b.A.length) x,r.1.F[p]? =some x→x.sum≤(b.A[p]).Ae
structure oK (N:Nat) (b:AU) (H:Int) (ts:List G9) (o3:List (List Int)) (k:Nat) (o:List (List Int)) (l:List BB):Prop where
 tk:∀p,p<k→∀x,o3[p]? =some x→l.filter (Xf p)=Rz H p (LX N b p ts) x
 hi:∀p,k≤p→l.filter (Xf p)=[]∧o[p]? =o3[p]?
 cap:∀(p:Nat) (hp:p<b.A.length),p<k→∀x,o[p]? =some x→x.sum≤(b.A[p]).Ae
def oK.next {N:Nat}{b:AU}{H:Int}{g:List G9}{v:List (List Int)}{k W:Nat}{o i:List (List Int)}{j c:List Int}{w n:List BB}{y s:List BD}{l d:List BB}(K:oK N b H g v k o l) (J:k<b.A.length) (q:Tc b H N W k o j w y i c n s d) (z:∀x,o[k]? =some x→d.filter (Xf k)=Rz H k (LX N b k g) x) (B:∀x,i[k]? =some x→x.sum≤(b.A[k]).Ae):oK N b H g v (k+1) i (l++d):=by
 have fr:∀m∈d,m.G=(k:Int):=λm C=>(q.mv m C).fr
 refine⟨λp t x a=>?_,λp t=>⟨?_,?_⟩,λp t D x a=>?_⟩
 ·rw[uN]
  by_cases e:p=k
  ·subst e
   obtain⟨F,I⟩:=K.hi p (qX _)
   rw[F,rQ]
   exact z x (I.trans a)
  ·rw[Ro (λu=>e u.symm) fr,sL]
   exact K.tk p (by omega) x a
 ·rw[uN,(K.hi p (by omega)).1,Ro (by omega) fr];rfl
 ·rw[q.own,Sn fr (by omega)];exact(K.hi p (by omega)).2
 ·by_cases e:p=k
  ·subst e;exact B x a
  ·rw[q.own,Sn fr (λu=>e u.symm)] at a
   exact K.cap p t (by omega) x a
end Go.Proofs.YtblcgjadhemlbaaGreat
namespace Go.Proofs.YtblcgjadhemlbaaGreat
set_option linter.all false
open Go.RowKit
def QE {N:Nat}(j:1000000<N) {p:List Int}(l:p.length≤1000) (h0:∀x∈p,0≤x) (m:p.sum≤2305843009213693952):Fu N p=some p.sum:=by
 unfold Fu
 obtain⟨s,⟨b,c⟩,e⟩:=Ee p.length (λn i s=>EX N p (Ga N) n s i) (Ga N) (λk s=>s=(p.take k).sum∧0≤s) (λn k s a=>by
  simp only[EX];rw[E4 a];rfl) (λn k s d a=>by
  obtain⟨b,c⟩:=d
  have g:=IP h0 (k+1)
  have o:=h0 _ (rH a)
  rw[I2 a] at g
  simp only[EX]
  rw[En a,qO,BR a,qN,Cx (n:=s+p[k]) (by omega) (by omega),BT (by omega)]
  exact⟨_,⟨by rw[I2 a,b],by omega⟩,rfl⟩) N 0 0 ⟨rfl,rN _⟩ (by omega) (qW _)
 rw[rY] at b
 subst b
 exact e
def P5.at_:∀{l:List BB}{o:List (List Int)},P5 l o→∀(j:Nat) (b:j<l.length),∃x,(So o (l.take j))[(l[j]).G.toNat]? =some x∧Uv (l[j]).Ag x
 |m::l,o,b,0,_=>b.1
 |m::l,o,b,j+1,a=>P5.at_ (l:=l) b.2 j (by simpa using a)
def Wn {P W:Nat}{t:Int}{q:List BD}(a:QX P W q) {p:Nat}:∀k,k≤q.length→(O6 W t (q.take k) p).length=W∧∀x∈O6 W t (q.take k) p,0≤x
 |0,_=>⟨by simp [O6],λx g=>(PX.zero W).nn x g⟩
 |k+1,i=>by
  obtain⟨b,c⟩:=Wn a k (by omega)
  rw[PT (by omega)]
  split
  ·have d:=(a _ (rH (show k<q.length by omega))).1
   exact⟨OY b d.len,SU c d.nn⟩
  ·exact⟨b,c⟩
end Go.Proofs.YtblcgjadhemlbaaGreat
namespace Go.Proofs.YtblcgjadhemlbaaGreat
set_option linter.all false
open Go.RowKit
end Go.Proofs.YtblcgjadhemlbaaGreat
namespace Go.Proofs.YtblcgjadhemlbaaGreat
set_option linter.all false
open Go.RowKit
def Rl {W o:Nat}{x y:List Int}(c:x.length=W) (d:y.length=W) (g:o<W):(Fw x y).getD o 0=x.getD o 0+y.getD o 0:=by
 have a:o<x.length:=by omega
 have b:o<y.length:=by omega
 unfold Fw
 simp [rR,tT,a,b]
end Go.Proofs.YtblcgjadhemlbaaGreat
namespace Go.Proofs.YtblcgjadhemlbaaGreat
set_option linter.all false
open Go.RowKit
end Go.Proofs.YtblcgjadhemlbaaGreat
namespace Go.Proofs.YtblcgjadhemlbaaGreat
set_option linter.all false
open Go.RowKit
def fQ (N:Nat) (p:List Int) (h0:∀x∈p,0≤x) (i:Int):∃v,J8 N p i=some v∧(0<v→∃j:Nat,i=(j:Int)∧p[j]? =some v):=by
 unfold J8
 cases b:(decide (i<0)||decide ((p.length:Int)≤i)) with
 |true=>exact⟨0,rfl,λd=>absurd d (by decide)⟩
 |false=>
  simp only[rS,rO] at b
  obtain⟨j,c,a⟩:=dG (l:=p) (i:=i) (by omega) (by omega)
  have:=h0 _ (rH a)
  rw[qQ,c,BR a,qN,qN,qN,rD (show ¬p[j]<0 by omega)]
  exact⟨p[j],rfl,λ_=>⟨j,rfl,rC a⟩⟩
def aU {N W:Nat}(I:1000000<N) (J:W≤1000) {p:List Int}(c:PX W p) (fr to n:Int):∃r,Kz N p fr to n=some r∧PX W r∧r.sum=p.sum:=by
 have s:=c.len
 unfold Kz
 obtain⟨v,A,t⟩:=fQ N p c.nn fr
 rw[Jj (by omega) _ (by decide),A,qN,TM]
 cases y:(((decide (0<min n v)&&decide (0≤to))&&decide (to<(p.length:Int)))&&decide (fr≠to))
 ·exact⟨p,rfl,c,rfl⟩
 ·simp only[qT,rJ] at y
  obtain⟨⟨⟨K,B⟩,C⟩,M⟩:=y
  obtain⟨j,D,d⟩:=t (by omega)
  obtain⟨k,F,a⟩:=dG (l:=p) (i:=to) B C
  have g:=(rB.1 d).1
  have m:=(rB.1 d).2
  have o:j≠k:=by omega
  have G:=c.mem (sC d)
  have H:=c.mem (rH a)
  have b:k<(upd p (j:Int) (v-min n v)).length:=by rw[LH];exact a
  have u:(upd p (j:Int) (v-min n v))[k]=p[k]:=by
   have:(upd p (j:Int) (v-min n v))[k]? =p[k]? :=Hb o _
   rw[rC b,rC a] at this
   exact qS this
  rw[qO,D,BR g,m]
  simp only[qN]
  rw[Cx (n:=v-min n v) (by omega) (by omega),F,BR b,u]
  simp only[qN]
  rw[PU N (by omega) (by omega) (by omega) (by omega),qN]
  have z:(upd (upd p (j:Int) (v-min n v)) (k:Int) (p[k]+min n v)).sum=p.sum:=by
   have w:(p.set j (v-min n v))[k]'(by simpa using a)=p[k]:=List.getElem_set_ne o _
   unfold upd
   rw[sF,sF,Nd (by simpa using a),Nd g,w,m]
   omega
  refine⟨_,rfl,⟨by rw[LH,LH];exact s,λx q=>?_,by rw[z];exact c.mv⟩,z⟩
  rcases uV q with q|rfl
  ·rcases uV q with q|rfl
   ·exact c.nn x q
   ·omega
  ·omega
def Z7 {N:Nat}(v:1000000<N) {w:AX}{W:Nat}(B:W≤1000) (U:w.in_.Ba.length≤1000) (D:Ir w.b.A.length W w.s.F):∃o,Fo N w=some o∧Ir w.b.A.length W o∧o.map List.sum=w.s.F.map List.sum:=by
 unfold Fo
 obtain⟨o,⟨H,I⟩,e⟩:=Ee w.in_.Ba.length (λn i l=>C5 N w n i l) (λl=>some l) (λ_ l=>Ir w.b.A.length W l∧l.map List.sum=w.s.F.map List.sum) (λn k l d=>by
  simp only[C5];rw[E4 d];rfl) (λn k l a d=>by
  obtain⟨a,c⟩:=a
  simp only[C5,GR]
  rw[En d,qO,BR d,BT (by omega)]
  simp only[qN,MI,GC,OJ]
  generalize w.in_.Ba[k]=x
  cases g:(((decide (0≤x.An)&&decide (x.An<(w.b.A.length:Int)))&&(decide (0≤x.G)&&decide (x.G<(w.b.J.length:Int))))&&(decide (0≤x.C)&&decide (x.C<(w.b.J.length:Int))))
  ·exact⟨l,⟨a,c⟩,rfl⟩
  ·simp only[qT,rJ] at g
   obtain⟨j,K,m⟩:=dG (l:=l) g.1.1.1 (by rw[a.len];exact g.1.1.2)
   obtain⟨y,M,p,q⟩:=a.ix (k:=j) (by rw[←a.len];exact m)
   obtain⟨z,Q,t,u⟩:=aU v B q x.G x.C x.Bd
   rw[qO,K]
   simp only[M,qN]
   rw[Q,qN]
   exact⟨_,⟨a.upd _ t,by rw[←c];exact(show(upd l (j:Int) z).map List.sum=upd (l.map List.sum) (j:Int) y.sum by unfold upd;rw[List.map_set,u]).trans (T6 (by rw[sQ,p];rfl))⟩,rfl⟩) N 0 w.s.F ⟨D,rfl⟩ (by omega) (qW _)
 exact⟨o,e,H,I⟩
def U2 (N:Nat) {w w':AX}(a:w.b=w'.b) (c:w.in_=w'.in_) (n:Nat):∀(i:Int) (l:List (List Int)),C5 N w n i l=C5 N w' n i l:=by
 induction n with
 |zero=>intro i l;rfl
 |succ n d=>intro i l;simp only[C5,GR,a,c,d]
def YA {N:Nat}(d:1000000<N) {b:AU}{s:A7}{in_:DO}{W:Nat}(g:W≤1000) (i:in_.Ba.length≤1000) (j:Ir b.A.length W s.F):∃o,(∀a:List BG,Fo N (⟨b,in_,({ s with P:=a}:A7),([]:List BB),(List.replicate ((b.A.length:Int)).toNat (0:Int)),([]:List BD)⟩:AX)=some o)∧Ir b.A.length W o∧E8 o=E8 s.F∧o.map List.sum=s.F.map List.sum:=by
 obtain⟨o,e,k,c⟩:=Z7 d (w:=(⟨b,in_,s,([]:List BB),[],([]:List BD)⟩:AX)) g i j
 refine⟨o,λa=>?_,k,by unfold E8;rw[c],c⟩
 rw[←e]
 exact U2 N (w:=(⟨b,in_,({ s with P:=a}:A7),([]:List BB),(List.replicate ((b.A.length:Int)).toNat (0:Int)),([]:List BD)⟩:AX)) (w':=(⟨b,in_,s,([]:List BB),[],([]:List BD)⟩:AX)) rfl rfl N 0 s.F
end Go.Proofs.YtblcgjadhemlbaaGreat
namespace Go.Proofs.YtblcgjadhemlbaaGreat
set_option linter.all false
open Go.RowKit
def gk (R:List Int) (k:Nat):Int:=min (max (R.getD k 0) 0) 1125899906842624
def Nn (R:List Int):Nat→Int
 |0=>0
 |k+1=>Nn R k+gk R k
def Tb (R l:List Int):Prop:=∀(i:Nat) n,l[i]? =some n→n≤gk R i
def Tb.snoc {R l:List Int}(m:Tb R l) {k:Nat}(b:l.length=k) {n:Int}(c:n≤gk R k):Tb R (l++[n]):=λi x a=>by
 rcases rL i k with d|d
 ·rw[vK (by omega)] at a
  exact m i x a
 ·have g:=(rB.1 a).1
  rw[sA,List.length_singleton] at g
  have j:i=k:=by omega
  subst j
  rw[vL (by omega),b,Nat.sub_self] at a
  cases a
  exact c
def Tb.take {R l:List Int}(g:Tb R l):∀d k,k+d≤l.length→Nn R k-(l.take k).sum≤Nn R (k+d)-(l.take (k+d)).sum
 |0,k,_=>rN _
 |d+1,k,a=>by
  have b:=Tb.take g d k (by omega)
  have c:=g (k+d) _ (rC (show k+d<l.length by omega))
  rw[show k+(d+1)=(k+d)+1 by omega,I2 (show k+d<l.length by omega)]
  simp only[Nn]
  omega
def Tb.sum {R l:List Int}(a:Tb R l):l.sum≤Nn R l.length:=by
 have:=Tb.take a l.length 0 (by omega)
 rw[sB,rY,tE] at this
 simp only[Nn,List.sum_nil] at this
 omega
def Tb.eq {R l:List Int}(j:Tb R l) (g:l.sum=Nn R l.length) (i:Nat) (b:i<l.length):l[i]? =some (gk R i):=by
 have c:=Tb.take j i 0 (by omega)
 have a:=Tb.take j (l.length-(i+1)) (i+1) (by omega)
 have d:=Tb.take j 1 i (by omega)
 rw[sB,tE] at c
 rw[show i+1+(l.length-(i+1))=l.length by omega,rY] at a
 rw[I2 b] at a d
 simp only[Nn,List.sum_nil] at c a d
 rw[rC b,show l[i]=gk R i by omega]
def aG {N:Nat}(hN:1000000<N) {w:AX}{W:Nat}(hW:w.b.J.length=W) (h1:1≤W) (aw:W≤16) (hP:w.b.A.length≤64) (I:Ir w.b.A.length W w.s.F) (hq:w.s.M.length≤1000) (v:QX w.b.A.length W w.s.M) (ht:E8 w.s.F+HG w.s.M≤1125899906842624) (U:w.s.S.length=W) (p:∀x∈w.s.S,0≤x) (ae:w.s.S.sum≤1152921504606846976) (hm:w.moves=[]):
  ∃l r,Ii N w=some (r.2.2.2.1,r.2.2.2.2,r.2.2.1)∧pQ w W w.b.A.length l r∧Tb w.in_.X l∧(l.sum=Nn w.in_.X w.b.A.length∨r.1=1125899906842624∨r.2.1=1152921504606846976):=by
 have ax:=I.len
 have aj:=(Hm v 0).2
 rw[tE,show HG ([]:List BD)=0 from rfl] at aj
 unfold Ii
 obtain⟨s1,i1,e1⟩:=Ee w.s.F.length (λn i s=>EN N w (EQ N w) n s i) (EQ N w) (λk s=>s=E8 (w.s.F.take k)) (λn k s g=>by
  simp only[EN];rw[E4 g];rfl) (λn k s V g=>by
  have B:=I.all _ (rH g)
  have h2:=LM I (k+1)
  rw[LR g] at h2
  have h3:=B.sum0
  have h4:=(LM I k).1
  simp only[EN]
  rw[En g,qO,BR g,qN,qN,B.total hN (by omega),qN,BT (by omega),Cx (n:=s+(w.s.F[k]).sum) (by omega) (by omega)]
  exact⟨_,by rw[LR g,V],rfl⟩) N 0 0 rfl (by omega) (qW _)
 rw[show EN N w (EQ N w) N 0 0=EQ N w s1 from e1]
 rw[rY] at i1
 have ay:=I.sum0
 unfold EQ
 obtain⟨s2,i2,e2⟩:=Ee w.s.M.length (λn i s=>EM N w (EO N w) n s i) (EO N w) (λk s=>s=E8 w.s.F+HG (w.s.M.take k)) (λn k s g=>by
  simp only[EM];rw[E4 g];rfl) (λn k s V g=>by
  have B:=(v _ (rH g)).1
  have h2:=Hm v (k+1)
  rw[Kd g] at h2
  have h3:=B.sum0
  have h4:=(Hm v k).1
  simp only[EM]
  rw[En g,qO,BR g,qN,B.total hN (by omega),qN,BT (by omega),Cx (n:=s+(w.s.M[k]).Ag.sum) (by omega) (by omega)]
  exact⟨_,by rw[Kd g,V];omega,rfl⟩) N 0 s1 (by rw[i1,tE];simp [HG]) (by omega) (qW _)
 rw[show EM N w (EO N w) N s1 0=EO N w s2 from e2]
 rw[rY] at i2
 have az:=J5 p
 unfold EO
 rw[Tp hN (by omega) p (by omega),qN]
 obtain⟨s,⟨l,i3,i4⟩,e⟩:=Ee w.b.A.length (λn i (s:Int×Int×List BB×List (List Int)×List Int)=>DF N w n s.1 s.2.1 i s.2.2.1 s.2.2.2.1 s.2.2.2.2) (λs=>some (s.2.2.2.1,s.2.2.2.2,s.2.2.1)) (λk s=>∃l,pQ w W k l s∧Tb w.in_.X l∧(l.sum=Nn w.in_.X k∨s.1=1125899906842624∨s.2.1=1152921504606846976)) (λn k s g=>by
  simp only[DF];rw[E4 g];rfl) (λn k s V g=>by
  obtain⟨a,c,ms,o,j⟩:=s
  obtain⟨l,⟨Y,q2,q3,Z,q5,q6,⟨q7,q8⟩,q9,⟨C,af⟩,aa⟩,qp,qm⟩:=V
  simp only at q3 Z q5 q6 q7 q8 q9 C af aa qm
  have a0:=Z.sum0
  have ak:=J5 q2
  obtain⟨x,B,G,q⟩:=Z.ix g
  obtain⟨x1,a1,K,aq⟩:=I.ix g
  have al:x=x1:=by rw[q6 k (qX _),K] at G;exact(qS G).symm
  have hj:∀m:Int,m≤1125899906842624-a→m≤1152921504606846976-c→(max m 0≤gk w.in_.X k∧(l.sum+max m 0=Nn w.in_.X (k+1)∨a+max m 0=1125899906842624∨c+max m 0=1152921504606846976))→∃s':Int×Int×List BB×List (List Int)×List Int,(∃l,pQ w W (k+1) l s'∧Tb w.in_.X l∧(l.sum=Nn w.in_.X (k+1)∨s'.1=1125899906842624∨s'.2.1=1152921504606846976))∧Gn N w a c (k:Int) ms o j (Fi N (k:Int) (DF N w n)) m=DF N w n s'.1 s'.2.1 ((k+1:Nat):Int) s'.2.2.1 s'.2.2.2.1 s'.2.2.2.2:=λm a2 a3 a4=>by
   unfold Gn Fi
   rw[BT (by omega)]
   by_cases ag:m≤0
   ·rw[rF ag,qO]
    refine⟨(a,c,ms,o,j),⟨l++[0],⟨by simp [Y],λn d=>?_,?_,Z,λi y n hy d=>?_,λi V=>q6 i (by omega),⟨q7,q8⟩,by rw[sT];simpa using q9,⟨by rw[sT];simpa using C,af⟩,by rw[sT];simpa using aa⟩,qp.snoc Y (by omega),by show _∨a=_∨c=_;rw[show (l++[(0:Int)]).sum=l.sum by simp];omega⟩,rfl⟩
    ·rcases sN.1 d with d|d
     ·exact q2 n d
     ·rw[tA.1 d];exact rN 0
    ·show ms=_
     rw[Ql,qP (by omega),sL];exact q3
    ·show o[i]? =_
     by_cases ab:i<k
     ·rw[vK (by omega)] at d
      exact q5 i y n hy d
     ·have t:i=k:=by
       have:=(rB.1 d).1
       simp at this;omega
      subst t
      rw[vL (by omega),Y,Nat.sub_self] at d
      cases d
      rw[Vp,Rk (I.all y (sC hy)).len,q6 i (qX _),hy]
   ·have a5:=Z.le G
    have hv:=cM h1 (n:=m) (by omega) (by omega)
    have ah:=PH h1 m
    obtain⟨x0,ac⟩:=Df.ix (l:=x) (i:=0) (rN _) (by rw[q.len];omega)
    have ar:=q.mem (sC (D0 ac).2)
    have ai:j.length=W:=by rw[q9];exact OY U (OF _ _)
    obtain⟨y0,H⟩:=Df.ix (l:=j) (i:=0) (rN _) (by omega)
    have u:∀z∈j,0≤z:=by
     rw[q9]
     refine SU p λz hz=>?_
     rcases uV hz with hz|rfl
     ·rw[(List.mem_replicate.1 hz).2];exact rN 0
     ·exact ak
    have am:j.sum=c:=by rw[q9,I1 (by rw[U,OF]),PH h1,C]
    have au:=IW u _ (sC (D0 H).2)
    have av:=u _ (sC (D0 H).2)
    obtain⟨z0,an⟩:=Df.ix (l:=List.replicate ((w.b.J.length:Int)).toNat (0:Int)) (i:=0) (rN _) (by rw[Md];omega)
    have a6:=Sf w.s.D W l 0
    rw[rD ag,qQ,B,qN,qN,ac,qN,qN,H,qN,qN,qN,qN,Jj (by omega) _ (by decide),an,qN,qN,KI (by rw[q3];simp;omega),Cx (n:=a+m) (by omega) (by omega),Cx (n:=c+m) (by omega) (by omega),Cx (n:=x0+m) (by omega) (by omega),Cx (n:=y0+m) (by omega) (by omega),Vo q.len h1 m x0 ac,Vo ai h1 m y0 H]
    have ao:PX W (Fw x (v1 W m)):=q.add hv (by rw[ah];omega)
    have Q:E8 (upd o (k:Int) (Fw x (v1 W m)))=E8 o+m:=by
     rw[NI G,I1 (q.len.trans hv.len.symm),ah];omega
    have ap:List.replicate ((w.b.J.length:Int)).toNat (0:Int)=List.replicate W 0:=by rw[hW];rfl
    refine⟨(a+m,c+m,ms++[⟨w.s.D, -1,(k:Int), -4,upd (List.replicate ((w.b.J.length:Int)).toNat (0:Int)) 0 m⟩],upd o (k:Int) (Fw x (v1 W m)),Fw j (v1 W m)),⟨l++[m],⟨by simp [Y],λn d=>?_,?_,Z.upd _ ao,λi y n hy d=>?_,λi V=>?_,⟨?_,by show a+m≤_;omega⟩,?_,⟨?_,by show c+m≤_;omega⟩,?_⟩,qp.snoc Y (by omega),by show _∨a+m=_∨c+m=_;rw[show (l++[m]).sum=l.sum+m by simp];omega⟩,rfl⟩
    ·rcases sN.1 d with d|d
     ·exact q2 n d
     ·rw[tA.1 d];omega
    ·show ms++_=_
     rw[Ql,qR (by omega),q3,ap,sB,Y];rfl
    ·show(upd o (k:Int) _)[i]? =_
     by_cases ab:k=i
     ·subst ab
      rw[vL (by omega),Y,Nat.sub_self] at d
      cases d
      rw[F5 (by rw[Z.len];exact g),al]
      rw[K] at hy
      cases hy
      rfl
     ·have t:i<l.length:=by
       have:=(rB.1 d).1
       simp at this;omega
      rw[Hb ab]
      rw[vK t] at d
      exact q5 i y n hy d
    ·show(upd o (k:Int) _)[i]? =_
     rw[Hb (by omega)];exact q6 i (by omega)
    ·show a+m=E8 _+_
     rw[Q];omega
    ·show Fw j (v1 W m)=_
     rw[q9,sT,QZ]
     rw[eQ h1];simp
    ·show c+m=_
     rw[sT,C];simp;omega
    ·show E8 _=_
     rw[Q,aa,sT];simp;omega
  simp only[DF]
  rw[En g,qO]
  cases hr:decide ((k:Int)<(w.in_.X.length:Int))
  ·have hr:=of_decide_eq_false hr
   have ad:w.in_.X.getD k 0=0:=by rw[rR,rU (by omega)];rfl
   exact hj 0 (by omega) (by omega) (by simp only[Nn,gk,ad];omega)
  ·have hr:=tK hr
   have a7:0≤c:=by omega
   rw[qO,BR (show k<w.in_.X.length by omega),qN,Cx (n:=1125899906842624-a) (by omega) (by omega),Cx (n:=1152921504606846976-c) (by omega) (by omega)]
   have ad:w.in_.X.getD k 0=w.in_.X[k]:=by simp [rR,show k<w.in_.X.length by omega]
   exact hj _ (by omega) (by omega) (by simp only[Nn,gk,ad];omega)) N 0 (s2,w.s.S.sum,w.moves,w.s.F,w.s.S) ⟨[],⟨rfl,λn d=>(by cases d),hm,I,λi x n _ d=>(by cases d),λi _=>rfl,⟨by show s2=_;rw[i2],by show s2≤_;omega⟩,by
    show w.s.S=Fw _ (v1 W 0)
    rw[Vp,Rk U],⟨by show w.s.S.sum=_;simp,ae⟩,by simp⟩,(λi x B=>by cases B),.inl rfl⟩ (by omega) (qW _)
 exact⟨l,s,e,i3,i4⟩
structure pW (N:Nat) (b:AU) (s:A7) (in_:DO) (o1:List (List Int)) (gs:List BG) (o2:List (List Int)) (inn:List Int) (ms:List BB) (z:List (List Int)×List BD×List BG×List Int) (ns:List Int):Prop where
 eg:E6 N (⟨b,in_,s,([]:List BB),(List.replicate ((b.A.length:Int)).toNat (0:Int)),([]:List BD)⟩:AX)=some gs
 ez:DR N (⟨b,in_,(⟨s.D,o2,s.O,s.M,gs,inn,s.U⟩:A7),ms,(List.replicate ((b.A.length:Int)).toNat (0:Int)),([]:List BD)⟩:AX)=some z
 nl:ns.length=b.A.length
 n0:∀n∈ns,0≤n
 ms_:ms=Xh s.D b.J.length 0 ns
 at3:∀(p:Nat) x n,o1[p]? =some x→ns[p]? =some n→z.1[p]? =some (Fw (Fw x (v1 b.J.length n)) (O6 b.J.length s.D s.M p))
 own:Ir b.A.length b.J.length z.1
 rest:z.2.1=NC s.D s.M
 pk:z.2.2.2=z.1.map List.sum
 gl:z.2.2.1.length=b.E.length
 inn_:inn=Fw s.S (v1 b.J.length ns.sum)
 tot:E8 z.1+HG (NC s.D s.M)=E8 s.F+HG s.M+ns.sum
 tot2:E8 s.F+HG s.M+ns.sum≤1125899906842624
 pw:Tb in_.X ns
 max_:ns.sum=Nn in_.X b.A.length∨E8 s.F+HG s.M+ns.sum=1125899906842624∨s.S.sum+ns.sum=1152921504606846976
 ins:s.S.sum+ns.sum≤1152921504606846976
def Tu {N:Nat}(hN:18446744073709551616<N) {b:AU}(C:IB b) (G:∀l∈b.E,IA b l) (ad:∀p∈b.A,HZ b p) {s:A7}(d:pP b s) (hq:s.M.length≤1000) {in_:DO}(h1:in_.Ap.length≤1000) (h2:in_.At.length≤1000) (h3:in_.Ad.length≤1000) {t:List (List Int)}(h4:∀j:List BG,Fo N (⟨b,in_,({ s with P:=j}:A7),([]:List BB),(List.replicate ((b.A.length:Int)).toNat (0:Int)),([]:List BD)⟩:AX)=some t) (H:Ir b.A.length b.J.length t) (I:E8 t=E8 s.F):
  ∃j m g o z K,Gr N b s in_=DM N b in_ s (m,g,o) z (DT N s (m,g,o) z) N 0 z.1 s.O s.U o ([]:List BD)∧pW N b s in_ t j m g o z K:=by
 have hP:=C.pl
 have hL:=C.li
 have hW:=C.own
 have Q:=C.own1
 have i:1000000<N:=by omega
 unfold Gr
 rw[SH i (by have:=d.own.len;omega) (λx V=>by have:=(d.own.all x V).len;omega) (by have:=d.rem;omega) (by have:=d.gates;omega) (by have:=d.inn;omega) (by have:=d.out;omega),qN,Jj (by omega) _ (by decide)]
 have X:W1 b.E.length s.P (qD s):=⟨d.gates,λk hk=>by
  have:k<s.P.length:=by rw[d.gates];exact hk
  simp [qD,rR,this]⟩
 obtain⟨j,eg,hg⟩:=Yf i (w:=(⟨b,in_,s,([]:List BB),(List.replicate ((b.A.length:Int)).toNat (0:Int)),([]:List BD)⟩:AX)) rfl (show b.E.length≤1000 by omega) h1 h2 X
 rw[eg,qN]
 have Y:=h4 j
 rw[Y,qN]
 obtain⟨K,⟨a,c,o,m,g⟩,ey,⟨q1,q2,q3,q4,q5,q6,⟨q7,q8⟩,q9,⟨Z,aa⟩,ab⟩,qp,qm⟩:=aG i (w:=(⟨b,in_,(⟨s.D,t,s.O,s.M,j,s.S,s.U⟩:A7),([]:List BB),(List.replicate ((b.A.length:Int)).toNat (0:Int)),([]:List BD)⟩:AX)) (W:=b.J.length) rfl Q hW hP H hq d.que (by show E8 t+HG s.M≤_;rw[I];exact d.tot) d.inn d.inn0 d.inns rfl
 simp only at q1 q2 q3 q4 q5 q6 q7 q8 q9 Z aa ab qm ey
 rw[ey,qN]
 obtain⟨z,ez,⟨u,v,q,y,ac⟩,B⟩:=gV i (w:=(⟨b,in_,(⟨s.D,m,s.O,s.M,j,g,s.U⟩:A7),o,(List.replicate ((b.A.length:Int)).toNat (0:Int)),([]:List BD)⟩:AX)) (W:=b.J.length) rfl hW hP hL G q4 hq d.que (by show E8 m+HG s.M≤_;omega) (Md _ _) hg.1
 simp only at u v q y ac B
 rw[ez,qN]
 exact⟨j,m,g,o,z,K,rfl,⟨eg,ez,q1,q2,q3,λp x n V hn=>v p _ (q5 p x n V hn),u,q,y,B,q9,by rw[←q];omega,by omega,qp,by omega,by omega⟩⟩
def Z9 {N:Nat}(hN:18446744073709551616<N) {b:AU}(C:IB b) (G:∀l∈b.E,IA b l) (j:∀p∈b.A,HZ b p) {s:A7}(Z:pP b s) (hq:s.M.length≤1000) {in_:DO}(h1:in_.Ap.length≤1000) (h2:in_.At.length≤1000) (h3:in_.Ad.length≤1000) {o1:List (List Int)}(h4:∀gs:List BG,Fo N (⟨b,in_,({ s with P:=gs}:A7),([]:List BB),(List.replicate ((b.A.length:Int)).toNat (0:Int)),([]:List BD)⟩:AX)=some o1) (aa:Ir b.A.length b.J.length o1) (ab:E8 o1=E8 s.F):
  ∃r c o3 l,Gr N b s in_=some r∧nV N b s in_.Ad o1 r c o3 l∧E8 o3+HG (NC s.D s.M)=E8 s.F+HG s.M+c.sum∧Tb in_.X c∧(c.sum=Nn in_.X b.A.length∨E8 s.F+HG s.M+c.sum=1125899906842624∨s.S.sum+c.sum=1152921504606846976)∧s.S.sum+c.sum≤1152921504606846976:=by
 have hP:=C.pl
 have hL:=C.li
 have hW:=C.own
 have ad:=C.own1
 have ae:1000000<N:=by omega
 obtain⟨gs,B,a,d,z,c,eS,h⟩:=Tu hN C G j Z hq h1 h2 h3 h4 aa ab
 have q1:=h.nl
 have q2:=h.n0
 have q3:=h.ms_
 have u:=h.own
 have I:=h.rest
 have K:=h.pk
 have ac:=h.gl
 have k1:=h.tot
 have k2:=h.tot2
 have af:=Sf s.D b.J.length c 0
 obtain⟨⟨o,rm,v,g,sn⟩,⟨l,i1,q,y,Q⟩,e⟩:=Ee b.A.length (λn i (t:List (List Int)×List Int×List Int×List BB×List BD)=>DM N b in_ s (B,a,d) z (DT N s (B,a,d) z) n i t.1 t.2.1 t.2.2.1 t.2.2.2.1 t.2.2.2.2) (λt=>DT N s (B,a,d) z t.1 t.2.1 t.2.2.1 t.2.2.2.1 t.2.2.2.2) (λk t=>∃l,t.2.1.length=b.A.length∧nZ b s.D N b.J.length k z.1 s.U d t.1 t.2.2.1 t.2.2.2.1 t.2.2.2.2 l∧Zm b.J.length t.2.2.1 t.2.2.2.1 t.2.2.2.2 (64+k*(in_.Ad.length+b.E.length+2))∧oK N b s.D in_.Ad z.1 k t.1 l) (λn k t V=>by
  simp only[DM];rw[E4 V];rfl) (λn k t hi V=>by
  obtain⟨o,rm,v,g,sn⟩:=t
  obtain⟨l,i1,q,y,Q⟩:=hi
  simp only at i1 q y Q
  simp only[DM]
  have Y:k*(in_.Ad.length+b.E.length+2)≤64*(1000+96+2):=Nat.mul_le_mul (by omega) (by omega)
  obtain⟨r,l',er,r1,r2,r3,r5,r4⟩:=Yi hN (w:=(⟨b,in_,(⟨s.D,o,rm,z.2.1,z.2.2.1,a,v⟩:A7),g,z.2.2.2,sn⟩:AX)) (H:=s.D) (W:=b.J.length) rfl (by omega) (by show b.E.length≤_;omega) h3 G j ac (by show z.2.2.2.length=_;rw[K,uB];exact u.len) i1 V q.ox y (by omega)
  rw[En V,qO,er,qN,BT (by omega)]
  have hM:64+(k+1)*(in_.Ad.length+b.E.length+2)=64+k*(in_.Ad.length+b.E.length+2)+(in_.Ad.length+b.E.length+2):=by rw[sX];omega
  exact⟨(_,_,_,_,_),⟨l++l',r1,q.next r2,by rw[hM];exact y.next r2 r3,Q.next V r2 r5 r4⟩,rfl⟩) N 0 (z.1,s.O,s.U,d,[]) ⟨[],Z.rem,⟨λm hm=>(by cases hm),.nil,by simp,rfl,rfl,rfl,trivial,u,Z.out,by simp [P2]⟩,⟨Z.out,by show d.length≤_;rw[q3];omega,by simp⟩,⟨λp hp=>(by omega),λp _=>⟨rfl,rfl⟩,λp _ hp=>(by omega)⟩⟩ (by omega) (qW _)
 rw[eS,show DM N b in_ s (B,a,d) z (DT N s (B,a,d) z) N 0 z.1 s.O s.U d ([]:List BD)=DT N s (B,a,d) z o rm v g sn from e]
 simp only at q y
 have Y:b.A.length*(in_.Ad.length+b.E.length+2)≤64*(1000+96+2):=Nat.mul_le_mul hP (by omega)
 have ag:=y.sn
 have ah:=y.mv
 have ai:z.2.1.length≤s.M.length:=by rw[I];exact List.length_filter_le _ _
 unfold DT
 rw[KI (by omega)]
 refine⟨_,c,z.1,l,rfl,⟨q1,by show g.length≤_;omega,q2,h.at3,u,by omega,K,?_,?_,rfl,h.inn_,Q.tk,λp hp x hx=>Q.cap p hp hp x hx⟩,h.tot,h.pw,h.max_,h.ins⟩
 ·rw[←q.sn_,←q3];exact q
 ·show z.2.1++sn=_
  rw[I,q.sn_]
end Go.Proofs.YtblcgjadhemlbaaGreat
