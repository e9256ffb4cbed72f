import Derived.Test.YtedgiljmffngoaaGreatGPureT1
import Derived.Test.YtedgiljmffngoaaGreatGPureE2
import Derived.Test.YtedgiljmffngoaaGreatGCore10
import Derived.ProofKit
import Derived.OpenShut
import Derived.JoinedCond
import Derived.Deep.Slices
namespace Go.Proofs.YtedgiljmffngoaaGreat
set_option linter.all false
open Go.RowKit
def Wv {c:Prop}[Decidable c] {H a t b:Int}{y:List Int}(g:b≠ -3):∀m∈(if c then [] else [(⟨H,a,t,b,y⟩:AK)]),m.Ba≠ -3:=λm d=>by
 split at d
 ·cases d
 ·rw[vX.1 d];exact g
def YT (p:Nat) (m:AK):Bool:=decide (m.J=(p:Int))&&decide (m.Ba= -3)
def WV {p:Nat}{l:List AK}(b:∀m∈l,m.Ba≠ -3):l.filter (YT p)=[]:=List.filter_eq_nil_iff.2 λm a=>by unfold YT;simp [b m a]
def S5 {p q:Nat}(a:q≠p) {l:List AK}(c:∀m∈l,m.J=(q:Int)):l.filter (YT p)=[]:=List.filter_eq_nil_iff.2 λm b=>by unfold YT;rw[c m b];simp;omega
def cB {H:Int}{p N:Nat}{b:AF}{a:List Hb}{x:List Int}:(TI H p (MD N b p a) x).filter (YT p)=TI H p (MD N b p a) x:=List.filter_eq_self.2 λm c=>by
 obtain⟨e,d,g,i⟩:=RZ m c;obtain⟨t,_,rfl⟩:=uX.1 d;unfold YT;rw[g,i];simp [WX]
def Tu {p:Nat}:∀{l:List AK}{o:List (List Int)}(c:∀m∈l,m.J=(p:Int)) {j:Nat}(a:p≠j),(RQ o l)[j]? =o[j]?
 |[],_,_,_,_=>rfl
 |m::l,o,c,j,a=>by
  show(RQ (upd o m.J (I0 (o.getD m.J.toNat []) m.T)) l)[j]? =_
  rw[Tu (p:=p) (l:=l) (λq b=>c q (.tail _ b)) a,c m (.head _),Ii a]
def TM {N:Nat}(J:18446744073709551616<N) {w:AN}{H:Int}{W:Nat}(Y:w.s.B=H) (K:W≤64) {p:Nat}(z:p<w.b.A.length) (i:Hg w.b w.b.A[p]) {o:List (List Int)}{out:List Int}{j:List AK}{k:List AV}{rem:List Int}{M:Nat}(hM:M≤999999) (C:Ih w.b.A.length W o) (h:aQ W out j k M):
  ∃r l,Cd N w (p:Int) w.b.A[p] o out j k rem=some r∧r.2.1=rem∧UP w.b H N W p o out j k r.1 r.2.2.1 r.2.2.2.1 r.2.2.2.2 l∧l.length≤1∧(∀m∈l,m.Ba≠ -3)∧∀x,r.1[p]? =some x→x.sum≤(w.b.A[p]).Au:=by
 have q:1000000<N:=by omega
 have h1:=h.mv;have h2:=h.sn;have u:=i.cap;unfold I3 at u;have D:w.b.A.getD p default=w.b.A[p]:=by simp [vO,z]
 unfold Cd;obtain⟨x,Z,d,a⟩:=C.ix z;have aa:=a.mv;have ab:=a.sum0;rw[Z,tJ,tJ,a.total q (by omega),tJ,Cv (n:=x.sum-(w.b.A[p]).Au) (by omega) (by omega)];by_cases v:0<x.sum-(w.b.A[p]).Au
 ·rw[uQ v,tL,G8,tJ];have he:nA w.b W p ⟨(w.b.A[p]).Ao,(w.b.A[p]).Q, -2,λy=>AL N (x.sum-(w.b.A[p]).Au) y⟩:=⟨λy c=>by obtain⟨t,e,h,_⟩:=Pz J K (x.sum-(w.b.A[p]).Au) y c;exact⟨t,e,h⟩,by show(-2:Int)≠ -4;decide,i.down,by show _=Pd _ _ (-2);unfold Pd;rw[tQ (by omega),tQ (by decide),D]⟩
  obtain⟨r,l,x',t,F,I,g,q3,U,V,X⟩:=Tw q (w:=(⟨w.b,w.in_,(⟨w.s.B,o,rem,w.s.G,w.s.M,w.s.N,out⟩:AE),j,w.peaks,k⟩:AN)) Y (by omega) C z he h.out (by show j.length≤_;omega) (by show k.length≤_;omega);simp only at I g U V;rw[d] at I;cases I;obtain⟨t',e',_,ts⟩:=Pz J K (x.sum-(w.b.A[p]).Au) x a;rw[e'] at g;have g:=tK Prod.fst (tN g);simp only at g;subst g;rw[F,tJ];refine⟨_,l,rfl,rfl,V,by rw[X];exact Tx,by rw[X];exact Wv (by show(-2:Int)≠ -3;decide),λy c=>?_⟩;have c:r.1[p]? =some y:=c;rw[U,Gs (uB.1 d).1] at c;rw[←tN c,(q3.sub a).2.1,ts];omega
 ·rw[tY v,tM];refine⟨_,[],rfl,rfl,UP.nil C h.out,by simp,λm hm=>(by cases hm),λy c=>?_⟩;have c:o[p]? =some y:=c;rw[d] at c;cases c;omega
def TL {N:Nat}(u:18446744073709551616<N) {w:AN}{H:Int}{W:Nat}(v:w.s.B=H) (C:W≤64) {p:Nat}(i:p<w.b.A.length) (a:Hg w.b w.b.A[p]) {o:List (List Int)}{out:List Int}{c:List AK}{d:List AV}{rem:List Int}(y:Int×Int) {M:Nat}(hM:M≤999998) (F:Ih w.b.A.length W o) (h:aQ W out c d M):
  ∃r l,EA N w (p:Int) w.b.A[p] o out c d y (Cd N w (p:Int) w.b.A[p]) rem=some r∧r.2.1=rem∧UP w.b H N W p o out c d r.1 r.2.2.1 r.2.2.2.1 r.2.2.2.2 l∧l.length≤2∧(∀m∈l,m.Ba≠ -3)∧∀x,r.1[p]? =some x→x.sum≤(w.b.A[p]).Au:=by
 have j:1000000<N:=by omega
 have h1:=h.mv;have h2:=h.sn;have k:w.b.A.getD p default=w.b.A[p]:=by simp [vO,i]
 unfold EA;rw[G8,tJ];have I:nA w.b W p ⟨(w.b.A[p]).Ao,(w.b.A[p]).Q, -1,λx=>AL N y.1 x⟩:=⟨λz J=>by obtain⟨t,e,h,_⟩:=Pz u C y.1 z J;exact⟨t,e,h⟩,by show(-1:Int)≠ -4;decide,a.down,by show _=Pd _ _ (-1);unfold Pd;rw[tQ (by omega),tQ (by decide),k]⟩
 obtain⟨r,l,x',t,n,q1,q2,q3,q4,q,D⟩:=Tw j (w:=(⟨w.b,w.in_,(⟨w.s.B,o,rem,w.s.G,w.s.M,w.s.N,out⟩:AE),c,w.peaks,d⟩:AN)) v (by omega) F i I h.out (by show c.length≤_;omega) (by show d.length≤_;omega);have K:l.length≤1:=by rw[D];exact Tx
 have U:=h.next q K;rw[n,tJ];obtain⟨r',V,X,Y,Z,z3,z5,z4⟩:=TM u v C i a (rem:=rem) (M:=M+1) (by omega) q.ox U;exact⟨r',l++V,X,Y,q.trans Z,by rw[uJ];omega,λm g=>(vC.1 g).elim (λg=>by rw[D] at g;exact Wv (by show(-1:Int)≠ -3;decide) m g) (z5 m),z4⟩
def ZX {N:Nat}(V:1000000<N) {w:AN}{H:Int}{W M:Nat}(X:w.s.B=H) (hW:W≤64) {p:Nat}(Y:p<w.b.A.length) (Z:Ih w.b.A.length W w.s.D) (h:aQ W w.s.K w.moves w.sent M) (hM:M≤900000) (a:List AD) (y:XL w.b W p a) (aa:a.length≤2000) (kj:List (List Int)→List Int→List AK→List AV→Option (List (List Int)×List Int×List Int×List AK×List AV)):
  ∃o out c d l,UP w.b H N W p w.s.D w.s.K w.moves w.sent o out c d l∧l.length≤a.length∧(∀x,w.s.D[p]? =some x→l=TI H p a x)∧Ck N w (p:Int) a kj N 0 w.s.D w.s.K w.moves w.sent=kj o out c d:=by
 obtain⟨⟨o,out,c,d⟩,⟨l,g,z,u⟩,e⟩:=Em a.length (λn i (s:List (List Int)×List Int×List AK×List AV)=>Ck N w (p:Int) a kj n i s.1 s.2.1 s.2.2.1 s.2.2.2) (λs=>kj s.1 s.2.1 s.2.2.1 s.2.2.2) (λk s=>∃l,UP w.b H N W p w.s.D w.s.K w.moves w.sent s.1 s.2.1 s.2.2.1 s.2.2.2 l∧l.length≤k∧∀x,w.s.D[p]? =some x→l=TI H p (a.take k) x∧s.1[p]? =some (YU (a.take k) x)) (λn k s j=>by
  simp only[Ck];rw[Eg j];rfl) (λn k s hi j=>by
  obtain⟨o,out,c,d⟩:=s;obtain⟨l,g,z,u⟩:=hi;simp only at u;simp only at g;have I:=h.next g z;have h1:=I.mv;have h2:=I.sn;simp only[Ck];rw[EZ j,tL,BH (by omega),BG j,tJ,tJ];obtain⟨r,J,m,t,C,v,Q,q3,q4,q5,U⟩:=Tw V (w:=(⟨w.b,w.in_,(⟨w.s.B,o,w.s.L,w.s.G,w.s.M,w.s.N,out⟩:AE),c,w.peaks,d⟩:AN)) X (by omega) g.ox Y (y _ (uE j)) g.ol (by show c.length≤_;omega) (by show d.length≤_;omega);have hl:J.length≤1:=by rw[U];exact Tx
  rw[C,tJ];exact⟨(_,_,_,_),⟨l++J,g.trans q5,by rw[uJ];omega,λx q=>by
   obtain⟨u1,u2⟩:=u x q;have v:o[p]? =some m:=v;have F:YU (a.take k) x=m:=tN (u2.symm.trans v);rw[wJ j,Ra,Tv,←u1,F];have v1:TI H p [a[k]] m=(if t.sum≤0 then [] else [(⟨H,(p:Int),(a[k]).to_,(a[k]).way,t⟩:AK)]):=by
    simp only[TI];rw[Q];simp
   have v2:YU [a[k]] m=I0 m t:=by
    simp only[YU];rw[Q]
   rw[v1,v2];refine⟨by rw[U],?_⟩;show r.1[p]? =_
   rw[q4];exact Gs (uB.1 v).1 _⟩,rfl⟩) N 0 (w.s.D,w.s.K,w.moves,w.sent) ⟨[],UP.nil Z h.out,tX _,λx q=>⟨rfl,q⟩⟩ (by omega) (tU _)
 exact⟨o,out,c,d,l,g,z,λx q=>by have:=(u x q).1;rwa [uZ] at this,e⟩
def ZW {N:Nat}(g:18446744073709551616<N) {w:AN}{H:Int}{W M:Nat}(J:w.s.B=H) (n:W≤64) (hL:w.b.E.length≤900) (ht:w.in_.Aa.length≤1000) (U:∀l∈w.b.E,Js w.b l) (q:∀p∈w.b.A,Hg w.b p) (hg:w.s.M.length=w.b.E.length) (V:w.peaks.length=w.b.A.length) (d:w.s.L.length=w.b.A.length) {p:Nat}(c:p<w.b.A.length) (ho:Ih w.b.A.length W w.s.D) (h:aQ W w.s.K w.moves w.sent M) (hM:M≤900000):
  ∃r l,Ga N w (p:Int)=some r∧r.2.1.length=w.b.A.length∧UP w.b H N W p w.s.D w.s.K w.moves w.sent r.1 r.2.2.1 r.2.2.2.1 r.2.2.2.2 l∧l.length≤w.in_.Aa.length+w.b.E.length+2∧(∀x,w.s.D[p]? =some x→l.filter (YT p)=TI H p (MD N w.b p w.in_.Aa) x)∧∀x,r.1[p]? =some x→x.sum≤(w.b.A[p]).Au:=by
 have j:1000000<N:=by omega
 have k:=q _ (uE c);have a1:=Ys g (w:=w) ht c;have a2:=S7 N w.b p w.in_.Aa;have a3:=Yu g (b:=w.b) n p w.in_.Aa;generalize X:MD N w.b p w.in_.Aa=l1 at a1 a2 a3
 obtain⟨Q,b1,b2,b3⟩:=Zj g n (by omega) U hg V c;have Y:XL w.b W p (l1++Q):=λe he=>(vC.1 he).elim (a3 e) λh=>(b3 e h).1;have ad:(l1++Q).length≤w.in_.Aa.length+w.b.E.length:=by rw[uJ];omega
 unfold Ga;rw[BG c,tJ,a1,tJ,b1,tJ,YJ j _ _ (by omega) (by omega),tJ];obtain⟨o,out,ms,sn,l,i,i2,i3,e⟩:=ZX j J n c ho h hM (l1++Q) Y (by omega) (Ew N w (p:Int) w.b.A[p]);have Z:=h.next i i2;rw[e];have hf:∀a:List AK,(∀m∈a,m.Ba≠ -3)→∀x,w.s.D[p]? =some x→(l++a).filter (YT p)=TI H p l1 x:=λa aa x hx=>by
  rw[xN,WV aa,uU,i3 x hx,Ra,xN,WV (l:=TI H p Q _) (λm hm=>by obtain⟨e',ab,h1,_⟩:=RZ m hm;have:=(b3 e' ab).2;omega),uU,←X,cB]
 unfold Ew;cases decide ((w.b.A[p]).S≠0)
 ·obtain⟨r,a,t,u,v,r3,z,C⟩:=TM g J n c k (rem:=w.s.L) (by omega) i.ox Z;exact⟨r,l++a,t,by rw[u];exact d,i.trans v,by rw[uJ];omega,hf a z,C⟩
 ·have F:p<w.peaks.length:=by omega
  have G:p<w.s.L.length:=by omega
  have I:(upd w.s.L (p:Int) 0).length=w.b.A.length:=by rw[MC];exact d
  obtain⟨x,hx,ae,ac⟩:=i.ox.ix c;obtain⟨y,hy⟩:=ZD g w.b.A[p] w.peaks[p] w.s.L[p];rw[tL,BG F,tJ,tJ,BG G,tJ,tJ,hy,tJ,tJ,tJ,hx,tJ,tJ,ac.total j (by omega),tJ];cases decide (y.1≤x.sum)
  ·obtain⟨r,a,t,u,v,r3,z,C⟩:=TL g J n c k (rem:=upd w.s.L (p:Int) 0) y (by omega) i.ox Z;exact⟨r,l++a,t,by rw[u];exact I,i.trans v,by rw[uJ];omega,hf a z,C⟩
  ·rw[tL,BG (show p<(upd w.s.L (p:Int) 0).length by omega),tJ,tJ];obtain⟨r,a,t,u,v,r3,z,C⟩:=TL g J n c k (rem:=upd (upd w.s.L (p:Int) 0) (p:Int) y.2) y (by omega) i.ox Z;exact⟨r,l++a,t,by rw[u,MC];exact I,i.trans v,by rw[uJ];omega,hf a z,C⟩
structure XB (N:Nat) (b:AF) (s:AE) (ts:List Hb) (o1:List (List Int)) (r:AE×List AK×List Int) (ns:List Int) (o3:List (List Int)) (l:List AK):Prop where
 nl:ns.length=b.A.length
 mlen:r.2.1.length≤100000
 ml2:r.2.1.length≤64+b.A.length*(ts.length+b.E.length+2)
 n0:∀n∈ns,0≤n
 at3:∀(p:Nat) x n,o1[p]? =some x→ns[p]? =some n→o3[p]? =some (G5 (G5 x (v1 b.H.length n)) (UB b.H.length s.B s.G p))
 ox3:Ih b.A.length b.H.length o3
 os3:EO o3+Fi (LZ s.B s.G)≤1125899906842624
 pk:r.2.2=o3.map List.sum
 lv:qF b s.B N b.H.length b.A.length o3 s.K (Wf s.B b.H.length 0 ns) r.1.D r.1.K r.2.1 (l.filterMap (Lq b s.B)) l
 que:r.1.G=LZ s.B s.G++l.filterMap (Lq b s.B)
 hour:r.1.B=BD (s.B+1)
 inn:r.1.N=G5 s.N (v1 b.H.length ns.sum)
 tk:∀p,p<b.A.length→∀x,o3[p]? =some x→l.filter (YT p)=TI s.B p (MD N b p ts) x
 cap:∀(p:Nat) (hp:p<b.A.length) x,r.1.D[p]? =some x→x.sum≤(b.A[p]).Au
structure qU (N:Nat) (b:AF) (H:Int) (ts:List Hb) (o3:List (List Int)) (k:Nat) (o:List (List Int)) (l:List AK):Prop where
 tk:∀p,p<k→∀x,o3[p]? =some x→l.filter (YT p)=TI H p (MD N b p ts) x
 hi:∀p,k≤p→l.filter (YT p)=[]∧o[p]? =o3[p]?
 cap:∀(p:Nat) (hp:p<b.A.length),p<k→∀x,o[p]? =some x→x.sum≤(b.A[p]).Au
def qU.next {N:Nat}{b:AF}{H:Int}{g:List Hb}{u:List (List Int)}{k W:Nat}{o i:List (List Int)}{out c:List Int}{v j:List AK}{w n:List AV}{l d:List AK}(I:qU N b H g u k o l) (G:k<b.A.length) (q:UP b H N W k o out v w i c j n d) (y:∀x,o[k]? =some x→d.filter (YT k)=TI H k (MD N b k g) x) (z:∀x,i[k]? =some x→x.sum≤(b.A[k]).Au):qU N b H g u (k+1) i (l++d):=by
 have fr:∀m∈d,m.J=(k:Int):=λm B=>(q.mv m B).fr;refine⟨λp s x a=>?_,λp s=>⟨?_,?_⟩,λp s C x a=>?_⟩
 ·rw[xN];by_cases e:p=k
  ·subst e;obtain⟨D,F⟩:=I.hi p (tX _);rw[D,uK];exact y x (F.trans a)
  ·rw[S5 (λt=>e t.symm) fr,uU];exact I.tk p (by omega) x a
 ·rw[xN,(I.hi p (by omega)).1,S5 (by omega) fr];rfl
 ·rw[q.own,Tu fr (by omega)];exact(I.hi p (by omega)).2
 ·by_cases e:p=k
  ·subst e;exact z x a
  ·rw[q.own,Tu fr (λt=>e t.symm)] at a;exact I.cap p s (by omega) x a
def jF (N:Nat) (p:List Int) (h0:∀x∈p,0≤x) (i:Int):∃v,KM N p i=some v∧(0<v→∃j:Nat,i=(j:Int)∧p[j]? =some v):=by
 unfold KM;cases b:(decide (i<0)||decide ((p.length:Int)≤i)) with
 |true=>exact⟨0,rfl,λd=>absurd d (by decide)⟩
 |false=>
  simp only[uS,uO] at b;obtain⟨j,c,a⟩:=fQ (l:=p) (i:=i) (by omega) (by omega);have:=h0 _ (uE a);rw[tM,c,BG a,tJ,tJ,tJ,tY (show ¬p[j]<0 by omega)];exact⟨p[j],rfl,λ_=>⟨j,rfl,uC a⟩⟩
def dB {N W:Nat}(I:1000000<N) (J:W≤1000) {p:List Int}(c:PX W p) (fr to n:Int):∃r,Ld N p fr to n=some r∧PX W r∧r.sum=p.sum:=by
 have s:=c.len;unfold Ld;obtain⟨v,A,t⟩:=jF N p c.nn fr;rw[Kd (by omega) _ (by decide),A,tJ,T6];cases y:(((decide (0<min n v)&&decide (0≤to))&&decide (to<(p.length:Int)))&&decide (fr≠to))
 ·exact⟨p,rfl,c,rfl⟩
 ·simp only[tO,uF] at y;obtain⟨⟨⟨K,B⟩,C⟩,M⟩:=y;obtain⟨j,D,d⟩:=t (by omega);obtain⟨k,F,a⟩:=fQ (l:=p) (i:=to) B C;have g:=(uB.1 d).1;have m:=(uB.1 d).2;have o:j≠k:=by omega
  have G:=c.mem (vM d);have H:=c.mem (uE a);have b:k<(upd p (j:Int) (v-min n v)).length:=by rw[MC];exact a
  have u:(upd p (j:Int) (v-min n v))[k]=p[k]:=by
   have:(upd p (j:Int) (v-min n v))[k]? =p[k]? :=Ii o _;rw[uC b,uC a] at this;exact tN this
  rw[tL,D,BG g,m];simp only[tJ];rw[Cv (n:=v-min n v) (by omega) (by omega),F,BG b,u];simp only[tJ];rw[UC N (by omega) (by omega) (by omega) (by omega),tJ];have z:(upd (upd p (j:Int) (v-min n v)) (k:Int) (p[k]+min n v)).sum=p.sum:=by
   have w:(p.set j (v-min n v))[k]'(by simpa using a)=p[k]:=List.getElem_set_ne o _;unfold upd;rw[vR,vR,NU (by simpa using a),NU g,w,m];omega
  refine⟨_,rfl,⟨by rw[MC,MC];exact s,λx q=>?_,by rw[z];exact c.mv⟩,z⟩;rcases yI q with q|rfl
  ·rcases yI q with q|rfl
   ·exact c.nn x q
   ·omega
  ·omega
def cE {N:Nat}(v:1000000<N) {w:AN}{W:Nat}(B:W≤1000) (U:w.in_.Aq.length≤1000) (F:Ih w.b.A.length W w.s.D):∃o,En N w=some o∧Ih w.b.A.length W o∧o.map List.sum=w.s.D.map List.sum:=by
 unfold En;obtain⟨o,⟨G,I⟩,e⟩:=Em w.in_.Aq.length (λn i l=>CP N w n i l) (λl=>some l) (λ_ l=>Ih w.b.A.length W l∧l.map List.sum=w.s.D.map List.sum) (λn k l d=>by
  simp only[CP];rw[Eg d];rfl) (λn k l a d=>by
  obtain⟨a,c⟩:=a;simp only[CP,GC];rw[EZ d,tL,BG d,BH (by omega)];simp only[tJ,L3,Fq,Pf];generalize w.in_.Aq[k]=x
  cases g:(((decide (0≤x.Ap)&&decide (x.Ap<(w.b.A.length:Int)))&&(decide (0≤x.J)&&decide (x.J<(w.b.H.length:Int))))&&(decide (0≤x.C)&&decide (x.C<(w.b.H.length:Int))))
  ·exact⟨l,⟨a,c⟩,rfl⟩
  ·simp only[tO,uF] at g;obtain⟨j,K,m⟩:=fQ (l:=l) g.1.1.1 (by rw[a.len];exact g.1.1.2);obtain⟨y,M,p,q⟩:=a.ix (k:=j) (by rw[←a.len];exact m);obtain⟨z,Q,t,u⟩:=dB v B q x.J x.C x.Bd;rw[tL,K];simp only[M,tJ];rw[Q,tJ];exact⟨_,⟨a.upd _ t,by rw[←c];exact(show(upd l (j:Int) z).map List.sum=upd (l.map List.sum) (j:Int) y.sum by unfold upd;rw[List.map_set,u]).trans (Us (by rw[wQ,p];rfl))⟩,rfl⟩) N 0 w.s.D ⟨F,rfl⟩ (by omega) (tU _)
 exact⟨o,e,G,I⟩
def Ve (N:Nat) {w w':AN}(a:w.b=w'.b) (c:w.in_=w'.in_) (n:Nat):∀(i:Int) (l:List (List Int)),CP N w n i l=CP N w' n i l:=by
 induction n with
 |zero=>intro i l;rfl
 |succ n d=>intro i l;simp only[CP,GC,a,c,d]
def Yw {N:Nat}(d:1000000<N) {b:AF}{s:AE}{in_:Ch}{W:Nat}(g:W≤1000) (i:in_.Aq.length≤1000) (j:Ih b.A.length W s.D):∃o,(∀a:List AT,En N (⟨b,in_,({ s with M:=a}:AE),([]:List AK),(List.replicate ((b.A.length:Int)).toNat (0:Int)),([]:List AV)⟩:AN)=some o)∧Ih b.A.length W o∧EO o=EO s.D∧o.map List.sum=s.D.map List.sum:=by
 obtain⟨o,e,k,c⟩:=cE d (w:=(⟨b,in_,s,([]:List AK),[],([]:List AV)⟩:AN)) g i j;refine⟨o,λa=>?_,k,by unfold EO;rw[c],c⟩;rw[←e];exact Ve N (w:=(⟨b,in_,({ s with M:=a}:AE),([]:List AK),(List.replicate ((b.A.length:Int)).toNat (0:Int)),([]:List AV)⟩:AN)) (w':=(⟨b,in_,s,([]:List AK),[],([]:List AV)⟩:AN)) rfl rfl N 0 s.D
def gk (R:List Int) (k:Nat):Int:=min (max (R.getD k 0) 0) 1125899906842624
def Wy (R:List Int):Nat→Int
 |0=>0
 |k+1=>Wy R k+gk R k
def Xc (R l:List Int):Prop:=∀(i:Nat) n,l[i]? =some n→n≤gk R i
def Xc.snoc {R l:List Int}(m:Xc R l) {k:Nat}(b:l.length=k) {n:Int}(c:n≤gk R k):Xc R (l++[n]):=λi x a=>by
 rcases uM i k with d|d
 ·rw[yU (by omega)] at a;exact m i x a
 ·have g:=(uB.1 a).1;rw[uJ,List.length_singleton] at g;have j:i=k:=by omega
  subst j;rw[yV (by omega),b,Nat.sub_self] at a;cases a;exact c
def Xc.take {R l:List Int}(g:Xc R l):∀d k,k+d≤l.length→Wy R k-(l.take k).sum≤Wy R (k+d)-(l.take (k+d)).sum
 |0,k,_=>vD _
 |d+1,k,a=>by
  have b:=Xc.take g d k (by omega);have c:=g (k+d) _ (uC (show k+d<l.length by omega));rw[show k+(d+1)=(k+d)+1 by omega,Ik (show k+d<l.length by omega)];simp only[Wy];omega
def Xc.sum {R l:List Int}(a:Xc R l):l.sum≤Wy R l.length:=by
 have:=Xc.take a l.length 0 (by omega);rw[uT,uZ,wD] at this;simp only[Wy,List.sum_nil] at this;omega
def cP {N:Nat}(hN:1000000<N) {w:AN}{W:Nat}(hW:w.b.H.length=W) (h1:1≤W) (aw:W≤16) (hP:w.b.A.length≤64) (K:Ih w.b.A.length W w.s.D) (hq:w.s.G.length≤100000) (v:QX w.b.A.length W w.s.G) (ht:EO w.s.D+Fi w.s.G≤1125899906842624) (U:w.s.N.length=W) (p:∀x∈w.s.N,0≤x) (ae:w.s.N.sum≤1152921504606846976) (hm:w.moves=[]):
  ∃l r,In N w=some (r.2.2.2.1,r.2.2.2.2,r.2.2.1)∧sF w W w.b.A.length l r∧Xc w.in_.Z l∧(l.sum=Wy w.in_.Z w.b.A.length∨r.1=1125899906842624∨r.2.1=1152921504606846976):=by
 have ax:=K.len;have aj:=(FA v 0).2;rw[wD,show Fi ([]:List AV)=0 from rfl] at aj;unfold In;obtain⟨s1,i1,e1⟩:=Em w.s.D.length (λn i s=>Dw N w (Dy N w) n s i) (Dy N w) (λk s=>s=EO (w.s.D.take k)) (λn k s g=>by
  simp only[Dw];rw[Eg g];rfl) (λn k s V g=>by
  have C:=K.all _ (uE g);have h2:=Kc K (k+1);rw[L5 g] at h2;have h3:=C.sum0;have h4:=(Kc K k).1;simp only[Dw];rw[EZ g,tL,BG g,tJ,tJ,C.total hN (by omega),tJ,BH (by omega),Cv (n:=s+(w.s.D[k]).sum) (by omega) (by omega)];exact⟨_,by rw[L5 g,V],rfl⟩) N 0 0 rfl (by omega) (tU _)
 rw[show Dw N w (Dy N w) N 0 0=Dy N w s1 from e1];rw[uZ] at i1;have ay:=K.sum0;unfold Dy;obtain⟨s2,i2,e2⟩:=Em w.s.G.length (λn i s=>Dv N w (Dx N w) n s i) (Dx N w) (λk s=>s=EO w.s.D+Fi (w.s.G.take k)) (λn k s g=>by
  simp only[Dv];rw[Eg g];rfl) (λn k s V g=>by
  have C:=(v _ (uE g)).1;have h2:=FA v (k+1);rw[K5 g] at h2;have h3:=C.sum0;have h4:=(FA v k).1;simp only[Dv];rw[EZ g,tL,BG g,tJ,C.total hN (by omega),tJ,BH (by omega),Cv (n:=s+(w.s.G[k]).T.sum) (by omega) (by omega)];exact⟨_,by rw[K5 g,V];omega,rfl⟩) N 0 s1 (by rw[i1,wD];simp [Fi]) (by omega) (tU _)
 rw[show Dv N w (Dx N w) N s1 0=Dx N w s2 from e2];rw[uZ] at i2;have az:=Jq p;unfold Dx;rw[Ue hN (by omega) p (by omega),tJ];obtain⟨s,⟨l,i3,i4⟩,e⟩:=Em w.b.A.length (λn i (s:Int×Int×List AK×List (List Int)×List Int)=>Cb N w n s.1 s.2.1 i s.2.2.1 s.2.2.2.1 s.2.2.2.2) (λs=>some (s.2.2.2.1,s.2.2.2.2,s.2.2.1)) (λk s=>∃l,sF w W k l s∧Xc w.in_.Z l∧(l.sum=Wy w.in_.Z k∨s.1=1125899906842624∨s.2.1=1152921504606846976)) (λn k s g=>by
  simp only[Cb];rw[Eg g];rfl) (λn k s V g=>by
  obtain⟨a,c,ms,o,j⟩:=s;obtain⟨l,⟨X,q2,q3,Y,q5,q6,⟨q7,q8⟩,q9,⟨F,af⟩,aa⟩,qp,qm⟩:=V;simp only at q3 Y q5 q6 q7 q8 q9 F af aa qm;have a0:=Y.sum0;have ak:=Jq q2;obtain⟨x,C,I,q⟩:=Y.ix g;obtain⟨x1,a1,M,aq⟩:=K.ix g;have al:x=x1:=by rw[q6 k (tX _),M] at I;exact(tN I).symm
  have hj:∀m:Int,m≤1125899906842624-a→m≤1152921504606846976-c→(max m 0≤gk w.in_.Z k∧(l.sum+max m 0=Wy w.in_.Z (k+1)∨a+max m 0=1125899906842624∨c+max m 0=1152921504606846976))→∃s':Int×Int×List AK×List (List Int)×List Int,(∃l,sF w W (k+1) l s'∧Xc w.in_.Z l∧(l.sum=Wy w.in_.Z (k+1)∨s'.1=1125899906842624∨s'.2.1=1152921504606846976))∧Gj N w a c (k:Int) ms o j (FP N (k:Int) (Cb N w n)) m=Cb N w n s'.1 s'.2.1 ((k+1:Nat):Int) s'.2.2.1 s'.2.2.2.1 s'.2.2.2.2:=λm a2 a3 a4=>by
   unfold Gj FP;rw[BH (by omega)];by_cases ag:m≤0
   ·rw[uQ ag,tL];refine⟨(a,c,ms,o,j),⟨l++[0],⟨by simp [X],λn d=>?_,?_,Y,λi y n hy d=>?_,λi V=>q6 i (by omega),⟨q7,q8⟩,by rw[wG];simpa using q9,⟨by rw[wG];simpa using F,af⟩,by rw[wG];simpa using aa⟩,qp.snoc X (by omega),by show _∨a=_∨c=_;rw[show (l++[(0:Int)]).sum=l.sum by simp];omega⟩,rfl⟩
    ·rcases vC.1 d with d|d
     ·exact q2 n d
     ·rw[vX.1 d];exact vD 0
    ·show ms=_
     rw[Rx,tQ (by omega),uU];exact q3
    ·show o[i]? =_
     by_cases ab:i<k
     ·rw[yU (by omega)] at d;exact q5 i y n hy d
     ·have t:i=k:=by
       have:=(uB.1 d).1;simp at this;omega
      subst t;rw[yV (by omega),X,Nat.sub_self] at d;cases d;rw[WU,Sx (K.all y (vM hy)).len,q6 i (tX _),hy]
   ·have a5:=Y.le I;have hv:=fE h1 (n:=m) (by omega) (by omega);have ah:=Tg h1 m;obtain⟨x0,ac⟩:=Df.ix (l:=x) (i:=0) (vD _) (by rw[q.len];omega);have ar:=q.mem (vM (Et ac).2);have ai:j.length=W:=by rw[q9];exact Pv U (QT _ _)
    obtain⟨y0,J⟩:=Df.ix (l:=j) (i:=0) (vD _) (by omega);have u:∀z∈j,0≤z:=by
     rw[q9];refine RY p λz hz=>?_;rcases yI hz with hz|rfl
     ·rw[(List.mem_replicate.1 hz).2];exact vD 0
     ·exact ak
    have am:j.sum=c:=by rw[q9,LW (by rw[U,QT]),Tg h1,F]
    have au:=IZ u _ (vM (Et J).2);have av:=u _ (vM (Et J).2);obtain⟨z0,an⟩:=Df.ix (l:=List.replicate ((w.b.H.length:Int)).toNat (0:Int)) (i:=0) (vD _) (by rw[NZ];omega);have a6:=To w.s.B W l 0;rw[tY ag,tM,C,tJ,tJ,ac,tJ,tJ,J,tJ,tJ,tJ,tJ,Kd (by omega) _ (by decide),an,tJ,tJ,H9 (by rw[q3];simp;omega),Cv (n:=a+m) (by omega) (by omega),Cv (n:=c+m) (by omega) (by omega),Cv (n:=x0+m) (by omega) (by omega),Cv (n:=y0+m) (by omega) (by omega),WT q.len h1 m x0 ac,WT ai h1 m y0 J];have ao:PX W (G5 x (v1 W m)):=q.add hv (by rw[ah];omega);have Q:EO (upd o (k:Int) (G5 x (v1 W m)))=EO o+m:=by
     rw[P8 I,LW (q.len.trans hv.len.symm),ah];omega
    have ap:List.replicate ((w.b.H.length:Int)).toNat (0:Int)=List.replicate W 0:=by rw[hW];rfl
    refine⟨(a+m,c+m,ms++[⟨w.s.B, -1,(k:Int), -4,upd (List.replicate ((w.b.H.length:Int)).toNat (0:Int)) 0 m⟩],upd o (k:Int) (G5 x (v1 W m)),G5 j (v1 W m)),⟨l++[m],⟨by simp [X],λn d=>?_,?_,Y.upd _ ao,λi y n hy d=>?_,λi V=>?_,⟨?_,by show a+m≤_;omega⟩,?_,⟨?_,by show c+m≤_;omega⟩,?_⟩,qp.snoc X (by omega),by show _∨a+m=_∨c+m=_;rw[show (l++[m]).sum=l.sum+m by simp];omega⟩,rfl⟩
    ·rcases vC.1 d with d|d
     ·exact q2 n d
     ·rw[vX.1 d];omega
    ·show ms++_=_
     rw[Rx,tT (by omega),q3,ap,uT,X];rfl
    ·show(upd o (k:Int) _)[i]? =_
     by_cases ab:k=i
     ·subst ab;rw[yV (by omega),X,Nat.sub_self] at d;cases d;rw[Gs (by rw[Y.len];exact g),al];rw[M] at hy;cases hy;rfl
     ·have t:i<l.length:=by
       have:=(uB.1 d).1;simp at this;omega
      rw[Ii ab];rw[yU t] at d;exact q5 i y n hy d
    ·show(upd o (k:Int) _)[i]? =_
     rw[Ii (by omega)];exact q6 i (by omega)
    ·show a+m=EO _+_
     rw[Q];omega
    ·show G5 j (v1 W m)=_
     rw[q9,wG,Rk];rw[hJ h1];simp
    ·show c+m=_
     rw[wG,F];simp;omega
    ·show EO _=_
     rw[Q,aa,wG];simp;omega
  simp only[Cb];rw[EZ g,tL];cases hr:decide ((k:Int)<(w.in_.Z.length:Int))
  ·have hr:=of_decide_eq_false hr;have ad:w.in_.Z.getD k 0=0:=by rw[vO,uW (by omega)];rfl
   exact hj 0 (by omega) (by omega) (by simp only[Wy,gk,ad];omega)
  ·have hr:=xG hr;have a7:0≤c:=by omega
   rw[tL,BG (show k<w.in_.Z.length by omega),tJ,Cv (n:=1125899906842624-a) (by omega) (by omega),Cv (n:=1152921504606846976-c) (by omega) (by omega)];have ad:w.in_.Z.getD k 0=w.in_.Z[k]:=by simp [vO,show k<w.in_.Z.length by omega]
   exact hj _ (by omega) (by omega) (by simp only[Wy,gk,ad];omega)) N 0 (s2,w.s.N.sum,w.moves,w.s.D,w.s.N) ⟨[],⟨rfl,λn d=>(by cases d),hm,K,λi x n _ d=>(by cases d),λi _=>rfl,⟨by show s2=_;rw[i2],by show s2≤_;omega⟩,by
    show w.s.N=G5 _ (v1 W 0)
    rw[WU,Sx U],⟨by show w.s.N.sum=_;simp,ae⟩,by simp⟩,(λi x C=>by cases C),.inl rfl⟩ (by omega) (tU _)
 exact⟨l,s,e,i3,i4⟩
structure sM (N:Nat) (b:AF) (s:AE) (in_:Ch) (o1:List (List Int)) (gs:List AT) (o2:List (List Int)) (inn:List Int) (ms:List AK) (z:List (List Int)×List AV×List AT×List Int) (ns:List Int):Prop where
 eg:GZ N (⟨b,in_,s,([]:List AK),(List.replicate ((b.A.length:Int)).toNat (0:Int)),([]:List AV)⟩:AN)=some gs
 ez:Ex N (⟨b,in_,(⟨s.B,o2,s.L,s.G,gs,inn,s.K⟩:AE),ms,(List.replicate ((b.A.length:Int)).toNat (0:Int)),([]:List AV)⟩:AN)=some z
 nl:ns.length=b.A.length
 n0:∀n∈ns,0≤n
 ms_:ms=Wf s.B b.H.length 0 ns
 at3:∀(p:Nat) x n,o1[p]? =some x→ns[p]? =some n→z.1[p]? =some (G5 (G5 x (v1 b.H.length n)) (UB b.H.length s.B s.G p))
 own:Ih b.A.length b.H.length z.1
 rest:z.2.1=LZ s.B s.G
 pk:z.2.2.2=z.1.map List.sum
 gl:z.2.2.1.length=b.E.length
 inn_:inn=G5 s.N (v1 b.H.length ns.sum)
 tot:EO z.1+Fi (LZ s.B s.G)=EO s.D+Fi s.G+ns.sum
 tot2:EO s.D+Fi s.G+ns.sum≤1125899906842624
 pw:Xc in_.Z ns
 max_:ns.sum=Wy in_.Z b.A.length∨EO s.D+Fi s.G+ns.sum=1125899906842624∨s.N.sum+ns.sum=1152921504606846976
 ins:s.N.sum+ns.sum≤1152921504606846976
def Yy {N:Nat}(hN:18446744073709551616<N) {b:AF}(F:H1 b) (I:∀l∈b.E,Js b l) (ae:∀p∈b.A,Hg b p) {s:AE}(d:sD b s) (hq:s.G.length≤100000) {in_:Ch}(h1:in_.Ah.length≤1000) (h2:in_.Aj.length≤1000) (h3:in_.Aa.length≤1000) {t:List (List Int)}(h4:∀j:List AT,En N (⟨b,in_,({ s with M:=j}:AE),([]:List AK),(List.replicate ((b.A.length:Int)).toNat (0:Int)),([]:List AV)⟩:AN)=some t) (J:Ih b.A.length b.H.length t) (Q:EO t=EO s.D):
  ∃j m g o z U,GF N b s in_=EQ N b in_ s (m,g,o) z (ER N s (m,g,o) z) N 0 z.1 s.L s.K o ([]:List AV)∧sM N b s in_ t j m g o z U:=by
 have hP:=F.pl;have hL:=F.li;have hW:=F.own;have V:=F.own1;have i:1000000<N:=by omega
 unfold GF;rw[TV i (by have:=d.own.len;omega) (λx X=>by have:=(d.own.all x X).len;omega) (by have:=d.rem;omega) (by have:=d.gates;omega) (by have:=d.inn;omega) (by have:=d.out;omega),tJ,Kd (by omega) _ (by decide)];have Y:Xi b.E.length s.M (sV s):=⟨d.gates,λk hk=>by
  have:k<s.M.length:=by rw[d.gates];exact hk
  simp [sV,vO,this]⟩
 obtain⟨j,eg,hg⟩:=ZS i (w:=(⟨b,in_,s,([]:List AK),(List.replicate ((b.A.length:Int)).toNat (0:Int)),([]:List AV)⟩:AN)) rfl (show b.E.length≤1000 by omega) h1 h2 Y;rw[eg,tJ];have Z:=h4 j;rw[Z,tJ];obtain⟨U,⟨a,c,o,m,g⟩,ey,⟨q1,q2,q3,q4,q5,q6,⟨q7,q8⟩,q9,⟨aa,ab⟩,ac⟩,qp,qm⟩:=cP i (w:=(⟨b,in_,(⟨s.B,t,s.L,s.G,j,s.N,s.K⟩:AE),([]:List AK),(List.replicate ((b.A.length:Int)).toNat (0:Int)),([]:List AV)⟩:AN)) (W:=b.H.length) rfl V hW hP J hq d.que (by show EO t+Fi s.G≤_;rw[Q];exact d.tot) d.inn d.inn0 d.inns rfl;simp only at q1 q2 q3 q4 q5 q6 q7 q8 q9 aa ab ac qm ey;rw[ey,tJ];obtain⟨z,ez,⟨u,v,q,y,ad⟩,C⟩:=mD i (w:=(⟨b,in_,(⟨s.B,m,s.L,s.G,j,g,s.K⟩:AE),o,(List.replicate ((b.A.length:Int)).toNat (0:Int)),([]:List AV)⟩:AN)) (W:=b.H.length) rfl hW hP hL I q4 hq d.que (by show EO m+Fi s.G≤_;omega) (NZ _ _) hg.1;simp only at u v q y ad C;rw[ez,tJ];exact⟨j,m,g,o,z,U,rfl,⟨eg,ez,q1,q2,q3,λp x n X hn=>v p _ (q5 p x n X hn),u,q,y,C,q9,by rw[←q];omega,by omega,qp,by omega,by omega⟩⟩
def cG {N:Nat}(hN:18446744073709551616<N) {b:AF}(C:H1 b) (F:∀l∈b.E,Js b l) (j:∀p∈b.A,Hg b p) {s:AE}(X:sD b s) (hq:s.G.length≤100000) {in_:Ch}(h1:in_.Ah.length≤1000) (h2:in_.Aj.length≤1000) (h3:in_.Aa.length≤1000) {Y:List (List Int)}(h4:∀gs:List AT,En N (⟨b,in_,({ s with M:=gs}:AE),([]:List AK),(List.replicate ((b.A.length:Int)).toNat (0:Int)),([]:List AV)⟩:AN)=some Y) (aa:Ih b.A.length b.H.length Y) (ab:EO Y=EO s.D):
  ∃r d o3 l,GF N b s in_=some r∧XB N b s in_.Aa Y r d o3 l∧EO o3+Fi (LZ s.B s.G)=EO s.D+Fi s.G+d.sum∧Xc in_.Z d∧(d.sum=Wy in_.Z b.A.length∨EO s.D+Fi s.G+d.sum=1125899906842624∨s.N.sum+d.sum=1152921504606846976)∧s.N.sum+d.sum≤1152921504606846976:=by
 have hP:=C.pl;have hL:=C.li;have hW:=C.own;have ad:=C.own1;have ae:1000000<N:=by omega
 obtain⟨gs,y,a,g,z,d,eS,h⟩:=Yy hN C F j X hq h1 h2 h3 h4 aa ab;have q1:=h.nl;have q2:=h.n0;have q3:=h.ms_;have u:=h.own;have I:=h.rest;have J:=h.pk;have ac:=h.gl;have k1:=h.tot;have k2:=h.tot2;have af:=To s.B b.H.length d 0;obtain⟨⟨o,rm,out,c,sn⟩,⟨l,i1,q,v,Q⟩,e⟩:=Em b.A.length (λn i (t:List (List Int)×List Int×List Int×List AK×List AV)=>EQ N b in_ s (y,a,g) z (ER N s (y,a,g) z) n i t.1 t.2.1 t.2.2.1 t.2.2.2.1 t.2.2.2.2) (λt=>ER N s (y,a,g) z t.1 t.2.1 t.2.2.1 t.2.2.2.1 t.2.2.2.2) (λk t=>∃l,t.2.1.length=b.A.length∧qF b s.B N b.H.length k z.1 s.K g t.1 t.2.2.1 t.2.2.2.1 t.2.2.2.2 l∧aQ b.H.length t.2.2.1 t.2.2.2.1 t.2.2.2.2 (64+k*(in_.Aa.length+b.E.length+2))∧qU N b s.B in_.Aa z.1 k t.1 l) (λn k t U=>by
  simp only[EQ];rw[Eg U];rfl) (λn k t hi U=>by
  obtain⟨o,rm,out,c,sn⟩:=t;obtain⟨l,i1,q,v,Q⟩:=hi;simp only at i1 q v Q;simp only[EQ];have V:k*(in_.Aa.length+b.E.length+2)≤64*(1000+96+2):=xX (by omega) (by omega);obtain⟨r,l',er,r1,r2,r3,r5,r4⟩:=ZW hN (w:=(⟨b,in_,(⟨s.B,o,rm,z.2.1,z.2.2.1,a,out⟩:AE),c,z.2.2.2,sn⟩:AN)) (H:=s.B) (W:=b.H.length) rfl (by omega) (by show b.E.length≤_;omega) h3 F j ac (by show z.2.2.2.length=_;rw[J,List.length_map];exact u.len) i1 U q.ox v (by omega);rw[EZ U,tL,er,tJ,BH (by omega)];have hM:64+(k+1)*(in_.Aa.length+b.E.length+2)=64+k*(in_.Aa.length+b.E.length+2)+(in_.Aa.length+b.E.length+2):=by rw[wF];omega
  exact⟨(_,_,_,_,_),⟨l++l',r1,q.next r2,by rw[hM];exact v.next r2 r3,Q.next U r2 r5 r4⟩,rfl⟩) N 0 (z.1,s.L,s.K,g,[]) ⟨[],X.rem,⟨λm hm=>(by cases hm),.nil,by simp,rfl,rfl,rfl,trivial,u,X.out,by simp [K6]⟩,⟨X.out,by show g.length≤_;rw[q3];omega,by simp⟩,⟨λp hp=>(by omega),λp _=>⟨rfl,rfl⟩,λp _ hp=>(by omega)⟩⟩ (by omega) (tU _)
 rw[eS,show EQ N b in_ s (y,a,g) z (ER N s (y,a,g) z) N 0 z.1 s.L s.K g ([]:List AV)=ER N s (y,a,g) z o rm out c sn from e];simp only at q v;have V:b.A.length*(in_.Aa.length+b.E.length+2)≤64*(1000+96+2):=xX hP (by omega);have ag:=v.sn;have ah:=v.mv;have ai:z.2.1.length≤s.G.length:=by rw[I];exact List.length_filter_le _ _
 unfold ER;rw[H9 (by omega)];refine⟨_,d,z.1,l,rfl,⟨q1,by show c.length≤_;omega,by show c.length≤_;omega,q2,h.at3,u,by omega,J,?_,?_,rfl,h.inn_,Q.tk,λp hp x hx=>Q.cap p hp hp x hx⟩,h.tot,h.pw,h.max_,h.ins⟩
 ·rw[←q.sn_,←q3];exact q
 ·show z.2.1++sn=_
  rw[I,q.sn_]
def Qt.at_:∀{l:List AK}{o:List (List Int)},Qt l o→∀(j:Nat) (b:j<l.length),∃x,(RQ o (l.take j))[(l[j]).J.toNat]? =some x∧VV (l[j]).T x
 |m::l,o,b,0,_=>b.1
 |m::l,o,b,j+1,a=>Qt.at_ (l:=l) b.2 j (by simpa using a)
def We {H:Int}{W:Nat}:∀{l:List Int}{i:Nat}{m:AK},m∈Wf H W i l→∃(k:Nat) (n:Int),n∈l∧0<n∧m=⟨H, -1,(k:Int), -4,v1 W n⟩
 |[],_,m,g=>by cases g
 |a::l,i,m,g=>by
  rw[Wf] at g;rcases vC.1 g with g|g
  ·split at g
   ·rename_i h0;exact⟨i,a,uN ..,h0,vX.1 g⟩
   ·cases g
  ·obtain⟨k,n,b,c,d⟩:=We g;exact⟨k,n,uR _ b,c,d⟩
def Pa (o:Nat) (a:List AK):Int:=(a.map λm=>m.T.getD o 0).sum
def Xo {W o:Nat}{x y:List Int}(c:x.length=W) (d:y.length=W) (g:o<W):(I0 x y).getD o 0=x.getD o 0-y.getD o 0:=by
 have a:o<x.length:=by omega
 have b:o<y.length:=by omega
 unfold I0;simp [vO,wZ,a,b]
def Xq {W o:Nat}{x y:List Int}(c:x.length=W) (d:y.length=W) (g:o<W):(G5 x y).getD o 0=x.getD o 0+y.getD o 0:=by
 have a:o<x.length:=by omega
 have b:o<y.length:=by omega
 unfold G5;simp [vO,wZ,a,b]
def VN (o:Nat) (w:List (List Int)):Int:=(w.map λx=>x.getD o 0).sum
def Ss (o:Nat) (q:List AV):Int:=(q.map λl=>l.T.getD o 0).sum
def Zv (o:Nat) (a b:List AV):Ss o (a++b)=Ss o a+Ss o b:=by unfold Ss;rw[wM,wG]
def Zw {o:Nat}{w:List (List Int)}{k:Nat}{x y:List Int}(a:w[k]? =some x):VN o (upd w (k:Int) y)=VN o w-x.getD o 0+y.getD o 0:=by
 have b:=(uB.1 a).1;have c:=(uB.1 a).2;unfold VN upd;rw[vR,List.map_set,NU (by simpa using b),List.getElem_map,c]
def PX.bd {W:Nat}{p:List Int}(b:PX W p):∀x∈p, -2305843009213693952≤x∧x≤2305843009213693952:=λx a=>by
 have:=b.mem a;omega
def X4 (m:AK):Bool:=decide (m.C<0)
def Ru (b:AF) (H:Int) (o:Nat):∀(l:List AK),Ss o (l.filterMap (Lq b H))+Pa o (l.filter X4)=Pa o l∧Fi (l.filterMap (Lq b H))+K6 (l.filter X4)=K6 l
 |[]=>⟨rfl,rfl⟩
 |m::l=>by
  obtain⟨i,j⟩:=Ru b H o l;have g:∀l,Pa o (m::l)=m.T.getD o 0+Pa o l:=λl=>by unfold Pa;rw[uY,vS]
  have a:∀l,K6 (m::l)=m.T.sum+K6 l:=λl=>by unfold K6;rw[uY,vS]
  by_cases k:m.C<0
  ·rw[List.filterMap_cons_none (by unfold Lq;rw[tT k]),List.filter_cons_of_pos (by unfold X4;simpa using k),g,g,a,a];omega
  ·rw[List.filterMap_cons_some (b:=(⟨BD (BD (H+1)+Pd b m.J.toNat m.Ba),m.C,m.T⟩:AV)) (by unfold Lq;rw[tQ k]),List.filter_cons_of_neg (by unfold X4;simpa using k),g,a];have c:∀(x:AV) l,Ss o (x::l)=x.T.getD o 0+Ss o l:=λx l=>by unfold Ss;rw[uY,vS]
   have d:∀(x:AV) l,Fi (x::l)=x.T.sum+Fi l:=λx l=>by unfold Fi;rw[uY,vS]
   rw[c,d];simp only;omega
def Wp {W:Nat}{l:List AK}(b:∀m∈l,PX W m.T):0≤K6 l:=by
 unfold K6;exact Rb (f:=λm:AK=>m.T.sum) λm a=>(b m a).sum0
def Vu {N W:Nat}(d:1000000<N) (j:W≤1000):∀{l:List AK}{out:List Int},(∀m∈l,PX W m.T)→out.length=W→(∀x∈out,0≤x)→out.sum+K6 l≤2305843009213693952→(Sm N out l).length=W∧(∀x∈Sm N out l,0≤x)∧(Sm N out l).sum=out.sum+K6 (l.filter X4)∧∀o,o<W→(Sm N out l).getD o 0=out.getD o 0+Pa o (l.filter X4)
 |[],out,_,b,h0,_=>⟨b,h0,by show out.sum=out.sum+0;omega,λo _=>by show out.getD o 0=out.getD o 0+0;omega⟩
 |m::l,out,c,b,h0,q=>by
  have a:=c m (.head _);have s:=Wp (l:=l) λm a=>c m (.tail _ a);have k:∀l,K6 (m::l)=m.T.sum+K6 l:=λl=>by unfold K6;rw[uY,vS]
  have g:∀o l,Pa o (m::l)=m.T.getD o 0+Pa o l:=λo l=>by unfold Pa;rw[uY,vS]
  rw[k] at q;have t:=a.sum0;rw[show Sm N out (m::l)=Sm N (if m.C<0 then (Gz N out m.T).getD [] else out) l from rfl];by_cases z:m.C<0
  ·rw[tT z,Wm d (by omega) (by rw[a.len,b]) (λx n=>by have:=IZ h0 x n;have:=h0 x n;omega) a.bd,vK,List.filter_cons_of_pos (by unfold X4;simpa using z)];have i:(G5 out m.T).sum=out.sum+m.T.sum:=LW (b.trans a.len.symm);obtain⟨u,v,w,y⟩:=Vu d j (l:=l) (out:=G5 out m.T) (λm a=>c m (.tail _ a)) (Pv b a.len) (RY h0 a.nn) (by omega);exact⟨u,v,by rw[w,i,k];omega,λo p=>by rw[y o p,Xq b a.len p,g];omega⟩
  ·rw[tQ z,List.filter_cons_of_neg (by unfold X4;simpa using z)];exact Vu d j (l:=l) (λm a=>c m (.tail _ a)) b h0 (by omega)
def U6 {b:AF}{H:Int}{W o:Nat}(a:o<W):∀{l:List AK}{w:List (List Int)},Ih b.A.length W w→Qt l w→(∀m∈l,∃p,p<b.A.length∧qY b H W p m)→VN o (RQ w l)+Pa o l=VN o w
 |[],w,_,_,_=>by show VN o w+0=_;omega
 |m::l,w,t,y,u=>by
  obtain⟨⟨x,k,n⟩,c⟩:=y;obtain⟨p,B,q⟩:=u m (.head _);have d:=t.all x (vM k);have i:=n.sub d;have j:w.getD m.J.toNat []=x:=by rw[vO,k];rfl
  have g:∀o l,Pa o (m::l)=m.T.getD o 0+Pa o l:=λo l=>by unfold Pa;rw[uY,vS]
  have v:upd w m.J (I0 x m.T)=upd w ((m.J.toNat:Nat):Int) (I0 x m.T):=by rw[q.fr,vR]
  rw[j] at c;have z:=U6 a (l:=l) (w:=upd w m.J (I0 x m.T)) (t.upd _ i.1) c λm s=>u m (.tail _ s);rw[show RQ w (m::l)=RQ (upd w m.J (I0 (w.getD m.J.toNat []) m.T)) l from rfl,j,g];rw[v,Zw k,Xo d.len i.2.2.len a] at z;rw[v];omega
def oP (N:Nat) (l:BM):Prop:=(0≤l.U∧l.U≤64)∧0≤l.Ac∧l.Ac≤l.U
def nH.pos {N:Nat}{b:AF}{l:BM}(c:nH N b l):oP N l:=by
 by_cases h0:l.F=0
 ·have:=c.gate h0;exact⟨this.2.2.1,this.2.2.2.1⟩
 ·by_cases a:l.F=2
  ·have:=c.pump a;exact⟨⟨by omega,this.2.1.2⟩,this.2.2⟩
  ·have:=c.none_ h0 a;exact⟨by omega,by omega⟩
structure AfX (b:AF) (s:AE) (ts:List Hb) (r:AE×List AK×List Int) (o3:List (List Int)) (l:List AK):Prop where
 own:Ih b.A.length b.H.length r.1.D
 que:QX b.A.length b.H.length r.1.G
 tot:EO r.1.D+Fi r.1.G+K6 (l.filter X4)=EO o3+Fi (LZ s.B s.G)
 ol:r.1.K.length=b.H.length
 o0:∀x∈r.1.K,0≤x
 os:r.1.K.sum=s.K.sum+K6 (l.filter X4)
 oc:∀o,o<b.H.length→r.1.K.getD o 0=s.K.getD o 0+Pa o (l.filter X4)
 col:∀o,o<b.H.length→VN o r.1.D+Ss o r.1.G+Pa o (l.filter X4)=VN o o3+Ss o (LZ s.B s.G)
 ql:r.1.G.length≤s.G.length+(64+b.A.length*(ts.length+b.E.length+2))
 l0:0≤K6 (l.filter X4)
def W9 {N:Nat}(X:18446744073709551616<N) {b:AF}(I:H1 b) {s:AE}(c:sZ b s) {u:List Hb}{J:List (List Int)}{r:AE×List AK×List Int}{K:List Int}{v:List (List Int)}{l:List AK}(h:XB N b s u J r K v l):AfX b s u r v l:=by
 have Y:=I.own;have g:∀m∈l,PX b.H.length m.T:=λm i=>by obtain⟨p,_,j⟩:=h.lv.mv m i;exact j.px
 have a:QX b.A.length b.H.length (LZ s.B s.G):=λl M=>c.x.que l (vL.1 M).1;have d:QX b.A.length b.H.length (l.filterMap (Lq b s.B)):=λx k=>by
  obtain⟨m,i,e⟩:=xW.1 k;obtain⟨p,_,j⟩:=h.lv.mv m i;unfold Lq at e;split at e
  ·cases e
  ·cases e;have:=j.to;exact⟨j.px,by show 0≤m.C;omega,by show m.C<_;omega⟩
 have n:=(FA a 0).2;rw[wD,show Fi ([]:List AV)=0 from rfl] at n;have q:=(FA c.x.que 0).2;rw[wD,show Fi ([]:List AV)=0 from rfl] at q;have Q:=c.x.own.sum0;have U:=h.lv.ox.sum0;have Z:=h.lv.tot;have h3:=h.os3;have h4:=c.outs;have h5:=c.x.inns;obtain⟨w,y,z,D⟩:=Vu (N:=N) (by omega) (by omega) g c.x.out c.out0 (by omega);rw[←h.lv.out_] at w y z D;have t:=h.ml2;rw[h.lv.ms_,uJ] at t;refine⟨h.lv.ox,?_,?_,w,y,z,D,λo V=>?_,?_,Wp λm i=>g m (vL.1 i).1⟩
 ·rw[h.que];exact λx k=>(vC.1 k).elim (a x) (d x)
 ·have:=(Ru b s.B 0 l).2;rw[h.que,U1];omega
 ·have W:=(Ru b s.B o l).1;have F:=U6 V h.ox3 h.lv.val h.lv.mv;rw[←h.lv.own] at F;rw[h.que,Zv];omega
 ·rw[h.que,uJ];have W:(LZ s.B s.G).length≤s.G.length:=List.length_filter_le _ _;have F:=List.length_filterMap_le (Lq b s.B) l;omega
def YM {N:Nat}(D:18446744073709551616<N) {b:AF}(Z:Hn N b=some true):Jn b∧SY b∧HZ N b=some true∧E2 N b=some true:=by
 obtain⟨v,e,k⟩:=Uy D b;rw[Z] at e;cases e;have k:=k rfl;unfold Hn at Z;obtain⟨Y,_,Z⟩:=bd Z;obtain⟨H,I,Z⟩:=bd Z;obtain⟨J,i,Z⟩:=bd Z;obtain⟨K,j,Z⟩:=bd Z;obtain⟨M,m,Z⟩:=bd Z;obtain⟨Q,n,Z⟩:=bd Z;obtain⟨U,o,Z⟩:=bd Z;obtain⟨V,p,Z⟩:=bd Z;obtain⟨W,q,Z⟩:=bd Z;have a:∀{c:Bool} {x:Option Bool} {d:Bool},cond c (x.bind λy=>some y) (some false)=some d→d=true→c=true∧x=some true:=by
  intro c x d s hd;subst hd;cases c
  ·cases s
  ·cases x with
   |none=>cases s
   |some y=>exact⟨rfl,s⟩
 have t:=tN Z;have u:=a q t;have w:=a p u.1;have z:=a o w.1;have A:=a n z.1;have B:=a m A.1;have g:=a j B.1;refine⟨k,λl X=>?_,(a i g.1).2,g.2⟩;have C:=YA D k.head k.links g.2 l X;by_cases h0:l.F=0
 ·have:=C.gate h0;exact⟨this.2.2.1,this.2.2.2.1⟩
 ·by_cases G:l.F=2
  ·have:=C.pump G;exact⟨⟨by omega,this.2.1.2⟩,this.2.2⟩
  ·have:=C.none_ h0 G;exact⟨by omega,by omega⟩
def dG {b:AF}(c:Jn b) {p:Nat}(d:p<b.A.length) (a:Int):0≤Pd b p a∧Pd b p a≤240:=by
 unfold Pd;split
 ·rename_i g;rw[R8 (show a.toNat<b.E.length by omega)];exact(c.links _ (uE _)).delay
 ·split
  ·exact⟨by decide,by decide⟩
  ·have e:b.A.getD p default=b.A[p]:=by simp [vO,d]
   rw[e];exact(c.places _ (uE _)).delay
def Vg {N:Nat}(C:18446744073709551616<N) {b:AF}(i:Jn b) (K:SY b) {s:AE}(c:YN b s) (hH:s.B<16777216) {in_:Ch}{M:List Hb}{Q:List (List Int)}{r:AE×List AK×List Int}(U:GF N b s in_=some r) {u:List Int}{F:List (List Int)}{l:List AK}(h:XB N b s M Q r u F l) (k1:EO F+Fi (LZ s.B s.G)=EO s.D+Fi s.G+u.sum) (k4:s.N.sum+u.sum≤1152921504606846976):YN b r.1∧r.1.B=s.B+1:=by
 have j:=i.head.own1;have a:=W9 C i.head c.rg h;obtain⟨H,v⟩:=cF C i.head i.places K c U;have z:=Jq h.n0;have hh:=c.rg.hour;have o:r.1.B=s.B+1:=by rw[h.hour,Cv (by omega) (by omega)]
 have V:r.1.N.sum=s.N.sum+u.sum:=by rw[h.inn,LW (by rw[c.rg.x.inn,QT]),Tg j]
 have W:=a.tot;have h3:=h.os3;have X:=a.l0;have Y:=a.os;have Z:=c.rg.outs;have aa:=Jq c.rg.x.inn0;refine⟨⟨⟨⟨a.own,a.que,by omega,H.1,v.1,by rw[h.inn];exact Pv c.rg.x.inn (QT _ _),?_,by omega,a.ol⟩,by omega,λk l g w y=>⟨(v.2 k l g w y).pos,(v.2 k l g w y).tgt⟩,λq d=>?_,a.o0,by omega⟩,H.2,λk l g w y=>(v.2 k l g w y).opn⟩,o⟩
 ·rw[h.inn];refine RY c.rg.x.inn0 (fE j z ?_).nn;have ab:=c.rg.x.own.sum0;have A:=(FA c.rg.x.que 0).2;rw[wD,show Fi ([]:List AV)=0 from rfl] at A;omega
 ·rw[o];rw[h.que] at d;rcases vC.1 d with d|d
  ·obtain⟨q1,I⟩:=vL.1 d;have I:=xG I;exact⟨by omega,(c.rg.at_ q q1).2⟩
  ·obtain⟨m,hm,e⟩:=xW.1 d;obtain⟨p,hp,t⟩:=h.lv.mv m hm;unfold Lq at e;split at e
   ·cases e
   ·cases e;have hd:=dG i hp m.Ba;have hf:=t.fr;rw[show p=m.J.toNat by omega] at hd;refine⟨?_,t.pos⟩;show s.B+1≤BD (BD (s.B+1)+Pd b m.J.toNat m.Ba)
    rw[Cv (n:=s.B+1) (by omega) (by omega),Cv (by omega) (by omega)];omega
structure qZ (i:Ch):Prop where
 rain:i.Z.length≤20
 faults:i.Ah.length≤20
 cmds:i.Aj.length≤20
 takes:i.Aa.length≤20
 swaps:i.Aq.length≤20
structure nB (b:AF):Prop where
 r:Jn b
 pos:SY b
 p6:b.A.length≤6
 l6:b.E.length≤6
structure tD (N:Nat) (b:AF) (s:AE) (i:Ch) (y:AE×List AK×List Int):Prop where
 er:GF N b s i=some y
 rg0:YN b s
 rg:YN b y.1
 hour:y.1.B=s.B+1
 h0:s.B<16777216
 ml:y.2.1.length≤232
 ql:y.1.G.length≤s.G.length+232
 pl:y.2.2.length=b.A.length
 ex:∃o1 ns o3 l,(∀gs:List AT,En N (⟨b,i,({ s with M:=gs}:AE),([]:List AK),(List.replicate ((b.A.length:Int)).toNat (0:Int)),([]:List AV)⟩:AN)=some o1)∧Ih b.A.length b.H.length o1∧o1.map List.sum=s.D.map List.sum∧XB N b s i.Aa o1 y ns o3 l∧EO o3+Fi (LZ s.B s.G)=EO s.D+Fi s.G+ns.sum∧s.N.sum+ns.sum≤1152921504606846976
def ZL {N:Nat}(g:18446744073709551616<N) {b:AF}(c:nB b) {s:AE}(d:YN b s) (q:s.B<16777216) (Q:s.G.length≤100000) {i:Ch}(t:qZ i):∃y,tD N b s i y:=by
 obtain⟨U,V,X,Y,Z⟩:=t;have j:=c.p6;have u:=c.l6;have v:=c.r.head.own;obtain⟨w,k,m,z,C⟩:=Yw (N:=N) (by omega) (b:=b) (s:=s) (in_:=i) (W:=b.H.length) (by omega) (by omega) d.rg.x.own;obtain⟨r,D,F,l,n,h,o,_,_,p⟩:=cG g c.r.head c.r.links c.r.places d.rg.x (by omega) (in_:=i) (by omega) (by omega) (by omega) k m z;obtain⟨I,J⟩:=Vg g c.r c.pos d (by omega) n h o p;have a:=W9 g c.r.head d.rg h;have hm:b.A.length*(i.Aa.length+b.E.length+2)≤6*28:=xX j (by omega);have K:=a.ql;have M:=h.ml2;exact⟨r,n,d,I,J,q,by omega,by omega,by rw[h.pk,List.length_map,h.ox3.len],w,D,F,l,k,m,C,h,o,p⟩
inductive Sf (N:Nat) (b:AF):AE→List Ch→List AE→List AK→List (List Int)→AE→Prop
 |nil (s:AE):Sf N b s [] [] [] [] s
 |cons {s:AE} {i:Ch} {y:AE×List AK×List Int} {l:List Ch} {ss:List AE} {ms:List AK} {ps:List (List Int)} {t:AE}:tD N b s i y→Sf N b y.1 l ss ms ps t→Sf N b s (i::l) (y.1::ss) (y.2.1++ms) (y.2.2::ps) t
def V3 {N:Nat}(d:18446744073709551616<N) {b:AF}(g:nB b):∀(l:List Ch) {s:AE},YN b s→s.B+l.length≤16777216→s.G.length+232*l.length≤100000→(∀i∈l,qZ i)→∃k m n t,Sf N b s l k m n t∧YN b t∧t.B=s.B+l.length∧t.G.length≤s.G.length+232*l.length
 |[],s,a,_,_,_=>⟨[],[],[],s,.nil s,a,by simp,by simp⟩
 |i::l,s,a,q,u,p=>by
  rw[wA] at q u;obtain⟨y,o⟩:=ZL d g a (by omega) (by omega) (p i (.head _));have x:=o.hour;have z:=o.ql;obtain⟨k,m,n,t,c,v,A,C⟩:=V3 d g l o.rg (by omega) (by omega) λj w=>p j (.tail _ w);exact⟨_,_,_,t,.cons o c,v,by rw[wA];omega,by rw[wA];omega⟩
def Sf.app {N:Nat}{b:AF}{s t u:AE}{l i:List Ch}{j a:List AE}{m d:List AK}{n g:List (List Int)}(q:Sf N b s l j m n t) (k:Sf N b t i a d g u):Sf N b s (l++i) (j++a) (m++d) (n++g) u:=by
 induction q with
 |nil s=>exact k
 |cons o c p=>rw[xU];exact .cons o (p k)
def Sf.len {N:Nat}{b:AF}{s t:AE}{l:List Ch}{a:List AE}{d:List AK}{g:List (List Int)}(k:Sf N b s l a d g t):a.length=l.length∧g.length=l.length∧d.length≤232*l.length:=by
 induction k with
 |nil s=>exact⟨rfl,rfl,tU _⟩
 |cons o c i=>
  have j:=o.ml;simp only[wA,uJ];omega
def Sf.at {N:Nat}{b:AF}{s t:AE}{l:List Ch}{a:List AE}{g:List AK}{i:List (List Int)}(w:Sf N b s l a g i t):∀(k:Nat) u,a[k]? =some u→YN b u∧u.B=s.B+k+1∧u.G.length≤s.G.length+232*l.length:=by
 induction w with
 |nil s=>intro k u w;cases w
 |cons o c j=>
  intro k u d;have n:=o.hour;have p:=o.ql;rw[wA];cases k with
  |zero=>cases d;exact⟨o.rg,by omega,by omega⟩
  |succ k=>obtain⟨m,q,v⟩:=j k u d;exact⟨m,by omega,by omega⟩
def Sf.pk {N:Nat}{b:AF}{s t:AE}{l:List Ch}{g:List AE}{i:List AK}{d:List (List Int)}(k:Sf N b s l g i d t):∀p∈d,p.length=b.A.length:=by
 induction k with
 |nil s=>intro p a;cases a
 |cons o c j=>
  intro p a;rcases uA.1 a with rfl|a
  ·exact o.pl
  ·exact j p a
def Sf.last {N:Nat}{b:AF}{s t:AE}{l:List Ch}{a:List AE}{d:List AK}{g:List (List Int)}(m:Sf N b s l a d g t):0<l.length→a[l.length-1]? =some t:=by
 induction m with
 |nil s=>intro m;cases m
 | @cons s i y l a d g t o c k=>
  intro _;cases l with
  |nil=>cases c;rfl
  |cons j l=>simpa using k (by simp)
def W2 {α}{l r:List α}{x:α}{k:Nat}(d:l.drop k=x::r):∃b:k<l.length,l[k]=x∧l.drop (k+1)=r:=by
 have b:k<l.length:=by
  rcases uM k l.length with a|a
  ·exact a
  ·rw[wX a] at d;cases d
 rw[yL b] at d;injection d with a c
 exact⟨b,a,c⟩
def VK {α}{l:List α}{k:Nat}(a:l.drop k=[]):l.length≤k:=by
 simpa using a
def V4 {N:Nat}{b:AF}{ins:List Ch}{kj:List AE→List AK→List (List Int)→Option (List AE×List AK×List (List Int))}{s t:AE}{l:List Ch}{j:List AE}{p:List AK}{q:List (List Int)}(J:Sf N b s l j p q t):∀(k n:Nat) (a:List AE) (d:List AK) (g:List (List Int)),ins.drop k=l→l.length<n→k+l.length≤100000→a.length+l.length≤100000→d.length+232*l.length≤100000→g.length+l.length≤100000→Gm N b ins kj n a d g (k:Int) s.B s.D s.L s.G s.M s.N s.K=kj (a++j) (d++p) (g++q):=by
 induction J with
 |nil s=>
  intro k n a d g hd u _ _ _ _;obtain⟨m,rfl⟩:∃m,n=m+1:=⟨n-1,by simp at u;omega⟩
  simp only[Gm];rw[Eg (VK hd),tM,uU,uU,uU]
 | @cons s i y l j p q t o c w=>
  intro k n a d g hd u h0 x z A;rw[wA] at u h0 x z A;obtain⟨m,rfl⟩:∃m,n=m+1:=⟨n-1,by omega⟩
  obtain⟨v,C,F⟩:=W2 hd;have H:GF N b (⟨s.B,s.D,s.L,s.G,s.M,s.N,s.K⟩:AE) i=some y:=o.er;have I:=o.ml;simp only[Gm];rw[EZ v,tL,BG v,tJ,C,H,tJ,H9 (by omega),H9 (by omega),H9 (by omega),BH (by omega)];rw[w (k+1) m (a++[y.1]) (d++y.2.1) (g++[y.2.2]) F (by omega) (by omega) (by simp;omega) (by simp;omega) (by simp;omega)];simp
def Zt {N:Nat}{b:AF}{ins:List Ch}{kj:Int→List (List Int)→List Int→List AV→List AT→List Int→List Int→Option AE}{s t:AE}{l:List Ch}{d:List AE}{g:List AK}{j:List (List Int)}(x:Sf N b s l d g j t):∀(k n:Nat),ins.drop k=l→l.length<n→k+l.length≤100000→Hh N b ins kj n (k:Int) s.B s.D s.L s.G s.M s.N s.K=kj t.B t.D t.L t.G t.M t.N t.K:=by
 induction x with
 |nil s=>
  intro k n hd a _;obtain⟨m,rfl⟩:∃m,n=m+1:=⟨n-1,by simp at a;omega⟩
  simp only[Hh];rw[Eg (VK hd),tM]
 | @cons s i y l d g j t o c q=>
  intro k n hd a h0;rw[wA] at a h0;obtain⟨m,rfl⟩:∃m,n=m+1:=⟨n-1,by omega⟩
  obtain⟨p,u,v⟩:=W2 hd;have w:GF N b (⟨s.B,s.D,s.L,s.G,s.M,s.N,s.K⟩:AE) i=some y:=o.er;simp only[Hh];rw[EZ p,tL,BG p,tJ,u,w,tJ,BH (by omega)];exact q (k+1) m v (by omega) (by omega)
def Qm {N:Nat}(g:1000000<N) {b:AF}{s t:AE}{l:List Ch}{a:List AE}{c:List AK}{d:List (List Int)}(j:Sf N b s l a c d t) (i:l.length≤12):IQ N b s l=some (a,c,d):=by
 unfold IQ;have e:=V4 (ins:=l) (kj:=JF N) j 0 N [] [] [] rfl (by omega) (by omega) (by simp;omega) (by simp;omega) (by simp;omega);exact e
def T1 {N:Nat}(g:1000000<N) {b:AF}{s t:AE}{l:List Ch}{a:List AE}{c:List AK}{d:List (List Int)}(j:Sf N b s l a c d t) (i:l.length≤12):JU N b s l=some t:=by
 unfold JU;have e:=Zt (ins:=l) (kj:=J2 N) j 0 N rfl (by omega) (by omega);exact e
def ZU {N:Nat}(l:18446744073709551616<N) (b:AF) (s:AE) (ins:List Ch):∃v,HX N b s ins=some v∧(v=true→nB b∧YN b s∧s.G.length≤20∧ins.length≤12∧s.B≤16777196∧∀i∈ins,qZ i):=by
 unfold HX;cases m:((((decide (6<(b.A.length:Int))||decide (6<(b.E.length:Int)))||decide (20<(s.G.length:Int)))||decide (12<(ins.length:Int)))||decide (16777196<s.B)) with
 |true=>exact⟨false,rfl,λM=>by cases M⟩
 |false=>
  simp only[uS,uO] at m;obtain⟨⟨⟨⟨x,y⟩,z⟩,C⟩,D⟩:=m;rw[tM];rcases Mp ins.length (λn i (_:Unit)=>Cz N ins (C0 N b s) n i) (λ_=>C0 N b s) (some false) (λk _=>∀i∈ins.take k,qZ i) (λn k t c=>by
   simp only[Cz];rw[Eg c];rfl) (λn k t d c=>by
   simp only[Cz];rw[EZ c,tL,BG c,tJ,BH (by omega)];cases o:((((decide (20<((ins[k]).Z.length:Int))||decide (20<((ins[k]).Ah.length:Int)))||decide (20<((ins[k]).Aj.length:Int)))||decide (20<((ins[k]).Aa.length:Int)))||decide (20<((ins[k]).Aq.length:Int)))
   ·simp only[uS,uO] at o;obtain⟨⟨⟨⟨F,H⟩,I⟩,J⟩,K⟩:=o;refine .inr ⟨(),λj a=>?_,rfl⟩;rw[wJ c] at a;rcases vC.1 a with a|a
    ·exact d j a
    ·cases vX.1 a;exact⟨by omega,by omega,by omega,by omega,by omega⟩
   ·exact .inl rfl) N 0 () (λi d=>by cases d) (by omega) (tU _) with e|⟨_,i1,e⟩
  ·exact⟨false,e,λM=>by cases M⟩
  ·rw[show Cz N ins (C0 N b s) N 0=C0 N b s from e];rw[uZ] at i1;unfold C0;obtain⟨v,p,kv⟩:=Uy l b;rw[p,tJ];cases v with
   |false=>exact⟨false,rfl,λM=>by cases M⟩
   |true=>
    obtain⟨g,q,_,_⟩:=YM l p;obtain⟨v,u,w⟩:=Xs (N:=N) (by omega) g.head g.places s (by omega);rw[tL,u];exact⟨v,rfl,λM=>⟨⟨g,q,by omega,by omega⟩,w M,by omega,by omega,by omega,i1⟩⟩
def K4 {N:Nat}(b:1000000<N) {p:List Int}(c:p.length≤100000):Cg N p p=some true:=by
 unfold Cg;rw[tY (by simp),tM];exact Ke p.length (λn i=>Cw N p p (EG N) n i) (EG N) (λn k a=>by
  simp only[Cw];rw[Eg a];rfl) (λn k a=>by
  simp only[Cw];rw[EZ a,tL,BG a,tJ,tJ,tY (by simp),tM,BH (by omega)]) N 0 (by omega) (tU _)
def Vp {N:Nat}(b:1000000<N) {p:List Int}(c:p.length≤100000):Hy N p p=some true:=by
 unfold Hy;rw[tY (by simp),tM];exact Ke p.length (λn i=>Dp N p p (Ff N) n i) (Ff N) (λn k a=>by
  simp only[Dp];rw[Eg a];rfl) (λn k a=>by
  simp only[Dp];rw[EZ a,tL,BG a,tJ,tJ,tY (by simp),tM,BH (by omega)]) N 0 (by omega) (tU _)
def Uo {N:Nat}(b:1000000<N) {o:List (List Int)}(d:o.length≤100000) (c:∀x∈o,x.length≤100000):GR N o o=some true:=by
 unfold GR;rw[tY (by simp),tM];exact Ke o.length (λn i=>Cq N o o (D5 N) n i) (D5 N) (λn k a=>by
  simp only[Cq];rw[Eg a];rfl) (λn k a=>by
  simp only[Cq];rw[EZ a,tL,BG a,tJ,tJ,K4 b (c _ (uE a)),tJ,uP,tM,BH (by omega)]) N 0 (by omega) (tU _)
def Un {N:Nat}(b:1000000<N) {o:List AV}(d:o.length≤100000) (c:∀x∈o,x.T.length≤100000):GQ N o o=some true:=by
 unfold GQ;rw[tY (by simp),tM];exact Ke o.length (λn i=>Cp N o o (D4 N) n i) (D4 N) (λn k a=>by
  simp only[Cp];rw[Eg a];rfl) (λn k a=>by
  simp only[Cp];rw[EZ a,tL,BG a];simp only[tJ];rw[tY (by simp),tM,tJ,tY (by simp),tM,K4 b (c _ (uE a)),tJ,tJ,uP,tM,BH (by omega)]) N 0 (by omega) (tU _)
def Zo (a:AT):V2 a.v a.v=true:=by simp [V2,Zn]
def Ur {N:Nat}(b:1000000<N) {o:List AT}(c:o.length≤100000):GP N o o=some true:=by
 unfold GP;rw[tY (by simp),tM];exact Ke o.length (λn i=>Co N o o (D3 N) n i) (D3 N) (λn k a=>by
  simp only[Co];rw[Eg a];rfl) (λn k a=>by
  simp only[Co];rw[EZ a,tL,BG a,tJ,tJ,Zo,uP,tM,BH (by omega)]) N 0 (by omega) (tU _)
def Um {N:Nat}(b:1000000<N) {o:List AK}(d:o.length≤100000) (c:∀x∈o,x.T.length≤100000):GO N o o=some true:=by
 unfold GO;rw[tY (by simp),tM];exact Ke o.length (λn i=>Cn N o o (D2 N) n i) (D2 N) (λn k a=>by
  simp only[Cn];rw[Eg a];rfl) (λn k a=>by
  simp only[Cn];rw[EZ a,tL,BG a];simp only[tJ];rw[K4 b (c _ (uE a))];simp [BH (show k<4611686018427387904 by omega)]) N 0 (by omega) (tU _)
def PY {N:Nat}(a:1000000<N) {b:AF}(c:H1 b) {s:AE}(g:YN b s) (i:s.G.length≤100000):EJ N s s=some true:=by
 have j:=c.own;have k:=c.pl;have l:=c.li;have x:=g.rg.x;have m:=x.own.len;have n:=x.rem;have o:=x.gates;have p:=x.inn;have q:=x.out;unfold EJ;rw[Uo a (by omega) (λy d=>by have:=(x.own.all y d).len;omega),tJ,K4 a (by omega),tJ,Un a (by omega) (λy d=>by have:=(x.que y d).1.len;omega),tJ,K4 a (by omega),tJ,K4 a (by omega),tJ,Ur a (by omega)];simp
def Sf.mp {N:Nat}{b:AF}{s t:AE}{l:List Ch}{g:List AE}{d:List AK}{i:List (List Int)}(u:b.H.length≤16) (v:b.A.length≤6) (z:Sf N b s l g d i t):∀m∈d,m.T.length≤100000:=by
 induction z with
 |nil s=>intro m a;cases a
 |cons o c j=>
  intro m a;rcases vC.1 a with a|a
  ·obtain⟨w,x,y,l,_,_,_,z,_,_⟩:=o.ex;rw[z.lv.ms_] at a;rcases vC.1 a with a|a
   ·obtain⟨k,n,_,_,rfl⟩:=We a;show(v1 b.H.length n).length≤_
    rw[QT];omega
   ·obtain⟨p,_,q⟩:=z.lv.mv m a;have:=q.px.len;omega
  ·exact j m a
def Tk {N:Nat}(A:18446744073709551616<N) (C:Ee N=some true) (b:AF) (s:AE) (ins:List Ch) (k:Int):GS N b s ins k=some true:=by
 unfold GS;rw[C,tJ];obtain⟨v,V,kv⟩:=ZU A b s ins;rw[V,tJ];cases v with
 |false=>rfl
 |true=>
  obtain⟨o,H,hq,I,hH,J⟩:=kv rfl;cases K:(((!true)||decide (k<0))||decide ((ins.length:Int)<k)) with
  |true=>rfl
  |false=>
   simp only[uP,wC,uS,uO] at K;obtain⟨W,X⟩:=K;have a:1000000<N:=by omega
   have Y:=o.r.head.own;have D:=o.p6;have hh:=H.rg.hour;obtain⟨j,rfl⟩:∃j:Nat,k=j:=⟨k.toNat,by omega⟩
   have hj:j≤ins.length:=by omega
   have Z:(ins.take j).length=j:=by rw[vT];omega
   have aa:(ins.drop j).length=ins.length-j:=vY;obtain⟨d,p,l,q,y,r1,h1,q1⟩:=V3 A o (ins.take j) H (by omega) (by omega) λi F=>J i (yH F);obtain⟨g,u,m,t,z,M,h2,q2⟩:=V3 A o (ins.drop j) r1 (by omega) (by omega) λi F=>J i (List.mem_of_mem_drop F);have c:=y.app z;rw[yA] at c;obtain⟨n1,n2,n3⟩:=c.len;have eU:iE ins (j:Int)=some (ins.take j):=by unfold iE;rw[tT ⟨by omega,by omega⟩];rfl
   have Q:iF ins (j:Int)=some (ins.drop j):=by unfold iF;rw[tT ⟨by omega,by omega⟩];rfl
   have l1:=y.len;have l2:=z.len;rw[tM,Qm a c I,tJ,eU,tJ,T1 a y (by omega),tJ,tJ,Qm a y (by omega),tJ,Q,tJ,Qm a z (by omega),tJ];simp only[uK];rw[H9 (by simp;omega),H9 (by omega),H9 (by simp;omega),H9 (by omega),H9 (by simp;omega),H9 (by omega),Um a (by omega) (c.mp Y D)];have hc:(((decide (((d++g).length:Int)≠(ins.length:Int))||decide (((d++g).length:Int)≠(ins.length:Int)))||decide (((l++m).length:Int)≠(ins.length:Int)))||decide (((l++m).length:Int)≠(ins.length:Int)))=false:=by
    rw[n1,n2];simp
   rw[hc,tM,tJ,tJ,uP,tM];rw[show CY N b s ins (d++g,p++u,l++m) (d,p,l) (g,u,m) (Cr N b s ins (j:Int) true (d++g,p++u,l++m) q) N 0=Cr N b s ins (j:Int) true (d++g,p++u,l++m) q from
    Ke ins.length (λn i=>CY N b s ins (d++g,p++u,l++m) (d,p,l) (g,u,m) (Cr N b s ins (j:Int) true (d++g,p++u,l++m) q) n i) _ (λn k G=>by
     simp only[CY];rw[Eg G];rfl) (λn k G=>by
     have w:k<(d++g).length:=by omega
     have x:k<(l++m).length:=by omega
     obtain⟨U,g2,g3⟩:=c.at k _ (uC w);have g4:=c.pk _ (uE x);simp only[CY];rw[EZ G,tL,uK,uK,BG w,BG x];simp only[tJ];rw[PY a o.r.head U (by omega),tJ,uP,tM,Vp a (by omega),tJ,tJ,uP,tM,g2,Cv (n:=s.B+k) (by omega) (by omega),Cv (by omega) (by omega),tY (by simp),tJ,tM,Y2 a o.r.head o.r.places (by omega) U,tJ,tJ,uP,tM,BH (by omega)]) N 0 (by omega) (tU _)]
   unfold Cr;rw[Q,tJ,T1 a z (by omega),tJ,tL,T1 a c I,tJ,PY a o.r.head M (by omega),tJ,tJ,tL];by_cases h0:ins.length=0
   ·rw[uQ (by omega)];rfl
   ·have e:=c.last (by omega);have e2:ix (d++g) (BD ((ins.length:Int)-1))=some t:=by
     rw[Cv (by omega) (by omega),show(ins.length:Int)-1=((ins.length-1:Nat):Int) by omega];rw[BG (show ins.length-1<(d++g).length by omega)];rw[uC (show ins.length-1<(d++g).length by omega)] at e;exact e
    rw[tY (by omega),tM,e2,tJ,tJ,PY a o.r.head M (by omega)];rfl
def Wa:Ee BN=some true:=by decide +kernel
def RN (b:AF) (s:AE) (ins:List Ch) (k:Int):GS BN b s ins k=some true:=Tk qK Wa b s ins k
open Go.ChangeShapes Go.WideShapes Go.ChangeAt Go.RowKit Go.Deep
def E4 {α}(P:Program) (t:TypeId) (r:A7 α):Prop:=
 P.cellsOf t=r.sz∧∀{H:Type} {enc:TypeId×Value→H} {w:World} {c:Nat} {a:Nat→Bool} {d:Bool} {g:Nat} {cs:List Value} {x:DataW H×List MemPlace},
  DataW.trod enc P w c a d g t cs=some x→∃y,r.rd (λb=>b<w.heap.size) w.heap cs y
def cW {n:Int}(a:(Lit.int .i64 n).wf=true):AA n:=by
 simpa [Lit.wf,IntKind.min,IntKind.max,IntKind.signed,IntKind.bits,AA] using a
def X6 {P:Program}{t:TypeId}(i:P.cellsOf t=1) (j:P.underlying t=some (.int .i64)):E4 P t AB:=by
 refine⟨i,λ{H enc w d b g a cs x} o=>?_⟩;cases a with
 |zero=>simp [DataW.trod] at o
 |succ n=>
  unfold DataW.trod at o;simp only[j] at o;split at o<;>simp_all;rename_i k l m;obtain⟨⟨rfl,c⟩,_⟩:=o;subst m;exact⟨l,rfl,cW c⟩
def Vv {P:Program}{t:TypeId}(g:P.cellsOf t=1) (i:P.underlying t=some .bool):E4 P t A7.bool:=by
 refine⟨g,λ{H enc w c b d a cs x} j=>?_⟩;cases a with
 |zero=>simp [DataW.trod] at j
 |succ n=>
  unfold DataW.trod at j;simp only[i] at j;split at j<;>first|(exact ⟨_,rfl⟩)|simp_all
def X5 {P:Program}{t:TypeId}(g:P.cellsOf t=1) (i:P.underlying t=some .string):E4 P t A7.str:=by
 refine⟨g,λ{H enc w c b d a cs x} j=>?_⟩;cases a with
 |zero=>simp [DataW.trod] at j
 |succ n=>
  unfold DataW.trod at j;simp only[i] at j;split at j<;>simp_all;exact⟨_,rfl,j.1⟩
def Q5 {α}{p:Nat→α→Prop}:∀n,(∀i,i<n→∃x,p i x)→∃l:List α,l.length=n∧∀i x,l[i]? =some x→p i x
 |0,_=>⟨[],rfl,λi x j=>by simp at j⟩
 |n+1,j=>by
  obtain⟨l,b,c⟩:=Q5 n λi d=>j i (by omega);obtain⟨x,g⟩:=j n (by omega);refine⟨l++[x],by simp [b],λi y a=>?_⟩;rw[List.getElem?_append] at a;split at a
  ·exact c i y a
  ·rename_i d;have:i-l.length=0:=by
    have:=(uB.1 a).1;simp at this;omega
   rw[this] at a;simp at a;subst a;have:i=n:=by omega
   subst this;exact g
def Gt {P:Program}{t e:TypeId}{α}{r:A7 α}(Q:P.cellsOf t=1) (U:P.underlying t=some (.slice e)) (A:E4 P e r) (V:Nat.blt 0 r.sz=true):E4 P t (A7.sl r):=by
 refine⟨Q,λ{H enc w J B K M cs x} h=>?_⟩;have k:0<r.sz:=(by simpa [Nat.blt] using V:1≤r.sz)
 rcases open_slice U h with ⟨rfl,_⟩|⟨a,len,cap,m,n,D,Pl,rfl,hb,hlc,hcm,hm,_,hel⟩
 ·exact⟨[],_,rfl,.inl ⟨rfl,rfl⟩⟩
 ·have W:len≤m:=by rw[hm];split<;>omega
  obtain⟨l,X,C⟩:=Q5 (p:=λi x=>a.spot=none∧Pt (λb=>b<w.heap.size) w.heap r (.pointer (some ⟨a.block,a.off+i*r.sz,none⟩)) x) len λi hi=>by
   obtain⟨cs',F,G⟩:=hel i (by omega);obtain⟨y,Y⟩:=A.2 G;obtain⟨_,q,IK⟩:=World.cells?_some F;rw[A.1] at q IK;have u:a.spot=none:=by
    obtain⟨v,I,_⟩:=hel 0 (by omega);obtain⟨_,g,c⟩:=World.cells?_some I;rw[A.1] at g c;have h0:=c 0 k;have Z:(a.add (0*r.sz)).add 0=a:=by simp [Addr.add]
    rw[Z] at h0;cases hs:a.spot with
    |none=>rfl
    |some s=>
     have:w.cell? a=none:=by
      unfold World.cell?;split
      ·simp [hs]
      ·rfl
     rw[this] at h0;have:v[0]? =some (v[0]'(by omega)):=uC (by omega);rw[this] at h0;cases h0
   obtain⟨b,o,s⟩:=a;simp only at u;subst u;have d:∀j,((⟨b,o,none⟩:Addr).add (i*r.sz)).add j=⟨b,o+i*r.sz+j,none⟩:=by
    intro j;have e1:(⟨b,o,none⟩:Addr).add (i*r.sz)=⟨b,o+i*r.sz,none⟩:=by unfold Addr.add;split<;>simp_all
    rw[e1];unfold Addr.add;split<;>simp_all
   have z:b<w.heap.size:=by
    have h0:=IK 0 k;rw[d] at h0;have:cs'[0]? =some (cs'[0]'(by omega)):=uC (by omega);rw[this] at h0;exact World.block_lt_of_cell? w _ h0
   refine⟨y,rfl,cs',⟨⟨b,o+i*r.sz,none⟩,rfl,rfl,z,λj hj=>?_⟩,Y⟩;have:=IK j (by omega);rw[d] at this;exact this
  exact⟨l,_,rfl,.inr ⟨a,cap,by rw[X],by omega,hcm,C⟩⟩
def Do {P:Program}{t:TypeId}{l:Array Field}(q:P.underlying t=some (.struct l)) {H:Type}{enc:TypeId×Value→H}{w:World}{c:Nat}{a:Nat→Bool}{d:Bool}{g:Nat}{cs:List Value}{x:DataW H×List MemPlace}
  (v:DataW.trod enc P w c a d g t cs=some x):cs.length=P.cellsOf t∧∀(j:Nat) (f:Field) {z} (r:A7 z),l[j]? =some f→E4 P f.type r→∃y,r.rd (λb=>b<w.heap.size) w.heap ((cs.drop f.offset).take r.sz) y:=by
 obtain⟨xs,n,_,_,s,i,u⟩:=DataW.trod_struct q v;refine⟨s,λj f z r m o=>?_⟩;have p:=u j f m;have k:j<xs.length:=by rw[i];exact(uH.1 m).1
 rw[uC k,o.1] at p;exact o.2 p
def aK {P:Program}{t:TypeId}{l:Array Field}{α}{r:A7 α}(m:E4 P t r) (i:r.ag=true) (n:P.underlying t=some (.struct l)) {H:Type}{enc:TypeId×Value→H}{w:World}{j:Reach}{o c:Nat}{a:Nat→Bool}{g:Bool}{v:Value}{d:DataW H}{p:List MemPlace}
  (q:Value.okWide P w j o t v) (x:DataW.Trod enc P w c a g t v d p):∃y,Rd (λb=>b<w.heap.size) w.heap r v y:=by
 obtain⟨cs,rfl,_⟩:=okWide_struct n q;obtain⟨k,s⟩:=x;obtain⟨y,u⟩:=m.2 s;exact⟨y,cs.toList,by simp [A7.val,i],u⟩
def YK {v:Value}{c:Value}(b:v.cells.toList=[c]) (a:c.oneCell'=true):v=c∨∃cs,v= .agg cs:=by
 cases v<;>first|(right;exact⟨_,rfl⟩)|(left;simpa [Value.cells] using b)
def W7 {P:Program}{t:TypeId}{α}{r:A7 α}(u:E4 P t r) (m:r.ag=false) (n:r.sz=1) {H:Type}{enc:TypeId×Value→H}{w:World}{g:Nat}{a:Nat→Bool}{i:Bool}{v:Value}{d:DataW H}{p:List MemPlace}
  (o:∀cs,v≠ .agg cs) (z:DataW.Trod enc P w g a i t v d p):∃y,Rd (λb=>b<w.heap.size) w.heap r v y:=by
 obtain⟨q,x⟩:=z;obtain⟨y,l⟩:=u.2 x;have s:=r.len l;rw[n] at s
 match j:v.cells.toList,s with
 |[c],_=>
  rw[j] at l;have k:=r.one l c (by simp);rcases YK j k with rfl|⟨cs,rfl⟩
  ·exact⟨y,[v],by simp [A7.val,m],l⟩
  ·exact absurd rfl (o cs)
def ZN {P:Program}{t e:TypeId}(b:P.underlying t=some (.slice e)) {w:World}{a:Reach}{c:Nat}{v:Value}(d:Value.okWide P w a c t v):∀cs,v≠ .agg cs:=by
 rintro cs rfl;simp [Value.okWide,b,Cell.okWide,Cell.ok] at d
def iX {P:Program}{t:TypeId}{k:IntKind}(b:P.underlying t=some (.int k)) {w:World}{a:Reach}{c:Nat}{v:Value}(d:Value.okWide P w a c t v):∀cs,v≠ .agg cs:=by
 rintro cs rfl;simp [Value.okWide,b,Cell.okWide,Cell.ok] at d
def PJ {H:Type}{enc:TypeId×Value→H}{P:Program}(m:laidOutB P=true) {W n:World}(o:Below W.heap.size W n):
  ∀{j:List TypeId} {vs:List Value} {k:List (DataW H)} {b:List MemPlace},(∀t∈j,P.readableRec t=true∧t<P.types.size)→DataW.TrodAll enc P W 0 (λ_=>true) true j vs k b→(∀x∈b,x.block<W.heap.size)→
   ∀c:Nat→Bool,(∀x∈b,c x.block=true)→DataW.TrodAll enc P n 0 c true j vs k b
 |[],vs,k,b,_,C,_,c,_=>by
  obtain⟨rfl,rfl,rfl⟩:=trodAll_nil C;exact rfl
 |t::j,vs,k,b,s,C,g,c,i=>by
  obtain⟨v,u,d,w,p,q,rfl,rfl,rfl,y,z⟩:=trodAll_cons C;obtain⟨A,B⟩:=s t (by simp);refine⟨p,q,WideElems.Trod_stays m A B y (λx a=>o.same (g x (by simp [a]))) (λx a=>i x (by simp [a])),?_,rfl⟩;exact PJ m o (λt l=>s t (by simp [l])) z (λx a=>g x (by simp [a])) c λx a=>i x (by simp [a])
def ZY {H:Type}{enc:TypeId×Value→H}{P:Program}{f:Func}{s:ChangeSpec}{W l:World}{c:Array Value}{d i:List (DataW H)}{a:List MemPlace}{tb:TypeId}
  (q:laidOutB P=true) (j:f.params.toList.all (λt=>P.readableRec t&&decide (t<P.types.size))=true) (k:DataW.Whole enc P f.params.toList s.vars false W c.toList d i a)
  (u:f.resultTypes= #[tb]) (v:P.underlying tb=some .bool) (b:s.vars=[]) (w:(s.fn H (d++i)).results=[.lit (.bool true)]) (y:(s.fn H (d++i)).args=d) (z:(s.fn H (d++i)).vars=[])
  (m:Below W.heap.size W l):s.post enc P f false true false false W c (.bool true) l:=by
 have g:∀p∈a,p.block<W.heap.size:=λp A=>k.lt p A;obtain⟨n,pv,B,o,rfl,F,G⟩:=id k;rw[b] at o;obtain⟨rfl,rfl⟩:=trodVars_none o;simp only[uU] at*;refine⟨d,[],n,[],n,[],by simpa using k,?_,?_,?_,?_,λI=>by cases I⟩
 ·simp only[uU];rw[w,u];exact trodAll_mk1 (shut_bool v true)
 ·simp only[uU];rw[y];refine PJ q m (λt C=>?_) B g _ λx D=>by simpa using g x D
  have:=tS.1 j t C;simpa using this
 ·simp only[uU];rw[z,b];exact rfl
 ·exact m.frame _
def YB {P:Program}{f:FuncId}{a:Array Value}{W:World}{L:(Nat→Prop)→AW→Prop}(k:B0 P f a (λb=>b<W.heap.size) W.heap (λv S' h'=>v= .bool true∧L S' h')):
  Calls P f a W λe d=>e= .returned (.bool true)∧Below W.heap.size W d:=
 (k W W ⟨rfl,rfl,rfl,rfl⟩).mono λe d ⟨v,S',h',i,c,g,j,_⟩=>by
  subst i;subst j;exact⟨rfl,c.os,c.tape,c.out,by rw[c.heap];exact g.siz,λb l=>by rw[c.heap];exact g.same b l⟩
end Go.Proofs.YtedgiljmffngoaaGreat
