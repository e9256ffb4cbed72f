import Derived.Test.YtabonambpbofgaaGreatKPureT1
import Derived.Test.YtabonambpbofgaaGreatKPureE2
namespace Go.Proofs.YtabonambpbofgaaGreat
set_option linter.all false
open Go.RowKit
def YF {c:Prop}[Decidable c] {H a t b:Int}{y:List Int}(g:b≠ -3):∀m∈(if c then [] else [(⟨H,a,t,b,y⟩:AX)]),m.Be≠ -3:=λm d=>by
 split at d
 ·cases d
 ·rw[Acf.1 d];exact g
def Zt (p:Nat) (m:AX):Bool:=decide (m.M=(p:Int))&&decide (m.Be= -3)
def Xq {p:Nat}{l:List AX}(b:∀m∈l,m.Be≠ -3):l.filter (Zt p)=[]:=List.filter_eq_nil_iff.2 λm a=>by unfold Zt;simp [b m a]
def Tx {p q:Nat}(a:q≠p) {l:List AX}(c:∀m∈l,m.M=(q:Int)):l.filter (Zt p)=[]:=List.filter_eq_nil_iff.2 λm b=>by unfold Zt;rw[c m b];simp;omega
def iI {H:Int}{p N:Nat}{b:AF}{a:List FM}{x:List Int}:(T9 H p (Mw N b p a) x).filter (Zt p)=T9 H p (Mw N b p a) x:=Ae7.2 λm c=>by
 obtain⟨e,d,g,i⟩:=SI m c;obtain⟨t,_,rfl⟩:=Ach.1 d;unfold Zt;rw[g,i];simp [Xs]
def Ur {p:Nat}:∀{l:List AX}{o:List (List Int)}(c:∀m∈l,m.M=(p:Int)) {j:Nat}(a:p≠j),(R7 o l)[j]? =o[j]?
 |[],_,_,_,_=>rfl
 |m::l,o,c,j,a=>by
  show(R7 (upd o m.M (Jt (o.getD m.M.toNat []) m.V)) l)[j]? =_
  rw[Ur (p:=p) (l:=l) (λq b=>c q (.tail _ b)) a,c m (.head _),Jf a]
def UD {N:Nat}(J:18446744073709551616<N) {w:AM}{H:Int}{W:Nat}(X:w.s.B=H) (K:W≤64) {p:Nat}(z:p<w.b.A.length) (i:I1 w.b w.b.A[p]) {o:List (List Int)}{out:List Int}{j:List AX}{k:List AT}{rem:List Int}{M:Nat}(hM:M≤999999) (C:Js w.b.A.length W o) (h:fY W out j k M):
  ∃r l,DW N w (p:Int) w.b.A[p] o out j k rem=some r∧r.2.1=rem∧VQ w.b H N W p o out j k r.1 r.2.2.1 r.2.2.2.1 r.2.2.2.2 l∧l.length≤1∧(∀m∈l,m.Be≠ -3)∧∀x,r.1[p]? =some x→x.sum≤(w.b.A[p]).Av:=by
 have q:8000000000000<N:=by omega
 have h1:=h.mv;have h2:=h.sn;have u:=i.cap;unfold Jv at u;have D:w.b.A.getD p default=w.b.A[p]:=by simp [Acv,z]
 unfold DW;obtain⟨x,Y,d,a⟩:=C.ix z;have Z:=a.mv;have aa:=a.sum0;rw[Y,Abi,Abi,a.total q (by omega),Abi,ER (n:=x.sum-(w.b.A[p]).Av) (by omega) (by omega)];by_cases v:0<x.sum-(w.b.A[p]).Av
 ·rw[Ab3 v,Abj,Hx,Abi];have he:uI w.b W p ⟨(w.b.A[p]).Ao,(w.b.A[p]).R, -2,λy=>AL N (x.sum-(w.b.A[p]).Av) y⟩:=⟨λy c=>by obtain⟨t,e,h,_⟩:=Qc J K (x.sum-(w.b.A[p]).Av) y c;exact⟨t,e,h⟩,by show(-2:Int)≠ -4;decide,i.down,by show _=QG _ _ (-2);unfold QG;rw[Abl (by omega),Abl (by decide),D]⟩
  obtain⟨r,l,x',t,F,G,g,q3,Q,U,V⟩:=Ut q (w:=(⟨w.b,w.in_,(⟨w.s.B,o,rem,w.s.I,w.s.P,w.s.L,out⟩:AI),j,w.peaks,k⟩:AM)) X (by omega) C z he h.out (by show j.length≤_;omega) (by show k.length≤_;omega);simp only at G g Q U;rw[d] at G;cases G;obtain⟨t',e',_,ts⟩:=Qc J K (x.sum-(w.b.A[p]).Av) x a;rw[e'] at g;have g:=Abp Prod.fst (Abo g);simp only at g;subst g;rw[F,Abi];refine⟨_,l,rfl,rfl,U,by rw[V];exact Uv,by rw[V];exact YF (by show(-2:Int)≠ -3;decide),λy c=>?_⟩;have c:r.1[p]? =some y:=c;rw[Q,Hk (Aby.1 d).1] at c;rw[←Abo c,(q3.sub a).2.1,ts];omega
 ·rw[Abs v,Abk];refine⟨_,[],rfl,rfl,VQ.nil C h.out,by simp,λm hm=>(by cases hm),λy c=>?_⟩;have c:o[p]? =some y:=c;rw[d] at c;cases c;omega
def UC {N:Nat}(u:18446744073709551616<N) {w:AM}{H:Int}{W:Nat}(v:w.s.B=H) (C:W≤64) {p:Nat}(i:p<w.b.A.length) (a:I1 w.b w.b.A[p]) {o:List (List Int)}{out:List Int}{c:List AX}{d:List AT}{rem:List Int}(y:Int×Int) {M:Nat}(hM:M≤999998) (F:Js w.b.A.length W o) (h:fY W out c d M):
  ∃r l,E5 N w (p:Int) w.b.A[p] o out c d y (DW N w (p:Int) w.b.A[p]) rem=some r∧r.2.1=rem∧VQ w.b H N W p o out c d r.1 r.2.2.1 r.2.2.2.1 r.2.2.2.2 l∧l.length≤2∧(∀m∈l,m.Be≠ -3)∧∀x,r.1[p]? =some x→x.sum≤(w.b.A[p]).Av:=by
 have j:8000000000000<N:=by omega
 have h1:=h.mv;have h2:=h.sn;have k:w.b.A.getD p default=w.b.A[p]:=by simp [Acv,i]
 unfold E5;rw[Hx,Abi];have G:uI w.b W p ⟨(w.b.A[p]).Ao,(w.b.A[p]).R, -1,λx=>AL N y.1 x⟩:=⟨λz J=>by obtain⟨t,e,h,_⟩:=Qc u C y.1 z J;exact⟨t,e,h⟩,by show(-1:Int)≠ -4;decide,a.down,by show _=QG _ _ (-1);unfold QG;rw[Abl (by omega),Abl (by decide),k]⟩
 obtain⟨r,l,x',t,n,q1,q2,q3,q4,q,D⟩:=Ut j (w:=(⟨w.b,w.in_,(⟨w.s.B,o,rem,w.s.I,w.s.P,w.s.L,out⟩:AI),c,w.peaks,d⟩:AM)) v (by omega) F i G h.out (by show c.length≤_;omega) (by show d.length≤_;omega);have K:l.length≤1:=by rw[D];exact Uv
 have Q:=h.next q K;rw[n,Abi];obtain⟨r',U,V,X,Y,z3,Z,z4⟩:=UD u v C i a (rem:=rem) (M:=M+1) (by omega) q.ox Q;exact⟨r',l++U,V,X,q.trans Y,by rw[Acg];omega,λm g=>(Acb.1 g).elim (λg=>by rw[D] at g;exact YF (by show(-1:Int)≠ -3;decide) m g) (Z m),z4⟩
def cY {N:Nat}(U:8000000000000<N) {w:AM}{H:Int}{W M:Nat}(V:w.s.B=H) (hW:W≤64) {p:Nat}(X:p<w.b.A.length) (Y:Js w.b.A.length W w.s.G) (h:fY W w.s.O w.moves w.sent M) (hM:M≤900000) (a:List AD) (y:XL w.b W p a) (Z:a.length≤2000) (kj:List (List Int)→List Int→List AX→List AT→Option (List (List Int)×List Int×List Int×List AX×List AT)):
  ∃o out c d l,VQ w.b H N W p w.s.G w.s.O w.moves w.sent o out c d l∧l.length≤a.length∧(∀x,w.s.G[p]? =some x→l=T9 H p a x)∧Dn N w (p:Int) a kj N 0 w.s.G w.s.O w.moves w.sent=kj o out c d:=by
 obtain⟨⟨o,out,c,d⟩,⟨l,g,z,u⟩,e⟩:=Fs a.length (λn i (s:List (List Int)×List Int×List AX×List AT)=>Dn N w (p:Int) a kj n i s.1 s.2.1 s.2.2.1 s.2.2.2) (λs=>kj s.1 s.2.1 s.2.2.1 s.2.2.2) (λk s=>∃l,VQ w.b H N W p w.s.G w.s.O w.moves w.sent s.1 s.2.1 s.2.2.1 s.2.2.2 l∧l.length≤k∧∀x,w.s.G[p]? =some x→l=T9 H p (a.take k) x∧s.1[p]? =some (Zw (a.take k) x)) (λn k s j=>by
  simp only[Dn];rw[Fj j];rfl) (λn k s hi j=>by
  obtain⟨o,out,c,d⟩:=s;obtain⟨l,g,z,u⟩:=hi;simp only at u;simp only at g;have F:=h.next g z;have h1:=F.mv;have h2:=F.sn;simp only[Dn];rw[FD j,Abj,A9 (by omega),BF j,Abi,Abi];obtain⟨r,J,m,t,C,v,K,q3,q4,q5,Q⟩:=Ut U (w:=(⟨w.b,w.in_,(⟨w.s.B,o,w.s.N,w.s.I,w.s.P,w.s.L,out⟩:AI),c,w.peaks,d⟩:AM)) V (by omega) g.ox X (y _ (Ab2 j)) g.ol (by show c.length≤_;omega) (by show d.length≤_;omega);have hl:J.length≤1:=by rw[Q];exact Uv
  rw[C,Abi];exact⟨(_,_,_,_),⟨l++J,g.trans q5,by rw[Acg];omega,λx q=>by
   obtain⟨u1,u2⟩:=u x q;have v:o[p]? =some m:=v;have D:Zw (a.take k) x=m:=Abo (u2.symm.trans v);rw[Ac1 j,SJ,Us,←u1,D];have v1:T9 H p [a[k]] m=(if t.sum≤0 then [] else [(⟨H,(p:Int),(a[k]).to_,(a[k]).way,t⟩:AX)]):=by
    simp only[T9];rw[K];simp
   have v2:Zw [a[k]] m=Jt m t:=by
    simp only[Zw];rw[K]
   rw[v1,v2];refine⟨by rw[Q],?_⟩;show r.1[p]? =_
   rw[q4];exact Hk (Aby.1 v).1 _⟩,rfl⟩) N 0 (w.s.G,w.s.O,w.moves,w.sent) ⟨[],VQ.nil Y h.out,Ab1 _,λx q=>⟨rfl,q⟩⟩ (by omega) (Abn _)
 exact⟨o,out,c,d,l,g,z,λx q=>by have:=(u x q).1;rwa [Ack] at this,e⟩
def cX {N:Nat}(g:18446744073709551616<N) {w:AM}{H:Int}{W M:Nat}(K:w.s.B=H) (n:W≤64) (hL:w.b.C.length≤900) (ht:w.in_.U.length≤1000) (V:∀l∈w.b.C,KN w.b l) (q:∀p∈w.b.A,I1 w.b p) (hg:w.s.P.length=w.b.C.length) (X:w.peaks.length=w.b.A.length) (d:w.s.N.length=w.b.A.length) {p:Nat}(c:p<w.b.A.length) (ho:Js w.b.A.length W w.s.G) (h:fY W w.s.O w.moves w.sent M) (hM:M≤900000):
  ∃r l,HR N w (p:Int)=some r∧r.2.1.length=w.b.A.length∧VQ w.b H N W p w.s.G w.s.O w.moves w.sent r.1 r.2.2.1 r.2.2.2.1 r.2.2.2.2 l∧l.length≤w.in_.U.length+w.b.C.length+2∧(∀x,w.s.G[p]? =some x→l.filter (Zt p)=T9 H p (Mw N w.b p w.in_.U) x)∧∀x,r.1[p]? =some x→x.sum≤(w.b.A[p]).Av:=by
 have j:8000000000000<N:=by omega
 have k:=q _ (Ab2 c);have a1:=bB g (w:=w) ht c;have a2:=Ty N w.b p w.in_.U;have a3:=bD g (b:=w.b) n p w.in_.U;generalize Y:Mw N w.b p w.in_.U=l1 at a1 a2 a3
 obtain⟨Q,b1,b2,b3⟩:=dP g n (by omega) V hg X c;have Z:XL w.b W p (l1++Q):=λe he=>(Acb.1 he).elim (a3 e) λh=>(b3 e h).1;have ad:(l1++Q).length≤w.in_.U.length+w.b.C.length:=by rw[Acg];omega
 unfold HR;rw[BF c,Abi,a1,Abi,b1,Abi,Zj j _ _ (by omega) (by omega),Abi];obtain⟨o,out,ms,sn,l,i,i2,i3,e⟩:=cY j K n c ho h hM (l1++Q) Z (by omega) (F8 N w (p:Int) w.b.A[p]);have hn:=h.next i i2;rw[e];have hf:∀a:List AX,(∀m∈a,m.Be≠ -3)→∀x,w.s.G[p]? =some x→(l++a).filter (Zt p)=T9 H p l1 x:=λa aa x hx=>by
  rw[Ad2,Xq aa,Acx,i3 x hx,SJ,Ad2,Xq (l:=T9 H p Q _) (λm hm=>by obtain⟨e',ab,h1,_⟩:=SI m hm;have:=(b3 e' ab).2;omega),Acx,←Y,iI]
 unfold F8;cases decide ((w.b.A[p]).S≠0)
 ·obtain⟨r,a,t,u,v,r3,z,D⟩:=UD g K n c k (rem:=w.s.N) (by omega) i.ox hn;exact⟨r,l++a,t,by rw[u];exact d,i.trans v,by rw[Acg];omega,hf a z,D⟩
 ·have F:p<w.peaks.length:=by omega
  have I:p<w.s.N.length:=by omega
  have J:(upd w.s.N (p:Int) 0).length=w.b.A.length:=by rw[Mu];exact d
  obtain⟨x,hx,ae,ac⟩:=i.ox.ix c;obtain⟨y,hy⟩:=cD g w.b.A[p] w.peaks[p] w.s.N[p];rw[Abj,BF F,Abi,Abi,BF I,Abi,Abi,hy,Abi,Abi,Abi,hx,Abi,Abi,ac.total j (by omega),Abi];cases decide (y.1≤x.sum)
  ·obtain⟨r,a,t,u,v,r3,z,D⟩:=UC g K n c k (rem:=upd w.s.N (p:Int) 0) y (by omega) i.ox hn;exact⟨r,l++a,t,by rw[u];exact J,i.trans v,by rw[Acg];omega,hf a z,D⟩
  ·rw[Abj,BF (show p<(upd w.s.N (p:Int) 0).length by omega),Abi,Abi];obtain⟨r,a,t,u,v,r3,z,D⟩:=UC g K n c k (rem:=upd (upd w.s.N (p:Int) 0) (p:Int) y.2) y (by omega) i.ox hn;exact⟨r,l++a,t,by rw[u,Mu];exact J,i.trans v,by rw[Acg];omega,hf a z,D⟩
structure Yg (N:Nat) (b:AF) (s:AI) (ts:List FM) (o1:List (List Int)) (r:AI×List AX×List Int) (ns:List Int) (o3:List (List Int)) (l:List AX):Prop where
 nl:ns.length=b.A.length
 mlen:r.2.1.length≤100000
 ml2:r.2.1.length≤64+b.A.length*(ts.length+b.C.length+2)
 n0:∀n∈ns,0≤n
 at3:∀(p:Nat) x n,o1[p]? =some x→ns[p]? =some n→o3[p]? =some (Hw (Hw x (v1 b.H.length n)) (VC b.H.length s.B s.I p))
 ox3:Js b.A.length b.H.length o3
 os3:GH o3+Hb (ME s.B s.I)≤1125899906842624
 pk:r.2.2=o3.map List.sum
 lv:yQ b s.B N b.H.length b.A.length o3 s.O (Zu s.B b.H.length 0 ns) r.1.G r.1.O r.2.1 (l.filterMap (Md b s.B)) l
 que:r.1.I=ME s.B s.I++l.filterMap (Md b s.B)
 hour:r.1.B=BQ (s.B+1)
 inn:r.1.L=Hw s.L (v1 b.H.length ns.sum)
 tk:∀p,p<b.A.length→∀x,o3[p]? =some x→l.filter (Zt p)=T9 s.B p (Mw N b p ts) x
 cap:∀(p:Nat) (hp:p<b.A.length) x,r.1.G[p]? =some x→x.sum≤(b.A[p]).Av
structure zD (N:Nat) (b:AF) (H:Int) (ts:List FM) (o3:List (List Int)) (k:Nat) (o:List (List Int)) (l:List AX):Prop where
 tk:∀p,p<k→∀x,o3[p]? =some x→l.filter (Zt p)=T9 H p (Mw N b p ts) x
 hi:∀p,k≤p→l.filter (Zt p)=[]∧o[p]? =o3[p]?
 cap:∀(p:Nat) (hp:p<b.A.length),p<k→∀x,o[p]? =some x→x.sum≤(b.A[p]).Av
def zD.next {N:Nat}{b:AF}{H:Int}{g:List FM}{u:List (List Int)}{k W:Nat}{o i:List (List Int)}{out c:List Int}{v j:List AX}{w n:List AT}{l d:List AX}(I:zD N b H g u k o l) (G:k<b.A.length) (q:VQ b H N W k o out v w i c j n d) (y:∀x,o[k]? =some x→d.filter (Zt k)=T9 H k (Mw N b k g) x) (z:∀x,i[k]? =some x→x.sum≤(b.A[k]).Av):zD N b H g u (k+1) i (l++d):=by
 have fr:∀m∈d,m.M=(k:Int):=λm B=>(q.mv m B).fr;refine⟨λp s x a=>?_,λp s=>⟨?_,?_⟩,λp s C x a=>?_⟩
 ·rw[Ad2];by_cases e:p=k
  ·subst e;obtain⟨D,F⟩:=I.hi p (Ab1 _);rw[D,Abz];exact y x (F.trans a)
  ·rw[Tx (λt=>e t.symm) fr,Acx];exact I.tk p (by omega) x a
 ·rw[Ad2,(I.hi p (by omega)).1,Tx (by omega) fr];rfl
 ·rw[q.own,Ur fr (by omega)];exact(I.hi p (by omega)).2
 ·by_cases e:p=k
  ·subst e;exact z x a
  ·rw[q.own,Ur fr (λt=>e t.symm)] at a;exact I.cap p s (by omega) x a
def qQ (N:Nat) (p:List Int) (h0:∀x∈p,0≤x) (i:Int):∃v,K0 N p i=some v∧(0<v→∃j:Nat,i=(j:Int)∧p[j]? =some v):=by
 unfold K0;cases b:(decide (i<0)||decide ((p.length:Int)≤i)) with
 |true=>exact⟨0,rfl,λd=>absurd d (by decide)⟩
 |false=>
  simp only[Acd,Ab7] at b;obtain⟨j,c,a⟩:=mY (l:=p) (i:=i) (by omega) (by omega);have:=h0 _ (Ab2 a);rw[Abk,c,BF a,Abi,Abi,Abi,Abs (show ¬p[j]<0 by omega)];exact⟨p[j],rfl,λ_=>⟨j,rfl,Abw a⟩⟩
def jH {N W:Nat}(I:8000000000000<N) (J:W≤1000) {p:List Int}(c:PX W p) (fr to n:Int):∃r,MK N p fr to n=some r∧PX W r∧r.sum=p.sum:=by
 have s:=c.len;unfold MK;obtain⟨v,A,t⟩:=qQ N p c.nn fr;rw[Kz (by omega) _ (by decide),A,Abi,U3];cases y:(((decide (0<min n v)&&decide (0≤to))&&decide (to<(p.length:Int)))&&decide (fr≠to))
 ·exact⟨p,rfl,c,rfl⟩
 ·simp only[Abq,Ab6] at y;obtain⟨⟨⟨K,B⟩,C⟩,M⟩:=y;obtain⟨j,D,d⟩:=t (by omega);obtain⟨k,F,a⟩:=mY (l:=p) (i:=to) B C;have g:=(Aby.1 d).1;have m:=(Aby.1 d).2;have o:j≠k:=by omega
  have G:=c.mem (Acy d);have H:=c.mem (Ab2 a);have b:k<(upd p (j:Int) (v-min n v)).length:=by rw[Mu];exact a
  have u:(upd p (j:Int) (v-min n v))[k]=p[k]:=by
   have:(upd p (j:Int) (v-min n v))[k]? =p[k]? :=Jf o _;rw[Abw b,Abw a] at this;exact Abo this
  rw[Abj,D,BF g,m];simp only[Abi];rw[ER (n:=v-min n v) (by omega) (by omega),F,BF b,u];simp only[Abi];rw[VD N (by omega) (by omega) (by omega) (by omega),Abi];have z:(upd (upd p (j:Int) (v-min n v)) (k:Int) (p[k]+min n v)).sum=p.sum:=by
   have w:(p.set j (v-min n v))[k]'(by simpa using a)=p[k]:=List.getElem_set_ne o _;unfold upd;rw[Acs,Acs,N1 (by simpa using a),N1 g,w,m];omega
  refine⟨_,rfl,⟨by rw[Mu,Mu];exact s,λx q=>?_,by rw[z];exact c.mv⟩,z⟩;rcases Aez q with q|rfl
  ·rcases Aez q with q|rfl
   ·exact c.nn x q
   ·omega
  ·omega
def iM {N:Nat}(v:8000000000000<N) {w:AM}{W:Nat}(B:W≤1000) (U:w.in_.Ae.length≤1000) (C:Js w.b.A.length W w.s.G):∃o,Fu N w=some o∧Js w.b.A.length W o∧o.map List.sum=w.s.G.map List.sum:=by
 unfold Fu;obtain⟨o,⟨F,I⟩,e⟩:=Fs w.in_.Ae.length (λn i l=>DD N w n i l) (λl=>some l) (λ_ l=>Js w.b.A.length W l∧l.map List.sum=w.s.G.map List.sum) (λn k l d=>by
  simp only[DD];rw[Fj d];rfl) (λn k l a d=>by
  obtain⟨a,c⟩:=a;simp only[DD,HA];rw[FD d,Abj,BF d,A9 (by omega)];simp only[Abi,Nm,Gy,QI];generalize w.in_.Ae[k]=x
  cases g:(((decide (0≤x.Ap)&&decide (x.Ap<(w.b.A.length:Int)))&&(decide (0≤x.M)&&decide (x.M<(w.b.H.length:Int))))&&(decide (0≤x.D)&&decide (x.D<(w.b.H.length:Int))))
  ·exact⟨l,⟨a,c⟩,rfl⟩
  ·simp only[Abq,Ab6] at g;obtain⟨j,J,m⟩:=mY (l:=l) g.1.1.1 (by rw[a.len];exact g.1.1.2);obtain⟨y,K,p,q⟩:=a.ix (k:=j) (by rw[←a.len];exact m);obtain⟨z,Q,t,u⟩:=jH v B q x.M x.D x.Bd;rw[Abj,J];simp only[K,Abi];rw[Q,Abi];exact⟨_,⟨a.upd _ t,by rw[←c];exact(show(upd l (j:Int) z).map List.sum=upd (l.map List.sum) (j:Int) y.sum by unfold upd;rw[List.map_set,u]).trans (Vz (by rw[Adc,p];rfl))⟩,rfl⟩) N 0 w.s.G ⟨C,rfl⟩ (by omega) (Abn _)
 exact⟨o,e,F,I⟩
def Wy (N:Nat) {w w':AM}(a:w.b=w'.b) (c:w.in_=w'.in_) (n:Nat):∀(i:Int) (l:List (List Int)),DD N w n i l=DD N w' n i l:=by
 induction n with
 |zero=>intro i l;rfl
 |succ n d=>intro i l;simp only[DD,HA,a,c,d]
def Vs {N:Nat}(d:8000000000000<N) {b:AF}{s:AI}{in_:B3}{W:Nat}(g:W≤1000) (i:in_.Ae.length≤1000) (j:Js b.A.length W s.G):∃o,(∀a:List A4,Fu N (⟨b,in_,({ s with P:=a}:AI),([]:List AX),(List.replicate ((b.A.length:Int)).toNat (0:Int)),([]:List AT)⟩:AM)=some o)∧Js b.A.length W o∧GH o=GH s.G∧o.map List.sum=s.G.map List.sum:=by
 obtain⟨o,e,k,c⟩:=iM d (w:=(⟨b,in_,s,([]:List AX),[],([]:List AT)⟩:AM)) g i j;refine⟨o,λa=>?_,k,by unfold GH;rw[c],c⟩;rw[←e];exact Wy N (w:=(⟨b,in_,({ s with P:=a}:AI),([]:List AX),(List.replicate ((b.A.length:Int)).toNat (0:Int)),([]:List AT)⟩:AM)) (w':=(⟨b,in_,s,([]:List AX),[],([]:List AT)⟩:AM)) rfl rfl N 0 s.G
def gk (R:List Int) (k:Nat):Int:=min (max (R.getD k 0) 0) 1125899906842624
def Wq (R:List Int):Nat→Int
 |0=>0
 |k+1=>Wq R k+gk R k
def VP (R l:List Int):Prop:=∀(i:Nat) n,l[i]? =some n→n≤gk R i
def VP.snoc {R l:List Int}(m:VP R l) {k:Nat}(b:l.length=k) {n:Int}(c:n≤gk R k):VP R (l++[n]):=λi x a=>by
 rcases Ab4 i k with d|d
 ·rw[Ae2 (by omega)] at a;exact m i x a
 ·have g:=(Aby.1 a).1;rw[Acg,List.length_singleton] at g;have j:i=k:=by omega
  subst j;rw[Ae3 (by omega),b,Nat.sub_self] at a;cases a;exact c
def VP.take {R l:List Int}(g:VP R l):∀d k,k+d≤l.length→Wq R k-(l.take k).sum≤Wq R (k+d)-(l.take (k+d)).sum
 |0,k,_=>Acj _
 |d+1,k,a=>by
  have b:=VP.take g d k (by omega);have c:=g (k+d) _ (Abw (show k+d<l.length by omega));rw[show k+(d+1)=(k+d)+1 by omega,Ke (show k+d<l.length by omega)];simp only[Wq];omega
def VP.sum {R l:List Int}(a:VP R l):l.sum≤Wq R l.length:=by
 have:=VP.take a l.length 0 (by omega);rw[Aco,Ack,Adg] at this;simp only[Wq,List.sum_nil] at this;omega
def Aaw {R l:List Int}(j:VP R l) (g:l.sum=Wq R l.length) (i:Nat) (b:i<l.length):l[i]? =some (gk R i):=by
 have c:=VP.take j i 0 (by omega);have a:=VP.take j (l.length-(i+1)) (i+1) (by omega);have d:=VP.take j 1 i (by omega);rw[Aco,Adg] at c;rw[show i+1+(l.length-(i+1))=l.length by omega,Ack] at a;rw[Ke b] at a d;simp only[Wq,List.sum_nil] at c a d;rw[Abw b,show l[i]=gk R i by omega]
def iV {N:Nat}(hN:8000000000000<N) {w:AM}{W:Nat}(hW:w.b.H.length=W) (h1:1≤W) (aw:W≤16) (hP:w.b.A.length≤64) (K:Js w.b.A.length W w.s.G) (hq:w.s.I.length≤4000000000000) (v:QX w.b.A.length W w.s.I) (ht:GH w.s.G+Hb w.s.I≤1125899906842624) (U:w.s.L.length=W) (p:∀x∈w.s.L,0≤x) (ae:w.s.L.sum≤1152921504606846976) (hm:w.moves=[]):
  ∃l r,Jk N w=some (r.2.2.2.1,r.2.2.2.2,r.2.2.1)∧Aap w W w.b.A.length l r∧VP w.in_.T l∧(l.sum=Wq w.in_.T w.b.A.length∨r.1=1125899906842624∨r.2.1=1152921504606846976):=by
 have ax:=K.len;have aj:=(IR v 0).2;rw[Adg,show Hb ([]:List AT)=0 from rfl] at aj;unfold Jk;obtain⟨s1,i1,e1⟩:=Fs w.s.G.length (λn i s=>Er N w (Et N w) n s i) (Et N w) (λk s=>s=GH (w.s.G.take k)) (λn k s g=>by
  simp only[Er];rw[Fj g];rfl) (λn k s X g=>by
  have C:=K.all _ (Ab2 g);have h2:=N7 K (k+1);rw[Np g] at h2;have h3:=C.sum0;have h4:=(N7 K k).1;simp only[Er];rw[FD g,Abj,BF g,Abi,Abi,C.total hN (by omega),Abi,A9 (by omega),ER (n:=s+(w.s.G[k]).sum) (by omega) (by omega)];exact⟨_,by rw[Np g,X],rfl⟩) N 0 0 rfl (by omega) (Abn _)
 rw[show Er N w (Et N w) N 0 0=Et N w s1 from e1];rw[Ack] at i1;have ay:=K.sum0;unfold Et;obtain⟨s2,i2,e2⟩:=Fs w.s.I.length (λn i s=>Eq N w (Es N w) n s i) (Es N w) (λk s=>s=GH w.s.G+Hb (w.s.I.take k)) (λn k s g=>by
  simp only[Eq];rw[Fj g];rfl) (λn k s X g=>by
  have C:=(v _ (Ab2 g)).1;have h2:=IR v (k+1);rw[Mp g] at h2;have h3:=C.sum0;have h4:=(IR v k).1;simp only[Eq];rw[FD g,Abj,BF g,Abi,C.total hN (by omega),Abi,A9 (by omega),ER (n:=s+(w.s.I[k]).V.sum) (by omega) (by omega)];exact⟨_,by rw[Mp g,X];omega,rfl⟩) N 0 s1 (by rw[i1,Adg];simp [Hb]) (by omega) (Abn _)
 rw[show Eq N w (Es N w) N s1 0=Es N w s2 from e2];rw[Ack] at i2;have az:=Ka p;unfold Es;rw[Vo hN (by omega) p (by omega),Abi];obtain⟨s,⟨l,i3,i4⟩,e⟩:=Fs w.b.A.length (λn i (s:Int×Int×List AX×List (List Int)×List Int)=>DT N w n s.1 s.2.1 i s.2.2.1 s.2.2.2.1 s.2.2.2.2) (λs=>some (s.2.2.2.1,s.2.2.2.2,s.2.2.1)) (λk s=>∃l,Aap w W k l s∧VP w.in_.T l∧(l.sum=Wq w.in_.T k∨s.1=1125899906842624∨s.2.1=1152921504606846976)) (λn k s g=>by
  simp only[DT];rw[Fj g];rfl) (λn k s X g=>by
  obtain⟨a,c,ms,o,j⟩:=s;obtain⟨l,⟨Y,q2,q3,Z,q5,q6,⟨q7,q8⟩,q9,⟨D,af⟩,aa⟩,qp,qm⟩:=X;simp only at q3 Z q5 q6 q7 q8 q9 D af aa qm;have a0:=Z.sum0;have ak:=Ka q2;obtain⟨x,C,F,q⟩:=Z.ix g;obtain⟨x1,a1,M,aq⟩:=K.ix g;have al:x=x1:=by rw[q6 k (Ab1 _),M] at F;exact(Abo F).symm
  have hj:∀m:Int,m≤1125899906842624-a→m≤1152921504606846976-c→(max m 0≤gk w.in_.T k∧(l.sum+max m 0=Wq w.in_.T (k+1)∨a+max m 0=1125899906842624∨c+max m 0=1152921504606846976))→∃s':Int×Int×List AX×List (List Int)×List Int,(∃l,Aap w W (k+1) l s'∧VP w.in_.T l∧(l.sum=Wq w.in_.T (k+1)∨s'.1=1125899906842624∨s'.2.1=1152921504606846976))∧HX N w a c (k:Int) ms o j (Ga N (k:Int) (DT N w n)) m=DT N w n s'.1 s'.2.1 ((k+1:Nat):Int) s'.2.2.1 s'.2.2.2.1 s'.2.2.2.2:=λm a2 a3 a4=>by
   unfold HX Ga;rw[A9 (by omega)];by_cases ag:m≤0
   ·rw[Ab3 ag,Abj];refine⟨(a,c,ms,o,j),⟨l++[0],⟨by simp [Y],λn d=>?_,?_,Z,λi y n hy d=>?_,λi X=>q6 i (by omega),⟨q7,q8⟩,by rw[Adh];simpa using q9,⟨by rw[Adh];simpa using D,af⟩,by rw[Adh];simpa using aa⟩,qp.snoc Y (by omega),by show _∨a=_∨c=_;rw[show (l++[(0:Int)]).sum=l.sum by simp];omega⟩,rfl⟩
    ·rcases Acb.1 d with d|d
     ·exact q2 n d
     ·rw[Acf.1 d];exact Acj 0
    ·show ms=_
     rw[Ss,Abl (by omega),Acx];exact q3
    ·show o[i]? =_
     by_cases ab:i<k
     ·rw[Ae2 (by omega)] at d;exact q5 i y n hy d
     ·have t:i=k:=by
       have:=(Aby.1 d).1;simp at this;omega
      subst t;rw[Ae3 (by omega),Y,Nat.sub_self] at d;cases d;rw[Xm,Tv (K.all y (Acy hy)).len,q6 i (Ab1 _),hy]
   ·have a5:=Z.le F;have hv:=mA h1 (n:=m) (by omega) (by omega);have ah:=Ub h1 m;obtain⟨x0,ac⟩:=Df.ix (l:=x) (i:=0) (Acj _) (by rw[q.len];omega);have ar:=q.mem (Acy (F6 ac).2);have ai:j.length=W:=by rw[q9];exact QV U (SZ _ _)
    obtain⟨y0,J⟩:=Df.ix (l:=j) (i:=0) (Acj _) (by omega);have u:∀z∈j,0≤z:=by
     rw[q9];refine SE p λz hz=>?_;rcases Aez hz with hz|rfl
     ·rw[(List.mem_replicate.1 hz).2];exact Acj 0
     ·exact ak
    have am:j.sum=c:=by rw[q9,L9 (by rw[U,SZ]),Ub h1,D]
    have au:=Jb u _ (Acy (F6 J).2);have av:=u _ (Acy (F6 J).2);obtain⟨z0,an⟩:=Df.ix (l:=List.replicate ((w.b.H.length:Int)).toNat (0:Int)) (i:=0) (Acj _) (by rw[N5];omega);have a6:=Uj w.s.B W l 0;rw[Abs ag,Abk,C,Abi,Abi,ac,Abi,Abi,J,Abi,Abi,Abi,Abi,Kz (by omega) _ (by decide),an,Abi,Abi,GZ (by rw[q3];simp;omega),ER (n:=a+m) (by omega) (by omega),ER (n:=c+m) (by omega) (by omega),ER (n:=x0+m) (by omega) (by omega),ER (n:=y0+m) (by omega) (by omega),Xl q.len h1 m x0 ac,Xl ai h1 m y0 J];have ao:PX W (Hw x (v1 W m)):=q.add hv (by rw[ah];omega);have Q:GH (upd o (k:Int) (Hw x (v1 W m)))=GH o+m:=by
     rw[Qk F,L9 (q.len.trans hv.len.symm),ah];omega
    have ap:List.replicate ((w.b.H.length:Int)).toNat (0:Int)=List.replicate W 0:=by rw[hW];rfl
    refine⟨(a+m,c+m,ms++[⟨w.s.B, -1,(k:Int), -4,upd (List.replicate ((w.b.H.length:Int)).toNat (0:Int)) 0 m⟩],upd o (k:Int) (Hw x (v1 W m)),Hw j (v1 W m)),⟨l++[m],⟨by simp [Y],λn d=>?_,?_,Z.upd _ ao,λi y n hy d=>?_,λi X=>?_,⟨?_,by show a+m≤_;omega⟩,?_,⟨?_,by show c+m≤_;omega⟩,?_⟩,qp.snoc Y (by omega),by show _∨a+m=_∨c+m=_;rw[show (l++[m]).sum=l.sum+m by simp];omega⟩,rfl⟩
    ·rcases Acb.1 d with d|d
     ·exact q2 n d
     ·rw[Acf.1 d];omega
    ·show ms++_=_
     rw[Ss,Abm (by omega),q3,ap,Aco,Y];rfl
    ·show(upd o (k:Int) _)[i]? =_
     by_cases ab:k=i
     ·subst ab;rw[Ae3 (by omega),Y,Nat.sub_self] at d;cases d;rw[Hk (by rw[Z.len];exact g),al];rw[M] at hy;cases hy;rfl
     ·have t:i<l.length:=by
       have:=(Aby.1 d).1;simp at this;omega
      rw[Jf ab];rw[Ae2 t] at d;exact q5 i y n hy d
    ·show(upd o (k:Int) _)[i]? =_
     rw[Jf (by omega)];exact q6 i (by omega)
    ·show a+m=GH _+_
     rw[Q];omega
    ·show Hw j (v1 W m)=_
     rw[q9,Adh,SY];rw[oP h1];simp
    ·show c+m=_
     rw[Adh,D];simp;omega
    ·show GH _=_
     rw[Q,aa,Adh];simp;omega
  simp only[DT];rw[FD g,Abj];cases hr:decide ((k:Int)<(w.in_.T.length:Int))
  ·have hr:=Aev hr;have ad:w.in_.T.getD k 0=0:=by rw[Acv,Acc (by omega)];rfl
   exact hj 0 (by omega) (by omega) (by simp only[Wq,gk,ad];omega)
  ·have hr:=Ac9 hr;have a7:0≤c:=by omega
   rw[Abj,BF (show k<w.in_.T.length by omega),Abi,ER (n:=1125899906842624-a) (by omega) (by omega),ER (n:=1152921504606846976-c) (by omega) (by omega)];have ad:w.in_.T.getD k 0=w.in_.T[k]:=by simp [Acv,show k<w.in_.T.length by omega]
   exact hj _ (by omega) (by omega) (by simp only[Wq,gk,ad];omega)) N 0 (s2,w.s.L.sum,w.moves,w.s.G,w.s.L) ⟨[],⟨rfl,λn d=>(by cases d),hm,K,λi x n _ d=>(by cases d),λi _=>rfl,⟨by show s2=_;rw[i2],by show s2≤_;omega⟩,by
    show w.s.L=Hw _ (v1 W 0)
    rw[Xm,Tv U],⟨by show w.s.L.sum=_;simp,ae⟩,by simp⟩,(λi x C=>by cases C),.inl rfl⟩ (by omega) (Abn _)
 exact⟨l,s,e,i3,i4⟩
structure Aax (N:Nat) (b:AF) (s:AI) (in_:B3) (o1:List (List Int)) (gs:List A4) (o2:List (List Int)) (inn:List Int) (ms:List AX) (z:List (List Int)×List AT×List A4×List Int) (ns:List Int):Prop where
 eg:HQ N (⟨b,in_,s,([]:List AX),(List.replicate ((b.A.length:Int)).toNat (0:Int)),([]:List AT)⟩:AM)=some gs
 ez:F9 N (⟨b,in_,(⟨s.B,o2,s.N,s.I,gs,inn,s.O⟩:AI),ms,(List.replicate ((b.A.length:Int)).toNat (0:Int)),([]:List AT)⟩:AM)=some z
 nl:ns.length=b.A.length
 n0:∀n∈ns,0≤n
 ms_:ms=Zu s.B b.H.length 0 ns
 at3:∀(p:Nat) x n,o1[p]? =some x→ns[p]? =some n→z.1[p]? =some (Hw (Hw x (v1 b.H.length n)) (VC b.H.length s.B s.I p))
 own:Js b.A.length b.H.length z.1
 rest:z.2.1=ME s.B s.I
 pk:z.2.2.2=z.1.map List.sum
 gl:z.2.2.1.length=b.C.length
 inn_:inn=Hw s.L (v1 b.H.length ns.sum)
 tot:GH z.1+Hb (ME s.B s.I)=GH s.G+Hb s.I+ns.sum
 tot2:GH s.G+Hb s.I+ns.sum≤1125899906842624
 pw:VP in_.T ns
 max_:ns.sum=Wq in_.T b.A.length∨GH s.G+Hb s.I+ns.sum=1125899906842624∨s.L.sum+ns.sum=1152921504606846976
 ins:s.L.sum+ns.sum≤1152921504606846976
def bI {N:Nat}(hN:18446744073709551616<N) {b:AF}(F:IG b) (J:∀l∈b.C,KN b l) (ae:∀p∈b.A,I1 b p) {s:AI}(d:Aan b s) (hq:s.I.length≤4000000000000) {in_:B3}(h1:in_.Ab.length≤1000) (h2:in_.Ac.length≤1000) (h3:in_.U.length≤1000) {t:List (List Int)}(h4:∀j:List A4,Fu N (⟨b,in_,({ s with P:=j}:AI),([]:List AX),(List.replicate ((b.A.length:Int)).toNat (0:Int)),([]:List AT)⟩:AM)=some t) (K:Js b.A.length b.H.length t) (M:GH t=GH s.G):
  ∃j m g o z Q,He N b s in_=FO N b in_ s (m,g,o) z (FP N s (m,g,o) z) N 0 z.1 s.N s.O o ([]:List AT)∧Aax N b s in_ t j m g o z Q:=by
 have hP:=F.pl;have hL:=F.li;have hW:=F.own;have V:=F.own1;have i:8000000000000<N:=by omega
 unfold He;rw[UO i (by have:=d.own.len;omega) (λx X=>by have:=(d.own.all x X).len;omega) (by have:=d.rem;omega) (by have:=d.gates;omega) (by have:=d.inn;omega) (by have:=d.out;omega),Abi,Kz (by omega) _ (by decide)];have Y:Y2 b.C.length s.P (Aa7 s):=⟨d.gates,λk hk=>by
  have:k<s.P.length:=by rw[d.gates];exact hk
  simp [Aa7,Acv,this]⟩
 obtain⟨j,eg,hg⟩:=cU i (w:=(⟨b,in_,s,([]:List AX),(List.replicate ((b.A.length:Int)).toNat (0:Int)),([]:List AT)⟩:AM)) rfl (show b.C.length≤1000 by omega) h1 h2 Y;rw[eg,Abi];have Z:=h4 j;rw[Z,Abi];obtain⟨Q,⟨a,c,o,m,g⟩,ey,⟨q1,q2,q3,q4,q5,q6,⟨q7,q8⟩,q9,⟨aa,ab⟩,ac⟩,qp,qm⟩:=iV i (w:=(⟨b,in_,(⟨s.B,t,s.N,s.I,j,s.L,s.O⟩:AI),([]:List AX),(List.replicate ((b.A.length:Int)).toNat (0:Int)),([]:List AT)⟩:AM)) (W:=b.H.length) rfl V hW hP K hq d.que (by show GH t+Hb s.I≤_;rw[M];exact d.tot) d.inn d.inn0 d.inns rfl;simp only at q1 q2 q3 q4 q5 q6 q7 q8 q9 aa ab ac qm ey;rw[ey,Abi];obtain⟨z,ez,⟨u,v,q,y,ad⟩,D⟩:=tE i (w:=(⟨b,in_,(⟨s.B,m,s.N,s.I,j,g,s.O⟩:AI),o,(List.replicate ((b.A.length:Int)).toNat (0:Int)),([]:List AT)⟩:AM)) (W:=b.H.length) rfl hW hP hL J q4 hq d.que (by show GH m+Hb s.I≤_;omega) (N5 _ _) hg.1;simp only at u v q y ad D;rw[ez,Abi];exact⟨j,m,g,o,z,Q,rfl,⟨eg,ez,q1,q2,q3,λp x n X hn=>v p _ (q5 p x n X hn),u,q,y,D,q9,by rw[←q];omega,by omega,qp,by omega,by omega⟩⟩
def Xu {N:Nat}(hN:18446744073709551616<N) {b:AF}(D:IG b) (F:∀l∈b.C,KN b l) (j:∀p∈b.A,I1 b p) {s:AI}(X:Aan b s) (hq:s.I.length≤4000000000000) {in_:B3}(h1:in_.Ab.length≤1000) (h2:in_.Ac.length≤1000) (h3:in_.U.length≤1000) {Y:List (List Int)}(h4:∀gs:List A4,Fu N (⟨b,in_,({ s with P:=gs}:AI),([]:List AX),(List.replicate ((b.A.length:Int)).toNat (0:Int)),([]:List AT)⟩:AM)=some Y) (aa:Js b.A.length b.H.length Y) (ab:GH Y=GH s.G):
  ∃r d o3 l,He N b s in_=some r∧Yg N b s in_.U Y r d o3 l∧GH o3+Hb (ME s.B s.I)=GH s.G+Hb s.I+d.sum∧VP in_.T d∧(d.sum=Wq in_.T b.A.length∨GH s.G+Hb s.I+d.sum=1125899906842624∨s.L.sum+d.sum=1152921504606846976)∧s.L.sum+d.sum≤1152921504606846976:=by
 have hP:=D.pl;have hL:=D.li;have hW:=D.own;have ad:=D.own1;have ae:8000000000000<N:=by omega
 obtain⟨gs,y,a,g,z,d,eS,h⟩:=bI hN D F j X hq h1 h2 h3 h4 aa ab;have q1:=h.nl;have q2:=h.n0;have q3:=h.ms_;have u:=h.own;have J:=h.rest;have K:=h.pk;have ac:=h.gl;have k1:=h.tot;have k2:=h.tot2;have af:=Uj s.B b.H.length d 0;obtain⟨⟨o,rm,out,c,Z⟩,⟨l,i1,q,v,M⟩,e⟩:=Fs b.A.length (λn i (t:List (List Int)×List Int×List Int×List AX×List AT)=>FO N b in_ s (y,a,g) z (FP N s (y,a,g) z) n i t.1 t.2.1 t.2.2.1 t.2.2.2.1 t.2.2.2.2) (λt=>FP N s (y,a,g) z t.1 t.2.1 t.2.2.1 t.2.2.2.1 t.2.2.2.2) (λk t=>∃l,t.2.1.length=b.A.length∧yQ b s.B N b.H.length k z.1 s.O g t.1 t.2.2.1 t.2.2.2.1 t.2.2.2.2 l∧fY b.H.length t.2.2.1 t.2.2.2.1 t.2.2.2.2 (64+k*(in_.U.length+b.C.length+2))∧zD N b s.B in_.U z.1 k t.1 l) (λn k t Q=>by
  simp only[FO];rw[Fj Q];rfl) (λn k t hi Q=>by
  obtain⟨o,rm,out,c,Z⟩:=t;obtain⟨l,i1,q,v,M⟩:=hi;simp only at i1 q v M;simp only[FO];have V:k*(in_.U.length+b.C.length+2)≤64*(1000+96+2):=Aej (by omega) (by omega);obtain⟨r,l',er,r1,r2,r3,r5,r4⟩:=cX hN (w:=(⟨b,in_,(⟨s.B,o,rm,z.2.1,z.2.2.1,a,out⟩:AI),c,z.2.2.2,Z⟩:AM)) (H:=s.B) (W:=b.H.length) rfl (by omega) (by show b.C.length≤_;omega) h3 F j ac (by show z.2.2.2.length=_;rw[K,Aep];exact u.len) i1 Q q.ox v (by omega);rw[FD Q,Abj,er,Abi,A9 (by omega)];have hM:64+(k+1)*(in_.U.length+b.C.length+2)=64+k*(in_.U.length+b.C.length+2)+(in_.U.length+b.C.length+2):=by rw[Adf];omega
  exact⟨(_,_,_,_,_),⟨l++l',r1,q.next r2,by rw[hM];exact v.next r2 r3,M.next Q r2 r5 r4⟩,rfl⟩) N 0 (z.1,s.N,s.O,g,[]) ⟨[],X.rem,⟨λm hm=>(by cases hm),.nil,by simp,rfl,rfl,rfl,trivial,u,X.out,by simp [Ls]⟩,⟨X.out,by show g.length≤_;rw[q3];omega,by simp⟩,⟨λp hp=>(by omega),λp _=>⟨rfl,rfl⟩,λp _ hp=>(by omega)⟩⟩ (by omega) (Abn _)
 rw[eS,show FO N b in_ s (y,a,g) z (FP N s (y,a,g) z) N 0 z.1 s.N s.O g ([]:List AT)=FP N s (y,a,g) z o rm out c Z from e];simp only at q v;have V:b.A.length*(in_.U.length+b.C.length+2)≤64*(1000+96+2):=Aej hP (by omega);have ag:=v.sn;have ah:=v.mv;have ai:z.2.1.length≤s.I.length:=by rw[J];exact Afd _ _
 unfold FP;rw[GZ (by omega)];refine⟨_,d,z.1,l,rfl,⟨q1,by show c.length≤_;omega,by show c.length≤_;omega,q2,h.at3,u,by omega,K,?_,?_,rfl,h.inn_,M.tk,λp hp x hx=>M.cap p hp hp x hx⟩,h.tot,h.pw,h.max_,h.ins⟩
 ·rw[←q.sn_,←q3];exact q
 ·show z.2.1++Z=_
  rw[J,q.sn_]
end Go.Proofs.YtabonambpbofgaaGreat
