import Derived.Test.YtabonambpbofgaaGreatNPureT1
import Derived.Test.YtabonambpbofgaaGreatNPureE2
namespace Go.Proofs.YtabonambpbofgaaGreat
set_option linter.all false
open Go.RowKit
def Ya {c:Prop}[Decidable c] {H a t b:Int}{y:List Int}(g:b≠ -3):∀m∈(if c then [] else [(⟨H,a,t,b,y⟩:AX)]),m.Bf≠ -3:=λm d=>by
 split at d
 ·cases d
 ·rw[Ac3.1 d];exact g
def Z6 (p:Nat) (m:AX):Bool:=decide (m.M=(p:Int))&&decide (m.Bf= -3)
def X9 {p:Nat}{l:List AX}(b:∀m∈l,m.Bf≠ -3):l.filter (Z6 p)=[]:=List.filter_eq_nil_iff.2 λm a=>by unfold Z6;simp [b m a]
def UF {p q:Nat}(a:q≠p) {l:List AX}(c:∀m∈l,m.M=(q:Int)):l.filter (Z6 p)=[]:=List.filter_eq_nil_iff.2 λm b=>by unfold Z6;rw[c m b];simp;omega
def iZ {H:Int}{p N:Nat}{b:AF}{a:List FL}{x:List Int}:(UP H p (NA N b p a) x).filter (Z6 p)=UP H p (NA N b p a) x:=Afz.2 λm c=>by
 obtain⟨e,d,g,i⟩:=Sc m c;obtain⟨t,_,rfl⟩:=Adb.1 d;unfold Z6;rw[g,i];simp [YB]
def U6 {p:Nat}:∀{l:List AX}{o:List (List Int)}(c:∀m∈l,m.M=(p:Int)) {j:Nat}(a:p≠j),(SU o l)[j]? =o[j]?
 |[],_,_,_,_=>rfl
 |m::l,o,c,j,a=>by
  show(SU (upd o m.M (Jx (o.getD m.M.toNat []) m.V)) l)[j]? =_
  rw[U6 (p:=p) (l:=l) (λq b=>c q (.tail _ b)) a,c m (.head _),Jj a]
def UT {N:Nat}(K:18446744073709551616<N) {w:AM}{H:Int}{W:Nat}(Y:w.s.B=H) (Q:W≤64) {p:Nat}(z:p<w.b.A.length) (i:I2 w.b w.b.A[p]) {o:List (List Int)}{out:List Int}{j:List AX}{k:List AT}{rem:List Int}{M:Nat}(hM:M≤999999) (C:Jw w.b.A.length W o) (h:gW W out j k M):
  ∃r l,DN N w (p:Int) w.b.A[p] o out j k rem=some r∧r.2.1=rem∧Vg w.b H N W p o out j k r.1 r.2.2.1 r.2.2.2.1 r.2.2.2.2 l∧l.length≤1∧(∀m∈l,m.Bf≠ -3)∧∀x,r.1[p]? =some x→x.sum≤(w.b.A[p]).Av:=by
 have q:8000000000000<N:=by omega
 have h1:=h.mv;have h2:=h.sn;have u:=i.cap;unfold J0 at u;have F:w.b.A.getD p default=w.b.A[p]:=by simp [Adp,z]
 unfold DN;obtain⟨x,Z,d,a⟩:=C.ix z;have aa:=a.mv;have ab:=a.sum0;rw[Z,Acb,Acb,a.total q (by omega),Acb,EM (n:=x.sum-(w.b.A[p]).Av) (by omega) (by omega)];by_cases v:0<x.sum-(w.b.A[p]).Av
 ·rw[Acx v,Acc,Hy,Acb];have he:vK w.b W p ⟨(w.b.A[p]).Ao,(w.b.A[p]).R, -2,λy=>AL N (x.sum-(w.b.A[p]).Av) y⟩:=⟨λy c=>by obtain⟨t,e,h,_⟩:=Qr K Q (x.sum-(w.b.A[p]).Av) y c;exact⟨t,e,h⟩,by show(-2:Int)≠ -4;decide,i.down,by show _=QV _ _ (-2);unfold QV;rw[Ace (by omega),Ace (by decide),F]⟩
  obtain⟨r,l,x',t,G,J,g,q3,U,V,X⟩:=U8 q (w:=(⟨w.b,w.in_,(⟨w.s.B,o,rem,w.s.I,w.s.P,w.s.D,out⟩:AI),j,w.peaks,k⟩:AM)) Y (by omega) C z he h.out (by show j.length≤_;omega) (by show k.length≤_;omega);simp only at J g U V;rw[d] at J;cases J;obtain⟨t',e',_,ts⟩:=Qr K Q (x.sum-(w.b.A[p]).Av) x a;rw[e'] at g;have g:=Ach Prod.fst (Acg g);simp only at g;subst g;rw[G,Acb];refine⟨_,l,rfl,rfl,V,by rw[X];exact VA,by rw[X];exact Ya (by show(-2:Int)≠ -3;decide),λy c=>?_⟩;have c:r.1[p]? =some y:=c;rw[U,Hl (Acq.1 d).1] at c;rw[←Acg c,(q3.sub a).2.1,ts];omega
 ·rw[Ack v,Acd];refine⟨_,[],rfl,rfl,Vg.nil C h.out,by simp,λm hm=>(by cases hm),λy c=>?_⟩;have c:o[p]? =some y:=c;rw[d] at c;cases c;omega
def US {N:Nat}(u:18446744073709551616<N) {w:AM}{H:Int}{W:Nat}(v:w.s.B=H) (C:W≤64) {p:Nat}(i:p<w.b.A.length) (a:I2 w.b w.b.A[p]) {o:List (List Int)}{out:List Int}{c:List AX}{d:List AT}{rem:List Int}(y:Int×Int) {M:Nat}(hM:M≤999998) (G:Jw w.b.A.length W o) (h:gW W out c d M):
  ∃r l,Ex N w (p:Int) w.b.A[p] o out c d y (DN N w (p:Int) w.b.A[p]) rem=some r∧r.2.1=rem∧Vg w.b H N W p o out c d r.1 r.2.2.1 r.2.2.2.1 r.2.2.2.2 l∧l.length≤2∧(∀m∈l,m.Bf≠ -3)∧∀x,r.1[p]? =some x→x.sum≤(w.b.A[p]).Av:=by
 have j:8000000000000<N:=by omega
 have h1:=h.mv;have h2:=h.sn;have k:w.b.A.getD p default=w.b.A[p]:=by simp [Adp,i]
 unfold Ex;rw[Hy,Acb];have J:vK w.b W p ⟨(w.b.A[p]).Ao,(w.b.A[p]).R, -1,λx=>AL N y.1 x⟩:=⟨λz K=>by obtain⟨t,e,h,_⟩:=Qr u C y.1 z K;exact⟨t,e,h⟩,by show(-1:Int)≠ -4;decide,a.down,by show _=QV _ _ (-1);unfold QV;rw[Ace (by omega),Ace (by decide),k]⟩
 obtain⟨r,l,x',t,n,q1,q2,q3,q4,q,F⟩:=U8 j (w:=(⟨w.b,w.in_,(⟨w.s.B,o,rem,w.s.I,w.s.P,w.s.D,out⟩:AI),c,w.peaks,d⟩:AM)) v (by omega) G i J h.out (by show c.length≤_;omega) (by show d.length≤_;omega);have Q:l.length≤1:=by rw[F];exact VA
 have U:=h.next q Q;rw[n,Acb];obtain⟨r',V,X,Y,Z,z3,z5,z4⟩:=UT u v C i a (rem:=rem) (M:=M+1) (by omega) q.ox U;exact⟨r',l++V,X,Y,q.trans Z,by rw[Ac6];omega,λm g=>(Ac7.1 g).elim (λg=>by rw[F] at g;exact Ya (by show(-1:Int)≠ -3;decide) m g) (z5 m),z4⟩
def dN {N:Nat}(U:8000000000000<N) {w:AM}{H:Int}{W M:Nat}(V:w.s.B=H) (hW:W≤64) {p:Nat}(X:p<w.b.A.length) (Y:Jw w.b.A.length W w.s.H) (h:gW W w.s.O w.moves w.sent M) (hM:M≤900000) (a:List AC) (y:XL w.b W p a) (Z:a.length≤2000) (kj:List (List Int)→List Int→List AX→List AT→Option (List (List Int)×List Int×List Int×List AX×List AT)):
  ∃o out c d l,Vg w.b H N W p w.s.H w.s.O w.moves w.sent o out c d l∧l.length≤a.length∧(∀x,w.s.H[p]? =some x→l=UP H p a x)∧De N w (p:Int) a kj N 0 w.s.H w.s.O w.moves w.sent=kj o out c d:=by
 obtain⟨⟨o,out,c,d⟩,⟨l,g,z,u⟩,e⟩:=GK a.length (λn i (s:List (List Int)×List Int×List AX×List AT)=>De N w (p:Int) a kj n i s.1 s.2.1 s.2.2.1 s.2.2.2) (λs=>kj s.1 s.2.1 s.2.2.1 s.2.2.2) (λk s=>∃l,Vg w.b H N W p w.s.H w.s.O w.moves w.sent s.1 s.2.1 s.2.2.1 s.2.2.2 l∧l.length≤k∧∀x,w.s.H[p]? =some x→l=UP H p (a.take k) x∧s.1[p]? =some (Z9 (a.take k) x)) (λn k s j=>by
  simp only[De];rw[Fj j];rfl) (λn k s hi j=>by
  obtain⟨o,out,c,d⟩:=s;obtain⟨l,g,z,u⟩:=hi;simp only at u;simp only at g;have G:=h.next g z;have h1:=G.mv;have h2:=G.sn;simp only[De];rw[FA j,Acc,BA (by omega),BG j,Acb,Acb];obtain⟨r,J,m,t,C,v,K,q3,q4,q5,Q⟩:=U8 U (w:=(⟨w.b,w.in_,(⟨w.s.B,o,w.s.N,w.s.I,w.s.P,w.s.D,out⟩:AI),c,w.peaks,d⟩:AM)) V (by omega) g.ox X (y _ (Acw j)) g.ol (by show c.length≤_;omega) (by show d.length≤_;omega);have hl:J.length≤1:=by rw[Q];exact VA
  rw[C,Acb];exact⟨(_,_,_,_),⟨l++J,g.trans q5,by rw[Ac6];omega,λx q=>by
   obtain⟨u1,u2⟩:=u x q;have v:o[p]? =some m:=v;have F:Z9 (a.take k) x=m:=Acg (u2.symm.trans v);rw[Adx j,Sd,U7,←u1,F];have v1:UP H p [a[k]] m=(if t.sum≤0 then [] else [(⟨H,(p:Int),(a[k]).to_,(a[k]).way,t⟩:AX)]):=by
    simp only[UP];rw[K];simp
   have v2:Z9 [a[k]] m=Jx m t:=by
    simp only[Z9];rw[K]
   rw[v1,v2];refine⟨by rw[Q],?_⟩;show r.1[p]? =_
   rw[q4];exact Hl (Acq.1 v).1 _⟩,rfl⟩) N 0 (w.s.H,w.s.O,w.moves,w.sent) ⟨[],Vg.nil Y h.out,Acr _,λx q=>⟨rfl,q⟩⟩ (by omega) (Aci _)
 exact⟨o,out,c,d,l,g,z,λx q=>by have:=(u x q).1;rwa [Adk] at this,e⟩
def dM {N:Nat}(g:18446744073709551616<N) {w:AM}{H:Int}{W M:Nat}(J:w.s.B=H) (n:W≤64) (hL:w.b.C.length≤900) (ht:w.in_.U.length≤1000) (Q:∀l∈w.b.C,KY w.b l) (q:∀p∈w.b.A,I2 w.b p) (hg:w.s.P.length=w.b.C.length) (V:w.peaks.length=w.b.A.length) (d:w.s.N.length=w.b.A.length) {p:Nat}(c:p<w.b.A.length) (ho:Jw w.b.A.length W w.s.H) (h:gW W w.s.O w.moves w.sent M) (hM:M≤900000):
  ∃r l,HT N w (p:Int)=some r∧r.2.1.length=w.b.A.length∧Vg w.b H N W p w.s.H w.s.O w.moves w.sent r.1 r.2.2.1 r.2.2.2.1 r.2.2.2.2 l∧l.length≤w.in_.U.length+w.b.C.length+2∧(∀x,w.s.H[p]? =some x→l.filter (Z6 p)=UP H p (NA N w.b p w.in_.U) x)∧∀x,r.1[p]? =some x→x.sum≤(w.b.A[p]).Av:=by
 have j:8000000000000<N:=by omega
 have k:=q _ (Acw c);have a1:=bQ g (w:=w) ht c;have a2:=UG N w.b p w.in_.U;have a3:=bS g (b:=w.b) n p w.in_.U;generalize X:NA N w.b p w.in_.U=l1 at a1 a2 a3
 obtain⟨K,b1,b2,b3⟩:=eO g n (by omega) Q hg V c;have Y:XL w.b W p (l1++K):=λe he=>(Ac7.1 he).elim (a3 e) λh=>(b3 e h).1;have ad:(l1++K).length≤w.in_.U.length+w.b.C.length:=by rw[Ac6];omega
 unfold HT;rw[BG c,Acb,a1,Acb,b1,Acb,Zx j _ _ (by omega) (by omega),Acb];obtain⟨o,out,ms,sn,l,i,i2,i3,e⟩:=dN j J n c ho h hM (l1++K) Y (by omega) (F8 N w (p:Int) w.b.A[p]);have Z:=h.next i i2;rw[e];have hf:∀a:List AX,(∀m∈a,m.Bf≠ -3)→∀x,w.s.H[p]? =some x→(l++a).filter (Z6 p)=UP H p l1 x:=λa aa x hx=>by
  rw[Aep,X9 aa,Adr,i3 x hx,Sd,Aep,X9 (l:=UP H p K _) (λm hm=>by obtain⟨e',ab,h1,_⟩:=Sc m hm;have:=(b3 e' ab).2;omega),Adr,←X,iZ]
 unfold F8;cases decide ((w.b.A[p]).T≠0)
 ·obtain⟨r,a,t,u,v,r3,z,D⟩:=UT g J n c k (rem:=w.s.N) (by omega) i.ox Z;exact⟨r,l++a,t,by rw[u];exact d,i.trans v,by rw[Ac6];omega,hf a z,D⟩
 ·have F:p<w.peaks.length:=by omega
  have G:p<w.s.N.length:=by omega
  have I:(upd w.s.N (p:Int) 0).length=w.b.A.length:=by rw[M7];exact d
  obtain⟨x,hx,ae,ac⟩:=i.ox.ix c;obtain⟨y,hy⟩:=cR g w.b.A[p] w.peaks[p] w.s.N[p];rw[Acc,BG F,Acb,Acb,BG G,Acb,Acb,hy,Acb,Acb,Acb,hx,Acb,Acb,ac.total j (by omega),Acb];cases decide (y.1≤x.sum)
  ·obtain⟨r,a,t,u,v,r3,z,D⟩:=US g J n c k (rem:=upd w.s.N (p:Int) 0) y (by omega) i.ox Z;exact⟨r,l++a,t,by rw[u];exact I,i.trans v,by rw[Ac6];omega,hf a z,D⟩
  ·rw[Acc,BG (show p<(upd w.s.N (p:Int) 0).length by omega),Acb,Acb];obtain⟨r,a,t,u,v,r3,z,D⟩:=US g J n c k (rem:=upd (upd w.s.N (p:Int) 0) (p:Int) y.2) y (by omega) i.ox Z;exact⟨r,l++a,t,by rw[u,M7];exact I,i.trans v,by rw[Ac6];omega,hf a z,D⟩
structure Yy (N:Nat) (b:AF) (s:AI) (ts:List FL) (o1:List (List Int)) (r:AI×List AX×List Int) (ns:List Int) (o3:List (List Int)) (l:List AX):Prop where
 nl:ns.length=b.A.length
 mlen:r.2.1.length≤100000
 ml2:r.2.1.length≤64+b.A.length*(ts.length+b.C.length+2)
 n0:∀n∈ns,0≤n
 at3:∀(p:Nat) x n,o1[p]? =some x→ns[p]? =some n→o3[p]? =some (Hx (Hx x (v1 b.J.length n)) (VS b.J.length s.B s.I p))
 ox3:Jw b.A.length b.J.length o3
 os3:GG o3+He (MQ s.B s.I)≤1125899906842624
 pk:r.2.2=o3.map List.sum
 lv:zS b s.B N b.J.length b.A.length o3 s.O (Z7 s.B b.J.length 0 ns) r.1.H r.1.O r.2.1 (l.filterMap (Mo b s.B)) l
 que:r.1.I=MQ s.B s.I++l.filterMap (Mo b s.B)
 hour:r.1.B=BT (s.B+1)
 inn:r.1.D=Hx s.D (v1 b.J.length ns.sum)
 tk:∀p,p<b.A.length→∀x,o3[p]? =some x→l.filter (Z6 p)=UP s.B p (NA N b p ts) x
 cap:∀(p:Nat) (hp:p<b.A.length) x,r.1.H[p]? =some x→x.sum≤(b.A[p]).Av
structure Aag (N:Nat) (b:AF) (H:Int) (ts:List FL) (o3:List (List Int)) (k:Nat) (o:List (List Int)) (l:List AX):Prop where
 tk:∀p,p<k→∀x,o3[p]? =some x→l.filter (Z6 p)=UP H p (NA N b p ts) x
 hi:∀p,k≤p→l.filter (Z6 p)=[]∧o[p]? =o3[p]?
 cap:∀(p:Nat) (hp:p<b.A.length),p<k→∀x,o[p]? =some x→x.sum≤(b.A[p]).Av
def Aag.next {N:Nat}{b:AF}{H:Int}{g:List FL}{u:List (List Int)}{k W:Nat}{o i:List (List Int)}{out c:List Int}{v j:List AX}{w n:List AT}{l d:List AX}(I:Aag N b H g u k o l) (G:k<b.A.length) (q:Vg b H N W k o out v w i c j n d) (y:∀x,o[k]? =some x→d.filter (Z6 k)=UP H k (NA N b k g) x) (z:∀x,i[k]? =some x→x.sum≤(b.A[k]).Av):Aag N b H g u (k+1) i (l++d):=by
 have fr:∀m∈d,m.M=(k:Int):=λm B=>(q.mv m B).fr;refine⟨λp s x a=>?_,λp s=>⟨?_,?_⟩,λp s C x a=>?_⟩
 ·rw[Aep];by_cases e:p=k
  ·subst e;obtain⟨D,F⟩:=I.hi p (Acr _);rw[D,Acs];exact y x (F.trans a)
  ·rw[UF (λt=>e t.symm) fr,Adr];exact I.tk p (by omega) x a
 ·rw[Aep,(I.hi p (by omega)).1,UF (by omega) fr];rfl
 ·rw[q.own,U6 fr (by omega)];exact(I.hi p (by omega)).2
 ·by_cases e:p=k
  ·subst e;exact z x a
  ·rw[q.own,U6 fr (λt=>e t.symm)] at a;exact I.cap p s (by omega) x a
def rN (N:Nat) (p:List Int) (h0:∀x∈p,0≤x) (i:Int):∃v,K7 N p i=some v∧(0<v→∃j:Nat,i=(j:Int)∧p[j]? =some v):=by
 unfold K7;cases b:(decide (i<0)||decide ((p.length:Int)≤i)) with
 |true=>exact⟨0,rfl,λd=>absurd d (by decide)⟩
 |false=>
  simp only[Ac9,Ac2] at b;obtain⟨j,c,a⟩:=nW (l:=p) (i:=i) (by omega) (by omega);have:=h0 _ (Acw a);rw[Acd,c,BG a,Acb,Acb,Acb,Ack (show ¬p[j]<0 by omega)];exact⟨p[j],rfl,λ_=>⟨j,rfl,Acn a⟩⟩
def jZ {N W:Nat}(I:8000000000000<N) (J:W≤1000) {p:List Int}(c:PX W p) (fr to n:Int):∃r,MW N p fr to n=some r∧PX W r∧r.sum=p.sum:=by
 have s:=c.len;unfold MW;obtain⟨v,A,t⟩:=rN N p c.nn fr;rw[LT (by omega) _ (by decide),A,Acb,VJ];cases y:(((decide (0<min n v)&&decide (0≤to))&&decide (to<(p.length:Int)))&&decide (fr≠to))
 ·exact⟨p,rfl,c,rfl⟩
 ·simp only[Acj,Ac1] at y;obtain⟨⟨⟨K,B⟩,C⟩,M⟩:=y;obtain⟨j,D,d⟩:=t (by omega);obtain⟨k,F,a⟩:=nW (l:=p) (i:=to) B C;have g:=(Acq.1 d).1;have m:=(Acq.1 d).2;have o:j≠k:=by omega
  have G:=c.mem (Adn d);have H:=c.mem (Acw a);have b:k<(upd p (j:Int) (v-min n v)).length:=by rw[M7];exact a
  have u:(upd p (j:Int) (v-min n v))[k]=p[k]:=by
   have:(upd p (j:Int) (v-min n v))[k]? =p[k]? :=Jj o _;rw[Acn b,Acn a] at this;exact Acg this
  rw[Acc,D,BG g,m];simp only[Acb];rw[EM (n:=v-min n v) (by omega) (by omega),F,BG b,u];simp only[Acb];rw[VT N (by omega) (by omega) (by omega) (by omega),Acb];have z:(upd (upd p (j:Int) (v-min n v)) (k:Int) (p[k]+min n v)).sum=p.sum:=by
   have w:(p.set j (v-min n v))[k]'(by simpa using a)=p[k]:=List.getElem_set_ne o _;unfold upd;rw[Adm,Adm,OC (by simpa using a),OC g,w,m];omega
  refine⟨_,rfl,⟨by rw[M7,M7];exact s,λx q=>?_,by rw[z];exact c.mv⟩,z⟩;rcases Afr q with q|rfl
  ·rcases Afr q with q|rfl
   ·exact c.nn x q
   ·omega
  ·omega
def jD {N:Nat}(v:8000000000000<N) {w:AM}{W:Nat}(B:W≤1000) (Q:w.in_.Ad.length≤1000) (C:Jw w.b.A.length W w.s.H):∃o,Fw N w=some o∧Jw w.b.A.length W o∧o.map List.sum=w.s.H.map List.sum:=by
 unfold Fw;obtain⟨o,⟨D,F⟩,e⟩:=GK w.in_.Ad.length (λn i l=>C7 N w n i l) (λl=>some l) (λ_ l=>Jw w.b.A.length W l∧l.map List.sum=w.s.H.map List.sum) (λn k l d=>by
  simp only[C7];rw[Fj d];rfl) (λn k l a d=>by
  obtain⟨a,c⟩:=a;simp only[C7,G9];rw[FA d,Acc,BG d,BA (by omega)];simp only[Acb,Nw,Gw,QZ];generalize w.in_.Ad[k]=x
  cases g:(((decide (0≤x.Ap)&&decide (x.Ap<(w.b.A.length:Int)))&&(decide (0≤x.M)&&decide (x.M<(w.b.J.length:Int))))&&(decide (0≤x.E)&&decide (x.E<(w.b.J.length:Int))))
  ·exact⟨l,⟨a,c⟩,rfl⟩
  ·simp only[Acj,Ac1] at g;obtain⟨j,G,m⟩:=nW (l:=l) g.1.1.1 (by rw[a.len];exact g.1.1.2);obtain⟨y,I,p,q⟩:=a.ix (k:=j) (by rw[←a.len];exact m);obtain⟨z,K,t,u⟩:=jZ v B q x.M x.E x.Be;rw[Acc,G];simp only[I,Acb];rw[K,Acb];exact⟨_,⟨a.upd _ t,by rw[←c];exact(show(upd l (j:Int) z).map List.sum=upd (l.map List.sum) (j:Int) y.sum by unfold upd;rw[List.map_set,u]).trans (WE (by rw[Ad4,p];rfl))⟩,rfl⟩) N 0 w.s.H ⟨C,rfl⟩ (by omega) (Aci _)
 exact⟨o,e,D,F⟩
def XH (N:Nat) {w w':AM}(a:w.b=w'.b) (c:w.in_=w'.in_) (n:Nat):∀(i:Int) (l:List (List Int)),C7 N w n i l=C7 N w' n i l:=by
 induction n with
 |zero=>intro i l;rfl
 |succ n d=>intro i l;simp only[C7,G9,a,c,d]
def bV {N:Nat}(d:8000000000000<N) {b:AF}{s:AI}{in_:AN}{W:Nat}(g:W≤1000) (i:in_.Ad.length≤1000) (j:Jw b.A.length W s.H):∃o,(∀a:List A3,Fw N (⟨b,in_,({ s with P:=a}:AI),([]:List AX),(List.replicate ((b.A.length:Int)).toNat (0:Int)),([]:List AT)⟩:AM)=some o)∧Jw b.A.length W o∧GG o=GG s.H∧o.map List.sum=s.H.map List.sum:=by
 obtain⟨o,e,k,c⟩:=jD d (w:=(⟨b,in_,s,([]:List AX),[],([]:List AT)⟩:AM)) g i j;refine⟨o,λa=>?_,k,by unfold GG;rw[c],c⟩;rw[←e];exact XH N (w:=(⟨b,in_,({ s with P:=a}:AI),([]:List AX),(List.replicate ((b.A.length:Int)).toNat (0:Int)),([]:List AT)⟩:AM)) (w':=(⟨b,in_,s,([]:List AX),[],([]:List AT)⟩:AM)) rfl rfl N 0 s.H
def gk (R:List Int) (k:Nat):Int:=min (max (R.getD k 0) 0) 1125899906842624
def W6 (R:List Int):Nat→Int
 |0=>0
 |k+1=>W6 R k+gk R k
def Vf (R l:List Int):Prop:=∀(i:Nat) n,l[i]? =some n→n≤gk R i
def Vf.snoc {R l:List Int}(m:Vf R l) {k:Nat}(b:l.length=k) {n:Int}(c:n≤gk R k):Vf R (l++[n]):=λi x a=>by
 rcases Acy i k with d|d
 ·rw[Afv (by omega)] at a;exact m i x a
 ·have g:=(Acq.1 a).1;rw[Ac6,List.length_singleton] at g;have j:i=k:=by omega
  subst j;rw[Afw (by omega),b,Nat.sub_self] at a;cases a;exact c
def Vf.take {R l:List Int}(g:Vf R l):∀d k,k+d≤l.length→W6 R k-(l.take k).sum≤W6 R (k+d)-(l.take (k+d)).sum
 |0,k,_=>Add _
 |d+1,k,a=>by
  have b:=Vf.take g d k (by omega);have c:=g (k+d) _ (Acn (show k+d<l.length by omega));rw[show k+(d+1)=(k+d)+1 by omega,Kk (show k+d<l.length by omega)];simp only[W6];omega
def Vf.sum {R l:List Int}(a:Vf R l):l.sum≤W6 R l.length:=by
 have:=Vf.take a l.length 0 (by omega);rw[Adj,Adk,Ad8] at this;simp only[W6,List.sum_nil] at this;omega
def Abp {R l:List Int}(j:Vf R l) (g:l.sum=W6 R l.length) (i:Nat) (b:i<l.length):l[i]? =some (gk R i):=by
 have c:=Vf.take j i 0 (by omega);have a:=Vf.take j (l.length-(i+1)) (i+1) (by omega);have d:=Vf.take j 1 i (by omega);rw[Adj,Ad8] at c;rw[show i+1+(l.length-(i+1))=l.length by omega,Adk] at a;rw[Kk b] at a d;simp only[W6,List.sum_nil] at c a d;rw[Acn b,show l[i]=gk R i by omega]
def jN {N:Nat}(hN:8000000000000<N) {w:AM}{W:Nat}(hW:w.b.J.length=W) (h1:1≤W) (aw:W≤16) (hP:w.b.A.length≤64) (M:Jw w.b.A.length W w.s.H) (hq:w.s.I.length≤4000000000000) (v:QX w.b.A.length W w.s.I) (ht:GG w.s.H+He w.s.I≤1125899906842624) (X:w.s.D.length=W) (p:∀x∈w.s.D,0≤x) (ae:w.s.D.sum≤1152921504606846976) (hm:w.moves=[]):
  ∃l r,Jo N w=some (r.2.2.2.1,r.2.2.2.2,r.2.2.1)∧Abi w W w.b.A.length l r∧Vf w.in_.S l∧(l.sum=W6 w.in_.S w.b.A.length∨r.1=1125899906842624∨r.2.1=1152921504606846976):=by
 have ax:=M.len;have aj:=(IR v 0).2;rw[Ad8,show He ([]:List AT)=0 from rfl] at aj;unfold Jo;obtain⟨s1,i1,e1⟩:=GK w.s.H.length (λn i s=>En N w (Ep N w) n s i) (Ep N w) (λk s=>s=GG (w.s.H.take k)) (λn k s g=>by
  simp only[En];rw[Fj g];rfl) (λn k s Y g=>by
  have C:=M.all _ (Acw g);have h2:=OH M (k+1);rw[Nz g] at h2;have h3:=C.sum0;have h4:=(OH M k).1;simp only[En];rw[FA g,Acc,BG g,Acb,Acb,C.total hN (by omega),Acb,BA (by omega),EM (n:=s+(w.s.H[k]).sum) (by omega) (by omega)];exact⟨_,by rw[Nz g,Y],rfl⟩) N 0 0 rfl (by omega) (Aci _)
 rw[show En N w (Ep N w) N 0 0=Ep N w s1 from e1];rw[Adk] at i1;have ay:=M.sum0;unfold Ep;obtain⟨s2,i2,e2⟩:=GK w.s.I.length (λn i s=>Em N w (Eo N w) n s i) (Eo N w) (λk s=>s=GG w.s.H+He (w.s.I.take k)) (λn k s g=>by
  simp only[Em];rw[Fj g];rfl) (λn k s Y g=>by
  have C:=(v _ (Acw g)).1;have h2:=IR v (k+1);rw[M3 g] at h2;have h3:=C.sum0;have h4:=(IR v k).1;simp only[Em];rw[FA g,Acc,BG g,Acb,C.total hN (by omega),Acb,BA (by omega),EM (n:=s+(w.s.I[k]).V.sum) (by omega) (by omega)];exact⟨_,by rw[M3 g,Y];omega,rfl⟩) N 0 s1 (by rw[i1,Ad8];simp [He]) (by omega) (Aci _)
 rw[show Em N w (Eo N w) N s1 0=Eo N w s2 from e2];rw[Adk] at i2;have az:=Ki p;unfold Eo;rw[V3 hN (by omega) p (by omega),Acb];obtain⟨s,⟨l,i3,i4⟩,e⟩:=GK w.b.A.length (λn i (s:Int×Int×List AX×List (List Int)×List Int)=>DJ N w n s.1 s.2.1 i s.2.2.1 s.2.2.2.1 s.2.2.2.2) (λs=>some (s.2.2.2.1,s.2.2.2.2,s.2.2.1)) (λk s=>∃l,Abi w W k l s∧Vf w.in_.S l∧(l.sum=W6 w.in_.S k∨s.1=1125899906842624∨s.2.1=1152921504606846976)) (λn k s g=>by
  simp only[DJ];rw[Fj g];rfl) (λn k s Y g=>by
  obtain⟨a,c,ms,o,j⟩:=s;obtain⟨l,⟨Z,q2,q3,q4,q5,q6,⟨q7,q8⟩,q9,⟨F,af⟩,aa⟩,qp,qm⟩:=Y;simp only at q3 q4 q5 q6 q7 q8 q9 F af aa qm;have a0:=q4.sum0;have ak:=Ki q2;obtain⟨x,C,G,q⟩:=q4.ix g;obtain⟨x1,a1,Q,aq⟩:=M.ix g;have al:x=x1:=by rw[q6 k (Acr _),Q] at G;exact(Acg G).symm
  have hj:∀m:Int,m≤1125899906842624-a→m≤1152921504606846976-c→(max m 0≤gk w.in_.S k∧(l.sum+max m 0=W6 w.in_.S (k+1)∨a+max m 0=1125899906842624∨c+max m 0=1152921504606846976))→∃s':Int×Int×List AX×List (List Int)×List Int,(∃l,Abi w W (k+1) l s'∧Vf w.in_.S l∧(l.sum=W6 w.in_.S (k+1)∨s'.1=1125899906842624∨s'.2.1=1152921504606846976))∧HZ N w a c (k:Int) ms o j (Gb N (k:Int) (DJ N w n)) m=DJ N w n s'.1 s'.2.1 ((k+1:Nat):Int) s'.2.2.1 s'.2.2.2.1 s'.2.2.2.2:=λm a2 a3 a4=>by
   unfold HZ Gb;rw[BA (by omega)];by_cases ag:m≤0
   ·rw[Acx ag,Acc];refine⟨(a,c,ms,o,j),⟨l++[0],⟨by simp [Z],λn d=>?_,?_,q4,λi y n hy d=>?_,λi Y=>q6 i (by omega),⟨q7,q8⟩,by rw[Ad9];simpa using q9,⟨by rw[Ad9];simpa using F,af⟩,by rw[Ad9];simpa using aa⟩,qp.snoc Z (by omega),by show _∨a=_∨c=_;rw[show (l++[(0:Int)]).sum=l.sum by simp];omega⟩,rfl⟩
    ·rcases Ac7.1 d with d|d
     ·exact q2 n d
     ·rw[Ac3.1 d];exact Add 0
    ·show ms=_
     rw[TI,Ace (by omega),Adr];exact q3
    ·show o[i]? =_
     by_cases ab:i<k
     ·rw[Afv (by omega)] at d;exact q5 i y n hy d
     ·have t:i=k:=by
       have:=(Acq.1 d).1;simp at this;omega
      subst t;rw[Afw (by omega),Z,Nat.sub_self] at d;cases d;rw[X4,UC (M.all y (Adn hy)).len,q6 i (Acr _),hy]
   ·have a5:=q4.le G;have hv:=mW h1 (n:=m) (by omega) (by omega);have ah:=Us h1 m;obtain⟨x0,ac⟩:=Df.ix (l:=x) (i:=0) (Add _) (by rw[q.len];omega);have ar:=q.mem (Adn (FB ac).2);have ai:j.length=W:=by rw[q9];exact Qk X (Ss _ _)
    obtain⟨y0,K⟩:=Df.ix (l:=j) (i:=0) (Add _) (by omega);have u:∀z∈j,0≤z:=by
     rw[q9];refine Sa p λz hz=>?_;rcases Afr hz with hz|rfl
     ·rw[(List.mem_replicate.1 hz).2];exact Add 0
     ·exact ak
    have am:j.sum=c:=by rw[q9,ME (by rw[X,Ss]),Us h1,F]
    have au:=Jd u _ (Adn (FB K).2);have av:=u _ (Adn (FB K).2);obtain⟨z0,an⟩:=Df.ix (l:=List.replicate ((w.b.J.length:Int)).toNat (0:Int)) (i:=0) (Add _) (by rw[OF];omega);have a6:=Uy w.s.B W l 0;rw[Ack ag,Acd,C,Acb,Acb,ac,Acb,Acb,K,Acb,Acb,Acb,Acb,LT (by omega) _ (by decide),an,Acb,Acb,F7 (by rw[q3];simp;omega),EM (n:=a+m) (by omega) (by omega),EM (n:=c+m) (by omega) (by omega),EM (n:=x0+m) (by omega) (by omega),EM (n:=y0+m) (by omega) (by omega),X3 q.len h1 m x0 ac,X3 ai h1 m y0 K];have ao:PX W (Hx x (v1 W m)):=q.add hv (by rw[ah];omega);have U:GG (upd o (k:Int) (Hx x (v1 W m)))=GG o+m:=by
     rw[Q3 G,ME (q.len.trans hv.len.symm),ah];omega
    have ap:List.replicate ((w.b.J.length:Int)).toNat (0:Int)=List.replicate W 0:=by rw[hW];rfl
    refine⟨(a+m,c+m,ms++[⟨w.s.B, -1,(k:Int), -4,upd (List.replicate ((w.b.J.length:Int)).toNat (0:Int)) 0 m⟩],upd o (k:Int) (Hx x (v1 W m)),Hx j (v1 W m)),⟨l++[m],⟨by simp [Z],λn d=>?_,?_,q4.upd _ ao,λi y n hy d=>?_,λi Y=>?_,⟨?_,by show a+m≤_;omega⟩,?_,⟨?_,by show c+m≤_;omega⟩,?_⟩,qp.snoc Z (by omega),by show _∨a+m=_∨c+m=_;rw[show (l++[m]).sum=l.sum+m by simp];omega⟩,rfl⟩
    ·rcases Ac7.1 d with d|d
     ·exact q2 n d
     ·rw[Ac3.1 d];omega
    ·show ms++_=_
     rw[TI,Acf (by omega),q3,ap,Adj,Z];rfl
    ·show(upd o (k:Int) _)[i]? =_
     by_cases ab:k=i
     ·subst ab;rw[Afw (by omega),Z,Nat.sub_self] at d;cases d;rw[Hl (by rw[q4.len];exact g),al];rw[Q] at hy;cases hy;rfl
     ·have t:i<l.length:=by
       have:=(Acq.1 d).1;simp at this;omega
      rw[Jj ab];rw[Afv t] at d;exact q5 i y n hy d
    ·show(upd o (k:Int) _)[i]? =_
     rw[Jj (by omega)];exact q6 i (by omega)
    ·show a+m=GG _+_
     rw[U];omega
    ·show Hx j (v1 W m)=_
     rw[q9,Ad9,Sr];rw[pO h1];simp
    ·show c+m=_
     rw[Ad9,F];simp;omega
    ·show GG _=_
     rw[U,aa,Ad9];simp;omega
  simp only[DJ];rw[FA g,Acc];cases hr:decide ((k:Int)<(w.in_.S.length:Int))
  ·have hr:=Af1 hr;have ad:w.in_.S.getD k 0=0:=by rw[Adp,Ac8 (by omega)];rfl
   exact hj 0 (by omega) (by omega) (by simp only[W6,gk,ad];omega)
  ·have hr:=Ad2 hr;have a7:0≤c:=by omega
   rw[Acc,BG (show k<w.in_.S.length by omega),Acb,EM (n:=1125899906842624-a) (by omega) (by omega),EM (n:=1152921504606846976-c) (by omega) (by omega)];have ad:w.in_.S.getD k 0=w.in_.S[k]:=by simp [Adp,show k<w.in_.S.length by omega]
   exact hj _ (by omega) (by omega) (by simp only[W6,gk,ad];omega)) N 0 (s2,w.s.D.sum,w.moves,w.s.H,w.s.D) ⟨[],⟨rfl,λn d=>(by cases d),hm,M,λi x n _ d=>(by cases d),λi _=>rfl,⟨by show s2=_;rw[i2],by show s2≤_;omega⟩,by
    show w.s.D=Hx _ (v1 W 0)
    rw[X4,UC X],⟨by show w.s.D.sum=_;simp,ae⟩,by simp⟩,(λi x C=>by cases C),.inl rfl⟩ (by omega) (Aci _)
 exact⟨l,s,e,i3,i4⟩
structure Abq (N:Nat) (b:AF) (s:AI) (in_:AN) (o1:List (List Int)) (gs:List A3) (o2:List (List Int)) (inn:List Int) (ms:List AX) (z:List (List Int)×List AT×List A3×List Int) (ns:List Int):Prop where
 eg:HS N (⟨b,in_,s,([]:List AX),(List.replicate ((b.A.length:Int)).toNat (0:Int)),([]:List AT)⟩:AM)=some gs
 ez:F9 N (⟨b,in_,(⟨s.B,o2,s.N,s.I,gs,inn,s.O⟩:AI),ms,(List.replicate ((b.A.length:Int)).toNat (0:Int)),([]:List AT)⟩:AM)=some z
 nl:ns.length=b.A.length
 n0:∀n∈ns,0≤n
 ms_:ms=Z7 s.B b.J.length 0 ns
 at3:∀(p:Nat) x n,o1[p]? =some x→ns[p]? =some n→z.1[p]? =some (Hx (Hx x (v1 b.J.length n)) (VS b.J.length s.B s.I p))
 own:Jw b.A.length b.J.length z.1
 rest:z.2.1=MQ s.B s.I
 pk:z.2.2.2=z.1.map List.sum
 gl:z.2.2.1.length=b.C.length
 inn_:inn=Hx s.D (v1 b.J.length ns.sum)
 tot:GG z.1+He (MQ s.B s.I)=GG s.H+He s.I+ns.sum
 tot2:GG s.H+He s.I+ns.sum≤1125899906842624
 pw:Vf in_.S ns
 max_:ns.sum=W6 in_.S b.A.length∨GG s.H+He s.I+ns.sum=1125899906842624∨s.D.sum+ns.sum=1152921504606846976
 ins:s.D.sum+ns.sum≤1152921504606846976
def bX {N:Nat}(hN:18446744073709551616<N) {b:AF}(G:II b) (K:∀l∈b.C,KY b l) (ag:∀p∈b.A,I2 b p) {s:AI}(d:Abg b s) (hq:s.I.length≤4000000000000) {in_:AN}(h1:in_.X.length≤1000) (h2:in_.Y.length≤1000) (h3:in_.U.length≤1000) {t:List (List Int)}(h4:∀j:List A3,Fw N (⟨b,in_,({ s with P:=j}:AI),([]:List AX),(List.replicate ((b.A.length:Int)).toNat (0:Int)),([]:List AT)⟩:AM)=some t) (M:Jw b.A.length b.J.length t) (Q:GG t=GG s.H):
  ∃j m g o z V,Hg N b s in_=FO N b in_ s (m,g,o) z (FP N s (m,g,o) z) N 0 z.1 s.N s.O o ([]:List AT)∧Abq N b s in_ t j m g o z V:=by
 have hP:=G.pl;have hL:=G.li;have hW:=G.own;have Z:=G.own1;have i:8000000000000<N:=by omega
 unfold Hg;rw[Ug i (by have:=d.own.len;omega) (λx hx=>by have:=(d.own.all x hx).len;omega) (by have:=d.rem;omega) (by have:=d.gates;omega) (by have:=d.inn;omega) (by have:=d.out;omega),Acb,LT (by omega) _ (by decide)];have aa:ZM b.C.length s.P (Ab0 s):=⟨d.gates,λk hk=>by
  have:k<s.P.length:=by rw[d.gates];exact hk
  simp [Ab0,Adp,this]⟩
 obtain⟨j,eg,hg⟩:=dJ i (w:=(⟨b,in_,s,([]:List AX),(List.replicate ((b.A.length:Int)).toNat (0:Int)),([]:List AT)⟩:AM)) rfl (show b.C.length≤1000 by omega) h1 h2 aa;rw[eg,Acb];have ab:=h4 j;rw[ab,Acb];obtain⟨V,⟨a,c,o,m,g⟩,ey,⟨q1,q2,q3,q4,q5,q6,⟨q7,q8⟩,q9,⟨ac,ad⟩,ae⟩,qp,qm⟩:=jN i (w:=(⟨b,in_,(⟨s.B,t,s.N,s.I,j,s.D,s.O⟩:AI),([]:List AX),(List.replicate ((b.A.length:Int)).toNat (0:Int)),([]:List AT)⟩:AM)) (W:=b.J.length) rfl Z hW hP M hq d.que (by show GG t+He s.I≤_;rw[Q];exact d.tot) d.inn d.inn0 d.inns rfl;simp only at q1 q2 q3 q4 q5 q6 q7 q8 q9 ac ad ae qm ey;rw[ey,Acb];obtain⟨z,ez,⟨u,v,q,y,af⟩,F⟩:=uC i (w:=(⟨b,in_,(⟨s.B,m,s.N,s.I,j,g,s.O⟩:AI),o,(List.replicate ((b.A.length:Int)).toNat (0:Int)),([]:List AT)⟩:AM)) (W:=b.J.length) rfl hW hP hL K q4 hq d.que (by show GG m+He s.I≤_;omega) (OF _ _) hg.1;simp only at u v q y af F;rw[ez,Acb];exact⟨j,m,g,o,z,V,rfl,⟨eg,ez,q1,q2,q3,λp x n hx hn=>v p _ (q5 p x n hx hn),u,q,y,F,q9,by rw[←q];omega,by omega,qp,by omega,by omega⟩⟩
def jF {N:Nat}(hN:18446744073709551616<N) {b:AF}(F:II b) (G:∀l∈b.C,KY b l) (j:∀p∈b.A,I2 b p) {s:AI}(hs:Abg b s) (hq:s.I.length≤4000000000000) {in_:AN}(h1:in_.X.length≤1000) (h2:in_.Y.length≤1000) (h3:in_.U.length≤1000) {o1:List (List Int)}(h4:∀gs:List A3,Fw N (⟨b,in_,({ s with P:=gs}:AI),([]:List AX),(List.replicate ((b.A.length:Int)).toNat (0:Int)),([]:List AT)⟩:AM)=some o1) (aa:Jw b.A.length b.J.length o1) (ab:GG o1=GG s.H):
  ∃r d o3 l,Hg N b s in_=some r∧Yy N b s in_.U o1 r d o3 l∧GG o3+He (MQ s.B s.I)=GG s.H+He s.I+d.sum∧Vf in_.S d∧(d.sum=W6 in_.S b.A.length∨GG s.H+He s.I+d.sum=1125899906842624∨s.D.sum+d.sum=1152921504606846976)∧s.D.sum+d.sum≤1152921504606846976:=by
 have hP:=F.pl;have hL:=F.li;have hW:=F.own;have ad:=F.own1;have ae:8000000000000<N:=by omega
 obtain⟨gs,y,a,g,z,d,eS,h⟩:=bX hN F G j hs hq h1 h2 h3 h4 aa ab;have q1:=h.nl;have q2:=h.n0;have q3:=h.ms_;have u:=h.own;have K:=h.rest;have M:=h.pk;have ac:=h.gl;have k1:=h.tot;have k2:=h.tot2;have af:=Uy s.B b.J.length d 0;obtain⟨⟨o,rm,out,c,sn⟩,⟨l,i1,q,v,Q⟩,e⟩:=GK b.A.length (λn i (t:List (List Int)×List Int×List Int×List AX×List AT)=>FO N b in_ s (y,a,g) z (FP N s (y,a,g) z) n i t.1 t.2.1 t.2.2.1 t.2.2.2.1 t.2.2.2.2) (λt=>FP N s (y,a,g) z t.1 t.2.1 t.2.2.1 t.2.2.2.1 t.2.2.2.2) (λk t=>∃l,t.2.1.length=b.A.length∧zS b s.B N b.J.length k z.1 s.O g t.1 t.2.2.1 t.2.2.2.1 t.2.2.2.2 l∧gW b.J.length t.2.2.1 t.2.2.2.1 t.2.2.2.2 (64+k*(in_.U.length+b.C.length+2))∧Aag N b s.B in_.U z.1 k t.1 l) (λn k t V=>by
  simp only[FO];rw[Fj V];rfl) (λn k t hi V=>by
  obtain⟨o,rm,out,c,sn⟩:=t;obtain⟨l,i1,q,v,Q⟩:=hi;simp only at i1 q v Q;simp only[FO];have Z:k*(in_.U.length+b.C.length+2)≤64*(1000+96+2):=Afd (by omega) (by omega);obtain⟨r,l',er,r1,r2,r3,r5,r4⟩:=dM hN (w:=(⟨b,in_,(⟨s.B,o,rm,z.2.1,z.2.2.1,a,out⟩:AI),c,z.2.2.2,sn⟩:AM)) (H:=s.B) (W:=b.J.length) rfl (by omega) (by show b.C.length≤_;omega) h3 G j ac (by show z.2.2.2.length=_;rw[M,Ae7];exact u.len) i1 V q.ox v (by omega);rw[FA V,Acc,er,Acb,BA (by omega)];have hM:64+(k+1)*(in_.U.length+b.C.length+2)=64+k*(in_.U.length+b.C.length+2)+(in_.U.length+b.C.length+2):=by rw[Ad7];omega
  exact⟨(_,_,_,_,_),⟨l++l',r1,q.next r2,by rw[hM];exact v.next r2 r3,Q.next V r2 r5 r4⟩,rfl⟩) N 0 (z.1,s.N,s.O,g,[]) ⟨[],hs.rem,⟨λm hm=>(by cases hm),.nil,by simp,rfl,rfl,rfl,trivial,u,hs.out,by simp [Lz]⟩,⟨hs.out,by show g.length≤_;rw[q3];omega,by simp⟩,⟨λp hp=>(by omega),λp _=>⟨rfl,rfl⟩,λp _ hp=>(by omega)⟩⟩ (by omega) (Aci _)
 rw[eS,show FO N b in_ s (y,a,g) z (FP N s (y,a,g) z) N 0 z.1 s.N s.O g ([]:List AT)=FP N s (y,a,g) z o rm out c sn from e];simp only at q v;have Z:b.A.length*(in_.U.length+b.C.length+2)≤64*(1000+96+2):=Afd hP (by omega);have ag:=v.sn;have ah:=v.mv;have ai:z.2.1.length≤s.I.length:=by rw[K];exact Afs _ _
 unfold FP;rw[F7 (by omega)];refine⟨_,d,z.1,l,rfl,⟨q1,by show c.length≤_;omega,by show c.length≤_;omega,q2,h.at3,u,by omega,M,?_,?_,rfl,h.inn_,Q.tk,λp hp x hx=>Q.cap p hp hp x hx⟩,h.tot,h.pw,h.max_,h.ins⟩
 ·rw[←q.sn_,←q3];exact q
 ·show z.2.1++sn=_
  rw[K,q.sn_]
end Go.Proofs.YtabonambpbofgaaGreat
