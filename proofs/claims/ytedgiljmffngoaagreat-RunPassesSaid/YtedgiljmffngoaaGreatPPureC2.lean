import Derived.Test.YtedgiljmffngoaaGreatPPureT1
import Derived.Test.YtedgiljmffngoaaGreatPPureE2
namespace Go.Proofs.YtedgiljmffngoaaGreat
set_option linter.all false
open Go.RowKit
def YF {c:Prop}[Decidable c] {H a t b:Int}{y:List Int}(g:b≠ -3):∀m∈(if c then [] else [(⟨H,a,t,b,y⟩:AI)]),m.Ap≠ -3:=λm d=>by
 split at d
 ·cases d
 ·rw[Abi.1 d];exact g
def Zn (p:Nat) (m:AI):Bool:=decide (m.D=(p:Int))&&decide (m.Ap= -3)
def Xj {p:Nat}{l:List AI}(b:∀m∈l,m.Ap≠ -3):l.filter (Zn p)=[]:=List.filter_eq_nil_iff.2 λm a=>by unfold Zn;simp [b m a]
def T8 {p q:Nat}(a:q≠p) {l:List AI}(c:∀m∈l,m.D=(q:Int)):l.filter (Zn p)=[]:=List.filter_eq_nil_iff.2 λm b=>by unfold Zn;rw[c m b];simp;omega
def gU {H:Int}{p N:Nat}{b:AE}{a:List HV}{x:List Int}:(UI H p (MX N b p a) x).filter (Zn p)=UI H p (MX N b p a) x:=List.filter_eq_self.2 λm c=>by
 obtain⟨e,d,g,i⟩:=SU m c;obtain⟨t,_,rfl⟩:=Abg.1 d;unfold Zn;rw[g,i];simp [Xl]
def Uw {p:Nat}:∀{l:List AI}{o:List (List Int)}(c:∀m∈l,m.D=(p:Int)) {j:Nat}(a:p≠j),(QA o l)[j]? =o[j]?
 |[],_,_,_,_=>rfl
 |m::l,o,c,j,a=>by
  show(QA (upd o m.D (IE (o.getD m.D.toNat []) m.K)) l)[j]? =_
  rw[Uw (p:=p) (l:=l) (λq b=>c q (.tail _ b)) a,c m (.head _),IY a]
def UM {N:Nat}(G:18446744073709551616<N) {w:AL}{H:Int}{W:Nat}(V:w.s.C=H) (I:W≤64) {p:Nat}(v:p<w.b.A.length) (i:H9 w.b w.b.A[p]) {o:List (List Int)}{out:List Int}{ms:List AI}{j:List AO}{rem:List Int}{M:Nat}(hM:M≤999999) (z:Ie w.b.A.length W o) (h:fA W out ms j M):
  ∃r l,CC N w (p:Int) w.b.A[p] o out ms j rem=some r∧r.2.1=rem∧VQ w.b H N W p o out ms j r.1 r.2.2.1 r.2.2.2.1 r.2.2.2.2 l∧l.length≤1∧(∀m∈l,m.Ap≠ -3)∧∀x,r.1[p]? =some x→x.sum≤(w.b.A[p]).Av:=by
 have k:1000000<N:=by omega
 have h1:=h.mv;have h2:=h.sn;have q:=i.cap;unfold JD at q;have B:w.b.A.getD p default=w.b.A[p]:=by simp [Aa5,v]
 unfold CC;obtain⟨x,X,d,a⟩:=z.ix v;have Y:=a.mv;have Z:=a.sum0;rw[X,zU,zU,a.total k (by omega),zU,C7 (n:=x.sum-(w.b.A[p]).Av) (by omega) (by omega)];by_cases u:0<x.sum-(w.b.A[p]).Av
 ·rw[Aaq u,zV,Ga,zU];have he:tA w.b W p ⟨(w.b.A[p]).Ak,(w.b.A[p]).Q, -2,λy=>AM N (x.sum-(w.b.A[p]).Av) y⟩:=⟨λy c=>by obtain⟨t,e,h,_⟩:=Qe G I (x.sum-(w.b.A[p]).Av) y c;exact⟨t,e,h⟩,by show(-2:Int)≠ -4;decide,i.down,by show _=Pr _ _ (-2);unfold Pr;rw[zY (by omega),zY (by decide),B]⟩
  obtain⟨r,l,x',t,D,F,g,q3,J,K,U⟩:=Uz k (w:=(⟨w.b,w.in_,(⟨w.s.C,o,rem,w.s.H,w.s.O,w.s.N,out⟩:AF),ms,w.peaks,j⟩:AL)) V (by omega) z v he h.out (by show ms.length≤_;omega) (by show j.length≤_;omega);simp only at F g J K;rw[d] at F;cases F;obtain⟨t',e',_,ts⟩:=Qe G I (x.sum-(w.b.A[p]).Av) x a;rw[e'] at g;have g:=zW Prod.fst (zZ g);simp only at g;subst g;rw[D,zU];refine⟨_,l,rfl,rfl,K,by rw[U];exact U2,by rw[U];exact YF (by show(-2:Int)≠ -3;decide),λy c=>?_⟩;have c:r.1[p]? =some y:=c;rw[J,GY (Aai.1 d).1] at c;rw[←zZ c,(q3.sub a).2.1,ts];omega
 ·rw[Aan u,zX];refine⟨_,[],rfl,rfl,VQ.nil z h.out,by simp,λm hm=>(by cases hm),λy c=>?_⟩;have c:o[p]? =some y:=c;rw[d] at c;cases c;omega
def UL {N:Nat}(q:18446744073709551616<N) {w:AL}{H:Int}{W:Nat}(u:w.s.C=H) (v:W≤64) {p:Nat}(g:p<w.b.A.length) (a:H9 w.b w.b.A[p]) {o:List (List Int)}{out:List Int}{ms:List AI}{c:List AO}{rem:List Int}(y:Int×Int) {M:Nat}(hM:M≤999998) (D:Ie w.b.A.length W o) (h:fA W out ms c M):
  ∃r l,DB N w (p:Int) w.b.A[p] o out ms c y (CC N w (p:Int) w.b.A[p]) rem=some r∧r.2.1=rem∧VQ w.b H N W p o out ms c r.1 r.2.2.1 r.2.2.2.1 r.2.2.2.2 l∧l.length≤2∧(∀m∈l,m.Ap≠ -3)∧∀x,r.1[p]? =some x→x.sum≤(w.b.A[p]).Av:=by
 have i:1000000<N:=by omega
 have h1:=h.mv;have h2:=h.sn;have j:w.b.A.getD p default=w.b.A[p]:=by simp [Aa5,g]
 unfold DB;rw[Ga,zU];have F:tA w.b W p ⟨(w.b.A[p]).Ak,(w.b.A[p]).Q, -1,λx=>AM N y.1 x⟩:=⟨λz G=>by obtain⟨t,e,h,_⟩:=Qe q v y.1 z G;exact⟨t,e,h⟩,by show(-1:Int)≠ -4;decide,a.down,by show _=Pr _ _ (-1);unfold Pr;rw[zY (by omega),zY (by decide),j]⟩
 obtain⟨r,l,x',t,k,q1,q2,q3,q4,n,B⟩:=Uz i (w:=(⟨w.b,w.in_,(⟨w.s.C,o,rem,w.s.H,w.s.O,w.s.N,out⟩:AF),ms,w.peaks,c⟩:AL)) u (by omega) D g F h.out (by show ms.length≤_;omega) (by show c.length≤_;omega);have I:l.length≤1:=by rw[B];exact U2
 have J:=h.next n I;rw[k,zU];obtain⟨r',K,U,V,X,z3,Y,Z⟩:=UM q u v g a (rem:=rem) (M:=M+1) (by omega) n.ox J;exact⟨r',l++K,U,V,n.trans X,by rw[Aas];omega,λm d=>(Aa0.1 d).elim (λd=>by rw[B] at d;exact YF (by show(-1:Int)≠ -3;decide) m d) (Y m),Z⟩
def cV {N:Nat}(J:1000000<N) {w:AL}{H:Int}{W M:Nat}(K:w.s.C=H) (hW:W≤64) {p:Nat}(Q:p<w.b.A.length) (U:Ie w.b.A.length W w.s.E) (h:fA W w.s.L w.moves w.sent M) (hM:M≤900000) (a:List AD) (v:XL w.b W p a) (V:a.length≤2000) (kj:List (List Int)→List Int→List AI→List AO→Option (List (List Int)×List Int×List Int×List AI×List AO)):
  ∃o out ms c l,VQ w.b H N W p w.s.E w.s.L w.moves w.sent o out ms c l∧l.length≤a.length∧(∀x,w.s.E[p]? =some x→l=UI H p a x)∧CY N w (p:Int) a kj N 0 w.s.E w.s.L w.moves w.sent=kj o out ms c:=by
 obtain⟨⟨o,out,ms,c⟩,⟨l,d,y,q⟩,e⟩:=EI a.length (λn i (s:List (List Int)×List Int×List AI×List AO)=>CY N w (p:Int) a kj n i s.1 s.2.1 s.2.2.1 s.2.2.2) (λs=>kj s.1 s.2.1 s.2.2.1 s.2.2.2) (λk s=>∃l,VQ w.b H N W p w.s.E w.s.L w.moves w.sent s.1 s.2.1 s.2.2.1 s.2.2.2 l∧l.length≤k∧∀x,w.s.E[p]? =some x→l=UI H p (a.take k) x∧s.1[p]? =some (Zo (a.take k) x)) (λn k s g=>by
  simp only[CY];rw[E5 g];rfl) (λn k s X g=>by
  obtain⟨o,out,ms,c⟩:=s;obtain⟨l,d,y,q⟩:=X;simp only at q;simp only at d;have D:=h.next d y;have h1:=D.mv;have h2:=D.sn;simp only[CY];rw[Ef g,zV,BK (by omega),BM g,zU,zU];obtain⟨r,F,j,t,z,u,G,q3,Y,Z,I⟩:=Uz J (w:=(⟨w.b,w.in_,(⟨w.s.C,o,w.s.M,w.s.H,w.s.O,w.s.N,out⟩:AF),ms,w.peaks,c⟩:AL)) K (by omega) d.ox Q (v _ (Aap g)) d.ol (by show ms.length≤_;omega) (by show c.length≤_;omega);have hl:F.length≤1:=by rw[I];exact U2
  rw[z,zU];exact⟨(_,_,_,_),⟨l++F,d.trans Z,by rw[Aas];omega,λx m=>by
   obtain⟨u1,u2⟩:=q x m;have u:o[p]? =some j:=u;have B:Zo (a.take k) x=j:=zZ (u2.symm.trans u);rw[Ab6 g,SV,Uy,←u1,B];have v1:UI H p [a[k]] j=(if t.sum≤0 then [] else [(⟨H,(p:Int),(a[k]).to_,(a[k]).way,t⟩:AI)]):=by
    simp only[UI];rw[G];simp
   have v2:Zo [a[k]] j=IE j t:=by
    simp only[Zo];rw[G]
   rw[v1,v2];refine⟨by rw[I],?_⟩;show r.1[p]? =_
   rw[Y];exact GY (Aai.1 u).1 _⟩,rfl⟩) N 0 (w.s.E,w.s.L,w.moves,w.sent) ⟨[],VQ.nil U h.out,Aal _,λx m=>⟨rfl,m⟩⟩ (by omega) (Aad _)
 exact⟨o,out,ms,c,l,d,y,λx m=>by have:=(q x m).1;rwa [Aa9] at this,e⟩
def cU {N:Nat}(g:18446744073709551616<N) {w:AL}{H:Int}{W M:Nat}(J:w.s.C=H) (n:W≤64) (hL:w.b.F.length≤900) (ht:w.in_.Z.length≤1000) (Q:∀l∈w.b.F,J1 w.b l) (q:∀p∈w.b.A,H9 w.b p) (hg:w.s.O.length=w.b.F.length) (U:w.peaks.length=w.b.A.length) (d:w.s.M.length=w.b.A.length) {p:Nat}(c:p<w.b.A.length) (ho:Ie w.b.A.length W w.s.E) (h:fA W w.s.L w.moves w.sent M) (hM:M≤900000):
  ∃r l,Eb N w (p:Int)=some r∧r.2.1.length=w.b.A.length∧VQ w.b H N W p w.s.E w.s.L w.moves w.sent r.1 r.2.2.1 r.2.2.2.1 r.2.2.2.2 l∧l.length≤w.in_.Z.length+w.b.F.length+2∧(∀x,w.s.E[p]? =some x→l.filter (Zn p)=UI H p (MX N w.b p w.in_.Z) x)∧∀x,r.1[p]? =some x→x.sum≤(w.b.A[p]).Av:=by
 have j:1000000<N:=by omega
 have k:=q _ (Aap c);have a1:=Vn g (w:=w) ht c;have a2:=RL N w.b p w.in_.Z;have a3:=aX g (b:=w.b) n p w.in_.Z;generalize V:MX N w.b p w.in_.Z=l1 at a1 a2 a3
 obtain⟨K,b1,b2,b3⟩:=dH g n (by omega) Q hg U c;have X:XL w.b W p (l1++K):=λe he=>(Aa0.1 he).elim (a3 e) λh=>(b3 e h).1;have ad:(l1++K).length≤w.in_.Z.length+w.b.F.length:=by rw[Aas];omega
 unfold Eb;rw[BM c,zU,a1,zU,b1,zU,UY j _ _ (by omega) (by omega),zU];obtain⟨o,out,ms,sn,l,i,i2,i3,e⟩:=cV j J n c ho h hM (l1++K) X (by omega) (D2 N w (p:Int) w.b.A[p]);have Y:=h.next i i2;rw[e];have hf:∀a:List AI,(∀m∈a,m.Ap≠ -3)→∀x,w.s.E[p]? =some x→(l++a).filter (Zn p)=UI H p l1 x:=λa aa x hx=>by
  rw[Ac0,Xj aa,Aa3,i3 x hx,SV,Ac0,Xj (l:=UI H p K _) (λm hm=>by obtain⟨e',ab,h1,_⟩:=SU m hm;have:=(b3 e' ab).2;omega),Aa3,←V,gU]
 unfold D2;cases decide ((w.b.A[p]).T≠0)
 ·obtain⟨r,a,t,u,v,r3,z,B⟩:=UM g J n c k (rem:=w.s.M) (by omega) i.ox Y;exact⟨r,l++a,t,by rw[u];exact d,i.trans v,by rw[Aas];omega,hf a z,B⟩
 ·have D:p<w.peaks.length:=by omega
  have G:p<w.s.M.length:=by omega
  have I:(upd w.s.M (p:Int) 0).length=w.b.A.length:=by rw[MV];exact d
  obtain⟨x,hx,ae,ac⟩:=i.ox.ix c;obtain⟨y,hy⟩:=bW g w.b.A[p] w.peaks[p] w.s.M[p];rw[zV,BM D,zU,zU,BM G,zU,zU,hy,zU,zU,zU,hx,zU,zU,ac.total j (by omega),zU];cases decide (y.1≤x.sum)
  ·obtain⟨r,a,t,u,v,r3,z,B⟩:=UL g J n c k (rem:=upd w.s.M (p:Int) 0) y (by omega) i.ox Y;exact⟨r,l++a,t,by rw[u];exact I,i.trans v,by rw[Aas];omega,hf a z,B⟩
  ·rw[zV,BM (show p<(upd w.s.M (p:Int) 0).length by omega),zU,zU];obtain⟨r,a,t,u,v,r3,z,B⟩:=UL g J n c k (rem:=upd (upd w.s.M (p:Int) 0) (p:Int) y.2) y (by omega) i.ox Y;exact⟨r,l++a,t,by rw[u,MV];exact I,i.trans v,by rw[Aas];omega,hf a z,B⟩
structure Wf (N:Nat) (b:AE) (s:AF) (ts:List HV) (o1:List (List Int)) (r:AF×List AI×List Int) (ns:List Int) (o3:List (List Int)) (l:List AI):Prop where
 nl:ns.length=b.A.length
 mlen:r.2.1.length≤100000
 ml2:r.2.1.length≤64+b.A.length*(ts.length+b.F.length+2)
 n0:∀n∈ns,0≤n
 at3:∀(p:Nat) x n,o1[p]? =some x→ns[p]? =some n→o3[p]? =some (GA (GA x (v1 b.I.length n)) (Q3 b.I.length s.C s.H p))
 ox3:Ie b.A.length b.I.length o3
 os3:E4 o3+GX (JG s.C s.H)≤1125899906842624
 pk:r.2.2=o3.map List.sum
 lv:wR b s.C N b.I.length b.A.length o3 s.L (Tm s.C b.I.length 0 ns) r.1.E r.1.L r.2.1 (l.filterMap (Kl b s.C)) l
 que:r.1.H=JG s.C s.H++l.filterMap (Kl b s.C)
 hour:r.1.C=A9 (s.C+1)
 inn:r.1.N=GA s.N (v1 b.I.length ns.sum)
 tk:∀p,p<b.A.length→∀x,o3[p]? =some x→l.filter (Zn p)=UI s.C p (MX N b p ts) x
 cap:∀(p:Nat) (hp:p<b.A.length) x,r.1.E[p]? =some x→x.sum≤(b.A[p]).Av
structure xF (N:Nat) (b:AE) (H:Int) (ts:List HV) (o3:List (List Int)) (k:Nat) (o:List (List Int)) (l:List AI):Prop where
 tk:∀p,p<k→∀x,o3[p]? =some x→l.filter (Zn p)=UI H p (MX N b p ts) x
 hi:∀p,k≤p→l.filter (Zn p)=[]∧o[p]? =o3[p]?
 cap:∀(p:Nat) (hp:p<b.A.length),p<k→∀x,o[p]? =some x→x.sum≤(b.A[p]).Av
def xF.next {N:Nat}{b:AE}{H:Int}{g:List HV}{u:List (List Int)}{k W:Nat}{o i:List (List Int)}{out c:List Int}{ms j:List AI}{v n:List AO}{l d:List AI}(I:xF N b H g u k o l) (G:k<b.A.length) (q:VQ b H N W k o out ms v i c j n d) (w:∀x,o[k]? =some x→d.filter (Zn k)=UI H k (MX N b k g) x) (y:∀x,i[k]? =some x→x.sum≤(b.A[k]).Av):xF N b H g u (k+1) i (l++d):=by
 have fr:∀m∈d,m.D=(k:Int):=λm z=>(q.mv m z).fr;refine⟨λp s x a=>?_,λp s=>⟨?_,?_⟩,λp s B x a=>?_⟩
 ·rw[Ac0];by_cases e:p=k
  ·subst e;obtain⟨C,F⟩:=I.hi p (Aal _);rw[C,Aav];exact w x (F.trans a)
  ·rw[T8 (λt=>e t.symm) fr,Aa3];exact I.tk p (by omega) x a
 ·rw[Ac0,(I.hi p (by omega)).1,T8 (by omega) fr];rfl
 ·rw[q.own,Uw fr (by omega)];exact(I.hi p (by omega)).2
 ·by_cases e:p=k
  ·subst e;exact y x a
  ·rw[q.own,Uw fr (λt=>e t.symm)] at a;exact I.cap p s (by omega) x a
def oY (N:Nat) (p:List Int) (h0:∀x∈p,0≤x) (i:Int):∃v,KZ N p i=some v∧(0<v→∃j:Nat,i=(j:Int)∧p[j]? =some v):=by
 unfold KZ;cases b:(decide (i<0)||decide ((p.length:Int)≤i)) with
 |true=>exact⟨0,rfl,λd=>absurd d (by decide)⟩
 |false=>
  simp only[Aa2,Aat] at b;obtain⟨j,c,a⟩:=lX (l:=p) (i:=i) (by omega) (by omega);have:=h0 _ (Aap a);rw[zX,c,BM a,zU,zU,zU,Aan (show ¬p[j]<0 by omega)];exact⟨p[j],rfl,λ_=>⟨j,rfl,Aao a⟩⟩
def iV {N W:Nat}(I:1000000<N) (J:W≤1000) {p:List Int}(c:PX W p) (fr to n:Int):∃r,Lq N p fr to n=some r∧PX W r∧r.sum=p.sum:=by
 have s:=c.len;unfold Lq;obtain⟨v,A,t⟩:=oY N p c.nn fr;rw[Ko (by omega) _ (by decide),A,zU,VA];cases y:(((decide (0<min n v)&&decide (0≤to))&&decide (to<(p.length:Int)))&&decide (fr≠to))
 ·exact⟨p,rfl,c,rfl⟩
 ·simp only[Aaa,Aam] at y;obtain⟨⟨⟨K,B⟩,C⟩,M⟩:=y;obtain⟨j,D,d⟩:=t (by omega);obtain⟨k,F,a⟩:=lX (l:=p) (i:=to) B C;have g:=(Aai.1 d).1;have m:=(Aai.1 d).2;have o:j≠k:=by omega
  have G:=c.mem (Abf d);have H:=c.mem (Aap a);have b:k<(upd p (j:Int) (v-min n v)).length:=by rw[MV];exact a
  have u:(upd p (j:Int) (v-min n v))[k]=p[k]:=by
   have:(upd p (j:Int) (v-min n v))[k]? =p[k]? :=IY o _;rw[Aao b,Aao a] at this;exact zZ this
  rw[zV,D,BM g,m];simp only[zU];rw[C7 (n:=v-min n v) (by omega) (by omega),F,BM b,u];simp only[zU];rw[QR N (by omega) (by omega) (by omega) (by omega),zU];have z:(upd (upd p (j:Int) (v-min n v)) (k:Int) (p[k]+min n v)).sum=p.sum:=by
   have w:(p.set j (v-min n v))[k]'(by simpa using a)=p[k]:=List.getElem_set_ne o _;unfold upd;rw[Abh,Abh,Nr (by simpa using a),Nr g,w,m];omega
  refine⟨_,rfl,⟨by rw[MV,MV];exact s,λx q=>?_,by rw[z];exact c.mv⟩,z⟩;rcases Adj q with q|rfl
  ·rcases Adj q with q|rfl
   ·exact c.nn x q
   ·omega
  ·omega
def gY {N:Nat}(v:1000000<N) {w:AL}{W:Nat}(C:W≤1000) (Q:w.in_.Aq.length≤1000) (F:Ie w.b.A.length W w.s.E):∃o,Ea N w=some o∧Ie w.b.A.length W o∧o.map List.sum=w.s.E.map List.sum:=by
 unfold Ea;obtain⟨o,⟨G,H⟩,e⟩:=EI w.in_.Aq.length (λn i l=>CV N w n i l) (λl=>some l) (λ_ l=>Ie w.b.A.length W l∧l.map List.sum=w.s.E.map List.sum) (λn k l d=>by
  simp only[CV];rw[E5 d];rfl) (λn k l a d=>by
  obtain⟨a,c⟩:=a;simp only[CV,GF];rw[Ef d,zV,BM d,BK (by omega)];simp only[zU,NW,Fo,QI];generalize w.in_.Aq[k]=x
  cases g:(((decide (0≤x.Ar)&&decide (x.Ar<(w.b.A.length:Int)))&&(decide (0≤x.D)&&decide (x.D<(w.b.I.length:Int))))&&(decide (0≤x.B)&&decide (x.B<(w.b.I.length:Int))))
  ·exact⟨l,⟨a,c⟩,rfl⟩
  ·simp only[Aaa,Aam] at g;obtain⟨j,J,m⟩:=lX (l:=l) g.1.1.1 (by rw[a.len];exact g.1.1.2);obtain⟨y,K,p,q⟩:=a.ix (k:=j) (by rw[←a.len];exact m);obtain⟨z,M,t,u⟩:=iV v C q x.D x.B x.Bb;rw[zV,J];simp only[K,zU];rw[M,zU];exact⟨_,⟨a.upd _ t,by rw[←c];exact(show(upd l (j:Int) z).map List.sum=upd (l.map List.sum) (j:Int) y.sum by unfold upd;rw[List.map_set,u]).trans (Vv (by rw[Ab7,p];rfl))⟩,rfl⟩) N 0 w.s.E ⟨F,rfl⟩ (by omega) (Aad _)
 exact⟨o,e,G,H⟩
def Ws (N:Nat) {w w':AL}(a:w.b=w'.b) (c:w.in_=w'.in_) (n:Nat):∀(i:Int) (l:List (List Int)),CV N w n i l=CV N w' n i l:=by
 induction n with
 |zero=>intro i l;rfl
 |succ n d=>intro i l;simp only[CV,GF,a,c,d]
def aZ {N:Nat}(d:1000000<N) {b:AE}{s:AF}{in_:Cs}{W:Nat}(g:W≤1000) (i:in_.Aq.length≤1000) (j:Ie b.A.length W s.E):∃o,(∀a:List AQ,Ea N (⟨b,in_,({ s with O:=a}:AF),([]:List AI),(List.replicate ((b.A.length:Int)).toNat (0:Int)),([]:List AO)⟩:AL)=some o)∧Ie b.A.length W o∧E4 o=E4 s.E∧o.map List.sum=s.E.map List.sum:=by
 obtain⟨o,e,k,c⟩:=gY d (w:=(⟨b,in_,s,([]:List AI),[],([]:List AO)⟩:AL)) g i j;refine⟨o,λa=>?_,k,by unfold E4;rw[c],c⟩;rw[←e];exact Ws N (w:=(⟨b,in_,({ s with O:=a}:AF),([]:List AI),(List.replicate ((b.A.length:Int)).toNat (0:Int)),([]:List AO)⟩:AL)) (w':=(⟨b,in_,s,([]:List AI),[],([]:List AO)⟩:AL)) rfl rfl N 0 s.E
def gk (R:List Int) (k:Nat):Int:=min (max (R.getD k 0) 0) 1125899906842624
def YI (R:List Int):Nat→Int
 |0=>0
 |k+1=>YI R k+gk R k
def Yv (R l:List Int):Prop:=∀(i:Nat) n,l[i]? =some n→n≤gk R i
def Yv.snoc {R l:List Int}(m:Yv R l) {k:Nat}(b:l.length=k) {n:Int}(c:n≤gk R k):Yv R (l++[n]):=λi x a=>by
 rcases Aar i k with d|d
 ·rw[Ad1 (by omega)] at a;exact m i x a
 ·have g:=(Aai.1 a).1;rw[Aas,List.length_singleton] at g;have j:i=k:=by omega
  subst j;rw[Ad2 (by omega),b,Nat.sub_self] at a;cases a;exact c
def Yv.take {R l:List Int}(g:Yv R l):∀d k,k+d≤l.length→YI R k-(l.take k).sum≤YI R (k+d)-(l.take (k+d)).sum
 |0,k,_=>Aa6 _
 |d+1,k,a=>by
  have b:=Yv.take g d k (by omega);have c:=g (k+d) _ (Aao (show k+d<l.length by omega));rw[show k+(d+1)=(k+d)+1 by omega,Kj (show k+d<l.length by omega)];simp only[YI];omega
def Yv.sum {R l:List Int}(a:Yv R l):l.sum≤YI R l.length:=by
 have:=Yv.take a l.length 0 (by omega);rw[Aa7,Aa9,Abv] at this;simp only[YI,List.sum_nil] at this;omega
def iG {N:Nat}(hN:1000000<N) {w:AL}{W:Nat}(hW:w.b.I.length=W) (h1:1≤W) (av:W≤16) (hP:w.b.A.length≤64) (J:Ie w.b.A.length W w.s.E) (hq:w.s.H.length≤100000) (v:QX w.b.A.length W w.s.H) (ht:E4 w.s.E+GX w.s.H≤1125899906842624) (U:w.s.N.length=W) (p:∀x∈w.s.N,0≤x) (ad:w.s.N.sum≤1152921504606846976) (hm:w.moves=[]):
  ∃l r,Ht N w=some (r.2.2.2.1,r.2.2.2.2,r.2.2.1)∧yP w W w.b.A.length l r∧Yv w.in_.Aa l∧(l.sum=YI w.in_.Aa w.b.A.length∨r.1=1125899906842624∨r.2.1=1152921504606846976):=by
 have aw:=J.len;have ai:=(GZ v 0).2;rw[Abv,show GX ([]:List AO)=0 from rfl] at ai;unfold Ht;obtain⟨s1,i1,e1⟩:=EI w.s.E.length (λn i s=>C3 N w (DO N w) n s i) (DO N w) (λk s=>s=E4 (w.s.E.take k)) (λn k s g=>by
  simp only[C3];rw[E5 g];rfl) (λn k s V g=>by
  have B:=J.all _ (Aap g);have h2:=Nz J (k+1);rw[NZ g] at h2;have h3:=B.sum0;have h4:=(Nz J k).1;simp only[C3];rw[Ef g,zV,BM g,zU,zU,B.total hN (by omega),zU,BK (by omega),C7 (n:=s+(w.s.E[k]).sum) (by omega) (by omega)];exact⟨_,by rw[NZ g,V],rfl⟩) N 0 0 rfl (by omega) (Aad _)
 rw[show C3 N w (DO N w) N 0 0=DO N w s1 from e1];rw[Aa9] at i1;have ax:=J.sum0;unfold DO;obtain⟨s2,i2,e2⟩:=EI w.s.H.length (λn i s=>C2 N w (C4 N w) n s i) (C4 N w) (λk s=>s=E4 w.s.E+GX (w.s.H.take k)) (λn k s g=>by
  simp only[C2];rw[E5 g];rfl) (λn k s V g=>by
  have B:=(v _ (Aap g)).1;have h2:=GZ v (k+1);rw[MK g] at h2;have h3:=B.sum0;have h4:=(GZ v k).1;simp only[C2];rw[Ef g,zV,BM g,zU,B.total hN (by omega),zU,BK (by omega),C7 (n:=s+(w.s.H[k]).K.sum) (by omega) (by omega)];exact⟨_,by rw[MK g,V];omega,rfl⟩) N 0 s1 (by rw[i1,Abv];simp [GX]) (by omega) (Aad _)
 rw[show C2 N w (C4 N w) N s1 0=C4 N w s2 from e2];rw[Aa9] at i2;have ay:=Jz p;unfold C4;rw[Vk hN (by omega) p (by omega),zU];obtain⟨s,⟨l,i3,i4⟩,e⟩:=EI w.b.A.length (λn i (s:Int×Int×List AI×List (List Int)×List Int)=>CB N w n s.1 s.2.1 i s.2.2.1 s.2.2.2.1 s.2.2.2.2) (λs=>some (s.2.2.2.1,s.2.2.2.2,s.2.2.1)) (λk s=>∃l,yP w W k l s∧Yv w.in_.Aa l∧(l.sum=YI w.in_.Aa k∨s.1=1125899906842624∨s.2.1=1152921504606846976)) (λn k s g=>by
  simp only[CB];rw[E5 g];rfl) (λn k s V g=>by
  obtain⟨a,c,ms,o,j⟩:=s;obtain⟨l,⟨X,q2,q3,Y,q5,q6,⟨q7,q8⟩,q9,⟨D,ae⟩,Z⟩,qp,qm⟩:=V;simp only at q3 Y q5 q6 q7 q8 q9 D ae Z qm;have az:=Y.sum0;have aj:=Jz q2;obtain⟨x,B,F,q⟩:=Y.ix g;obtain⟨x1,a0,M,ap⟩:=J.ix g;have ak:x=x1:=by rw[q6 k (Aal _),M] at F;exact(zZ F).symm
  have hj:∀m:Int,m≤1125899906842624-a→m≤1152921504606846976-c→(max m 0≤gk w.in_.Aa k∧(l.sum+max m 0=YI w.in_.Aa (k+1)∨a+max m 0=1125899906842624∨c+max m 0=1152921504606846976))→∃s':Int×Int×List AI×List (List Int)×List Int,(∃l,yP w W (k+1) l s'∧Yv w.in_.Aa l∧(l.sum=YI w.in_.Aa (k+1)∨s'.1=1125899906842624∨s'.2.1=1152921504606846976))∧EO N w a c (k:Int) ms o j (EQ N (k:Int) (CB N w n)) m=CB N w n s'.1 s'.2.1 ((k+1:Nat):Int) s'.2.2.1 s'.2.2.2.1 s'.2.2.2.2:=λm a1 a2 a3=>by
   unfold EO EQ;rw[BK (by omega)];by_cases af:m≤0
   ·rw[Aaq af,zV];refine⟨(a,c,ms,o,j),⟨l++[0],⟨by simp [X],λn d=>?_,?_,Y,λi y n hy d=>?_,λi V=>q6 i (by omega),⟨q7,q8⟩,by rw[Abq];simpa using q9,⟨by rw[Abq];simpa using D,ae⟩,by rw[Abq];simpa using Z⟩,qp.snoc X (by omega),by show _∨a=_∨c=_;rw[show (l++[(0:Int)]).sum=l.sum by simp];omega⟩,rfl⟩
    ·rcases Aa0.1 d with d|d
     ·exact q2 n d
     ·rw[Abi.1 d];exact Aa6 0
    ·show ms=_
     rw[S5,zY (by omega),Aa3];exact q3
    ·show o[i]? =_
     by_cases aa:i<k
     ·rw[Ad1 (by omega)] at d;exact q5 i y n hy d
     ·have t:i=k:=by
       have:=(Aai.1 d).1;simp at this;omega
      subst t;rw[Ad2 (by omega),X,Nat.sub_self] at d;cases d;rw[PW,RI (J.all y (Abf hy)).len,q6 i (Aal _),hy]
   ·have a4:=Y.le F;have hv:=aB h1 (n:=m) (by omega) (by omega);have ag:=RJ h1 m;obtain⟨x0,ab⟩:=Df.ix (l:=x) (i:=0) (Aa6 _) (by rw[q.len];omega);have aq:=q.mem (Abf (Dy ab).2);have ah:j.length=W:=by rw[q9];exact Ki U (Lw _ _)
    obtain⟨y0,G⟩:=Df.ix (l:=j) (i:=0) (Aa6 _) (by omega);have u:∀z∈j,0≤z:=by
     rw[q9];refine PV p λz hz=>?_;rcases Adj hz with hz|rfl
     ·rw[(List.mem_replicate.1 hz).2];exact Aa6 0
     ·exact aj
    have al:j.sum=c:=by rw[q9,JE (by rw[U,Lw]),RJ h1,D]
    have ar:=Hw u _ (Abf (Dy G).2);have au:=u _ (Abf (Dy G).2);obtain⟨z0,am⟩:=Df.ix (l:=List.replicate ((w.b.I.length:Int)).toNat (0:Int)) (i:=0) (Aa6 _) (by rw[Nx];omega);have a5:=Up w.s.C W l 0;rw[Aan af,zX,B,zU,zU,ab,zU,zU,G,zU,zU,zU,zU,Ko (by omega) _ (by decide),am,zU,zU,JY (by rw[q3];simp;omega),C7 (n:=a+m) (by omega) (by omega),C7 (n:=c+m) (by omega) (by omega),C7 (n:=x0+m) (by omega) (by omega),C7 (n:=y0+m) (by omega) (by omega),Xh q.len h1 m x0 ab,Xh ah h1 m y0 G];have an:PX W (GA x (v1 W m)):=q.add hv (by rw[ag];omega);have Q:E4 (upd o (k:Int) (GA x (v1 W m)))=E4 o+m:=by
     rw[Qo F,JE (q.len.trans hv.len.symm),ag];omega
    have ao:List.replicate ((w.b.I.length:Int)).toNat (0:Int)=List.replicate W 0:=by rw[hW];rfl
    refine⟨(a+m,c+m,ms++[⟨w.s.C, -1,(k:Int), -4,upd (List.replicate ((w.b.I.length:Int)).toNat (0:Int)) 0 m⟩],upd o (k:Int) (GA x (v1 W m)),GA j (v1 W m)),⟨l++[m],⟨by simp [X],λn d=>?_,?_,Y.upd _ an,λi y n hy d=>?_,λi V=>?_,⟨?_,by show a+m≤_;omega⟩,?_,⟨?_,by show c+m≤_;omega⟩,?_⟩,qp.snoc X (by omega),by show _∨a+m=_∨c+m=_;rw[show (l++[m]).sum=l.sum+m by simp];omega⟩,rfl⟩
    ·rcases Aa0.1 d with d|d
     ·exact q2 n d
     ·rw[Abi.1 d];omega
    ·show ms++_=_
     rw[S5,Aab (by omega),q3,ao,Aa7,X];rfl
    ·show(upd o (k:Int) _)[i]? =_
     by_cases aa:k=i
     ·subst aa;rw[Ad2 (by omega),X,Nat.sub_self] at d;cases d;rw[GY (by rw[Y.len];exact g),ak];rw[M] at hy;cases hy;rfl
     ·have t:i<l.length:=by
       have:=(Aai.1 d).1;simp at this;omega
      rw[IY aa];rw[Ad1 t] at d;exact q5 i y n hy d
    ·show(upd o (k:Int) _)[i]? =_
     rw[IY (by omega)];exact q6 i (by omega)
    ·show a+m=E4 _+_
     rw[Q];omega
    ·show GA j (v1 W m)=_
     rw[q9,Abq,Si];rw[aC h1];simp
    ·show c+m=_
     rw[Abq,D];simp;omega
    ·show E4 _=_
     rw[Q,Z,Abq];simp;omega
  simp only[CB];rw[Ef g,zV];cases hr:decide ((k:Int)<(w.in_.Aa.length:Int))
  ·have hr:=Adi hr;have ac:w.in_.Aa.getD k 0=0:=by rw[Aa5,Aa8 (by omega)];rfl
   exact hj 0 (by omega) (by omega) (by simp only[YI,gk,ac];omega)
  ·have hr:=Ab8 hr;have a6:0≤c:=by omega
   rw[zV,BM (show k<w.in_.Aa.length by omega),zU,C7 (n:=1125899906842624-a) (by omega) (by omega),C7 (n:=1152921504606846976-c) (by omega) (by omega)];have ac:w.in_.Aa.getD k 0=w.in_.Aa[k]:=by simp [Aa5,show k<w.in_.Aa.length by omega]
   exact hj _ (by omega) (by omega) (by simp only[YI,gk,ac];omega)) N 0 (s2,w.s.N.sum,w.moves,w.s.E,w.s.N) ⟨[],⟨rfl,λn d=>(by cases d),hm,J,λi x n _ d=>(by cases d),λi _=>rfl,⟨by show s2=_;rw[i2],by show s2≤_;omega⟩,by
    show w.s.N=GA _ (v1 W 0)
    rw[PW,RI U],⟨by show w.s.N.sum=_;simp,ad⟩,by simp⟩,(λi x B=>by cases B),.inl rfl⟩ (by omega) (Aad _)
 exact⟨l,s,e,i3,i4⟩
structure yW (N:Nat) (b:AE) (s:AF) (in_:Cs) (o1:List (List Int)) (gs:List AQ) (o2:List (List Int)) (inn:List Int) (ms:List AI) (z:List (List Int)×List AO×List AQ×List Int) (ns:List Int):Prop where
 eg:Gc N (⟨b,in_,s,([]:List AI),(List.replicate ((b.A.length:Int)).toNat (0:Int)),([]:List AO)⟩:AL)=some gs
 ez:El N (⟨b,in_,(⟨s.C,o2,s.M,s.H,gs,inn,s.L⟩:AF),ms,(List.replicate ((b.A.length:Int)).toNat (0:Int)),([]:List AO)⟩:AL)=some z
 nl:ns.length=b.A.length
 n0:∀n∈ns,0≤n
 ms_:ms=Tm s.C b.I.length 0 ns
 at3:∀(p:Nat) x n,o1[p]? =some x→ns[p]? =some n→z.1[p]? =some (GA (GA x (v1 b.I.length n)) (Q3 b.I.length s.C s.H p))
 own:Ie b.A.length b.I.length z.1
 rest:z.2.1=JG s.C s.H
 pk:z.2.2.2=z.1.map List.sum
 gl:z.2.2.1.length=b.F.length
 inn_:inn=GA s.N (v1 b.I.length ns.sum)
 tot:E4 z.1+GX (JG s.C s.H)=E4 s.E+GX s.H+ns.sum
 tot2:E4 s.E+GX s.H+ns.sum≤1125899906842624
 pw:Yv in_.Aa ns
 max_:ns.sum=YI in_.Aa b.A.length∨E4 s.E+GX s.H+ns.sum=1125899906842624∨s.N.sum+ns.sum=1152921504606846976
 ins:s.N.sum+ns.sum≤1152921504606846976
def bB {N:Nat}(hN:18446744073709551616<N) {b:AE}(B:II b) (D:∀l∈b.F,J1 b l) (ad:∀p∈b.A,H9 b p) {s:AF}(d:yN b s) (hq:s.H.length≤100000) {in_:Cs}(h1:in_.Ah.length≤1000) (h2:in_.Aj.length≤1000) (h3:in_.Z.length≤1000) {q:List (List Int)}(h4:∀j:List AQ,Ea N (⟨b,in_,({ s with O:=j}:AF),([]:List AI),(List.replicate ((b.A.length:Int)).toNat (0:Int)),([]:List AO)⟩:AL)=some q) (G:Ie b.A.length b.I.length q) (J:E4 q=E4 s.E):
  ∃j m g ms z K,Em N b s in_=DV N b in_ s (m,g,ms) z (DW N s (m,g,ms) z) N 0 z.1 s.M s.L ms ([]:List AO)∧yW N b s in_ q j m g ms z K:=by
 have hP:=B.pl;have hL:=B.li;have hW:=B.own;have Q:=B.own1;have i:1000000<N:=by omega
 unfold Em;rw[UW i (by have:=d.own.len;omega) (λx U=>by have:=(d.own.all x U).len;omega) (by have:=d.rem;omega) (by have:=d.gates;omega) (by have:=d.inn;omega) (by have:=d.out;omega),zU,Ko (by omega) _ (by decide)];have V:Y1 b.F.length s.O (zF s):=⟨d.gates,λk hk=>by
  have:k<s.O.length:=by rw[d.gates];exact hk
  simp [zF,Aa5,this]⟩
 obtain⟨j,eg,hg⟩:=cQ i (w:=(⟨b,in_,s,([]:List AI),(List.replicate ((b.A.length:Int)).toNat (0:Int)),([]:List AO)⟩:AL)) rfl (show b.F.length≤1000 by omega) h1 h2 V;rw[eg,zU];have X:=h4 j;rw[X,zU];obtain⟨K,⟨a,c,ms,m,g⟩,ey,⟨q1,q2,q3,q4,q5,q6,⟨q7,q8⟩,q9,⟨Y,aa⟩,ab⟩,qp,qm⟩:=iG i (w:=(⟨b,in_,(⟨s.C,q,s.M,s.H,j,s.N,s.L⟩:AF),([]:List AI),(List.replicate ((b.A.length:Int)).toNat (0:Int)),([]:List AO)⟩:AL)) (W:=b.I.length) rfl Q hW hP G hq d.que (by show E4 q+GX s.H≤_;rw[J];exact d.tot) d.inn d.inn0 d.inns rfl;simp only at q1 q2 q3 q4 q5 q6 q7 q8 q9 Y aa ab qm ey;rw[ey,zU];obtain⟨z,ez,⟨t,u,o,v,ac⟩,y⟩:=sB i (w:=(⟨b,in_,(⟨s.C,m,s.M,s.H,j,g,s.L⟩:AF),ms,(List.replicate ((b.A.length:Int)).toNat (0:Int)),([]:List AO)⟩:AL)) (W:=b.I.length) rfl hW hP hL D q4 hq d.que (by show E4 m+GX s.H≤_;omega) (Nx _ _) hg.1;simp only at t u o v ac y;rw[ez,zU];exact⟨j,m,g,ms,z,K,rfl,⟨eg,ez,q1,q2,q3,λp x n U hn=>u p _ (q5 p x n U hn),t,o,v,y,q9,by rw[←o];omega,by omega,qp,by omega,by omega⟩⟩
def hE {N:Nat}(hN:18446744073709551616<N) {b:AE}(y:II b) (B:∀l∈b.F,J1 b l) (g:∀p∈b.A,H9 b p) {s:AF}(U:yN b s) (hq:s.H.length≤100000) {in_:Cs}(h1:in_.Ah.length≤1000) (h2:in_.Aj.length≤1000) (h3:in_.Z.length≤1000) {V:List (List Int)}(h4:∀gs:List AQ,Ea N (⟨b,in_,({ s with O:=gs}:AF),([]:List AI),(List.replicate ((b.A.length:Int)).toNat (0:Int)),([]:List AO)⟩:AL)=some V) (aa:Ie b.A.length b.I.length V) (ab:E4 V=E4 s.E):
  ∃r d o3 l,Em N b s in_=some r∧Wf N b s in_.Z V r d o3 l∧E4 o3+GX (JG s.C s.H)=E4 s.E+GX s.H+d.sum∧Yv in_.Aa d∧(d.sum=YI in_.Aa b.A.length∨E4 s.E+GX s.H+d.sum=1125899906842624∨s.N.sum+d.sum=1152921504606846976)∧s.N.sum+d.sum≤1152921504606846976:=by
 have hP:=y.pl;have hL:=y.li;have hW:=y.own;have ad:=y.own1;have ae:1000000<N:=by omega
 obtain⟨gs,v,a,ms,z,d,eS,h⟩:=bB hN y B g U hq h1 h2 h3 h4 aa ab;have q1:=h.nl;have q2:=h.n0;have q3:=h.ms_;have q:=h.own;have D:=h.rest;have G:=h.pk;have ac:=h.gl;have k1:=h.tot;have k2:=h.tot2;have af:=Up s.C b.I.length d 0;obtain⟨⟨o,rm,out,c,X⟩,⟨l,i1,j,u,J⟩,e⟩:=EI b.A.length (λn i (t:List (List Int)×List Int×List Int×List AI×List AO)=>DV N b in_ s (v,a,ms) z (DW N s (v,a,ms) z) n i t.1 t.2.1 t.2.2.1 t.2.2.2.1 t.2.2.2.2) (λt=>DW N s (v,a,ms) z t.1 t.2.1 t.2.2.1 t.2.2.2.1 t.2.2.2.2) (λk t=>∃l,t.2.1.length=b.A.length∧wR b s.C N b.I.length k z.1 s.L ms t.1 t.2.2.1 t.2.2.2.1 t.2.2.2.2 l∧fA b.I.length t.2.2.1 t.2.2.2.1 t.2.2.2.2 (64+k*(in_.Z.length+b.F.length+2))∧xF N b s.C in_.Z z.1 k t.1 l) (λn k t K=>by
  simp only[DV];rw[E5 K];rfl) (λn k t hi K=>by
  obtain⟨o,rm,out,c,X⟩:=t;obtain⟨l,i1,j,u,J⟩:=hi;simp only at i1 j u J;simp only[DV];have Q:k*(in_.Z.length+b.F.length+2)≤64*(1000+96+2):=Ac9 (by omega) (by omega);obtain⟨r,l',er,r1,r2,r3,r5,r4⟩:=cU hN (w:=(⟨b,in_,(⟨s.C,o,rm,z.2.1,z.2.2.1,a,out⟩:AF),c,z.2.2.2,X⟩:AL)) (H:=s.C) (W:=b.I.length) rfl (by omega) (by show b.F.length≤_;omega) h3 B g ac (by show z.2.2.2.length=_;rw[G,List.length_map];exact q.len) i1 K j.ox u (by omega);rw[Ef K,zV,er,zU,BK (by omega)];have hM:64+(k+1)*(in_.Z.length+b.F.length+2)=64+k*(in_.Z.length+b.F.length+2)+(in_.Z.length+b.F.length+2):=by rw[Ab2];omega
  exact⟨(_,_,_,_,_),⟨l++l',r1,j.next r2,by rw[hM];exact u.next r2 r3,J.next K r2 r5 r4⟩,rfl⟩) N 0 (z.1,s.M,s.L,ms,[]) ⟨[],U.rem,⟨λm hm=>(by cases hm),.nil,by simp,rfl,rfl,rfl,trivial,q,U.out,by simp [KT]⟩,⟨U.out,by show ms.length≤_;rw[q3];omega,by simp⟩,⟨λp Y=>(by omega),λp _=>⟨rfl,rfl⟩,λp _ Y=>(by omega)⟩⟩ (by omega) (Aad _)
 rw[eS,show DV N b in_ s (v,a,ms) z (DW N s (v,a,ms) z) N 0 z.1 s.M s.L ms ([]:List AO)=DW N s (v,a,ms) z o rm out c X from e];simp only at j u;have Q:b.A.length*(in_.Z.length+b.F.length+2)≤64*(1000+96+2):=Ac9 hP (by omega);have ag:=u.sn;have ah:=u.mv;have ai:z.2.1.length≤s.H.length:=by rw[D];exact List.length_filter_le _ _
 unfold DW;rw[JY (by omega)];refine⟨_,d,z.1,l,rfl,⟨q1,by show c.length≤_;omega,by show c.length≤_;omega,q2,h.at3,q,by omega,G,?_,?_,rfl,h.inn_,J.tk,λp Y x hx=>J.cap p Y Y x hx⟩,h.tot,h.pw,h.max_,h.ins⟩
 ·rw[←j.sn_,←q3];exact j
 ·show z.2.1++X=_
  rw[D,j.sn_]
end Go.Proofs.YtedgiljmffngoaaGreat
