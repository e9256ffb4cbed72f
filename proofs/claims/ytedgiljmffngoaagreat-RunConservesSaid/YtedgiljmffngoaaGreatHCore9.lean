import Derived.Test.YtedgiljmffngoaaGreatHPureT1
import Derived.Test.YtedgiljmffngoaaGreatHCore10
import Derived.ProofKit
import Derived.OpenShut
import Derived.JoinedCond
import Derived.Deep.Slices
namespace Go.Proofs.YtedgiljmffngoaaGreat
set_option linter.all false
open Go.RowKit
def YO {c:Prop}[Decidable c]{H a t b:Int}{y:List Int}(g:b≠ -3):∀m∈(if c then [] else [(⟨H,a,t,b,y⟩:AJ)]),m.Bd≠ -3:=λm d=>by
 split at d
 ·cases d
 ·rw[Ace.1 d];exact g
def Zv (p:Nat) (m:AJ):Bool:=decide (m.I=(p:Int))&&decide (m.Bd= -3)
def Xp {p:Nat}{l:List AJ}(b:∀m∈l,m.Bd≠ -3):l.filter (Zv p)=[]:=List.filter_eq_nil_iff.2 λm a=>by unfold Zv;simp [b m a]
def T9 {p q:Nat}(a:q≠p){l:List AJ}(c:∀m∈l,m.I=(q:Int)):l.filter (Zv p)=[]:=List.filter_eq_nil_iff.2 λm b=>by unfold Zv;rw[c m b];simp;omega
def iO {H:Int}{p N:Nat}{b:AF}{a:List Hi}{x:List Int}:(UL H p (Mc N b p a) x).filter (Zv p)=UL H p (Mc N b p a) x:=List.filter_eq_self.2 λm c=>by
 obtain⟨e,d,g,i⟩:=ST m c;obtain⟨t,_,rfl⟩:=Ab1.1 d;unfold Zv;rw[g,i];simp [Xr]
def U4 {p:Nat}:∀{l:List AJ}{o:List (List Int)}(c:∀m∈l,m.I=(p:Int)){j:Nat}(a:p≠j),(QE o l)[j]? =o[j]?
 |[],_,_,_,_=>rfl
 |m::l,o,c,j,a=>by
  show(QE (upd o m.I (IK (o.getD m.I.toNat []) m.K)) l)[j]? =_
  rw[U4 (p:=p) (l:=l) (λq b=>c q (.tail _ b)) a,c m (.head _),Ig a]
def US {N:Nat}(G:18446744073709551616<N){w:AN}{H:Int}{W:Nat}(U:w.s.B=H) (I:W≤64){p:Nat}(v:p<w.b.A.length) (i:IG w.b w.b.A[p]){o:List (List Int)}{out:List Int}{ms:List AJ}{j:List AM}{rem:List Int}{M:Nat}(hM:M≤999999) (z:In w.b.A.length W o) (h:fZ W out ms j M):
  ∃r l,Cu N w (p:Int) w.b.A[p] o out ms j rem=some r∧r.2.1=rem∧Va w.b H N W p o out ms j r.1 r.2.2.1 r.2.2.2.1 r.2.2.2.2 l∧l.length≤1∧(∀m∈l,m.Bd≠ -3)∧∀x,r.1[p]? =some x→x.sum≤(w.b.A[p]).Au:=by
 have k:1000000<N:=by omega
 have h1:=h.mv;have h2:=h.sn;have q:=i.cap;unfold JI at q;have C:w.b.A.getD p default=w.b.A[p]:=by simp [Abg,v]
 unfold Cu;obtain⟨x,V,d,a⟩:=z.ix v;have X:=a.mv;have Y:=a.sum0;rw[V,Aav,Aav,a.total k (by omega),Aav,DJ (n:=x.sum-(w.b.A[p]).Au) (by omega) (by omega)];by_cases u:0<x.sum-(w.b.A[p]).Au
 ·rw[Abs u,Aax,HN,Aav];have Z:uF w.b W p ⟨(w.b.A[p]).Ap,(w.b.A[p]).S, -2,λy=>AL N (x.sum-(w.b.A[p]).Au) y⟩:=⟨λy c=>by obtain⟨t,e,h,_⟩:=Qi G I (x.sum-(w.b.A[p]).Au) y c;exact⟨t,e,h⟩,by show(-2:Int)≠ -4;decide,i.down,by show _=Pu _ _ (-2);unfold Pu;rw[Aaw (by omega),Aaw (by decide),C]⟩
  obtain⟨r,l,x',t,D,F,g,q3,J,K,Q⟩:=U7 k (w:=(⟨w.b,w.in_,(⟨w.s.B,o,rem,w.s.E,w.s.O,w.s.N,out⟩:AE),ms,w.peaks,j⟩:AN)) U (by omega) z v Z h.out (by show ms.length≤_;omega) (by show j.length≤_;omega);simp only at F g J K;rw[d] at F;cases F;obtain⟨t',e',_,ts⟩:=Qi G I (x.sum-(w.b.A[p]).Au) x a;rw[e'] at g;have g:=Aaz Prod.fst (Aa1 g);simp only at g;subst g;rw[D,Aav];refine⟨_,l,rfl,rfl,K,by rw[Q];exact VA,by rw[Q];exact YO (by show(-2:Int)≠ -3;decide),λy c=>?_⟩;have c:r.1[p]? =some y:=c;rw[J,GL (Aba.1 d).1] at c;rw[←Aa1 c,(q3.sub a).2.1,ts];omega
 ·rw[Abe u,Aa0];refine⟨_,[],rfl,rfl,Va.nil z h.out,by simp,λm hm=>(by cases hm),λy c=>?_⟩;have c:o[p]? =some y:=c;rw[d] at c;cases c;omega
def UR {N:Nat}(q:18446744073709551616<N){w:AN}{H:Int}{W:Nat}(u:w.s.B=H) (v:W≤64){p:Nat}(g:p<w.b.A.length) (a:IG w.b w.b.A[p]){o:List (List Int)}{out:List Int}{ms:List AJ}{c:List AM}{rem:List Int}(y:Int×Int){M:Nat}(Z:M≤999998) (D:In w.b.A.length W o) (h:fZ W out ms c M):
  ∃r l,EC N w (p:Int) w.b.A[p] o out ms c y (Cu N w (p:Int) w.b.A[p]) rem=some r∧r.2.1=rem∧Va w.b H N W p o out ms c r.1 r.2.2.1 r.2.2.2.1 r.2.2.2.2 l∧l.length≤2∧(∀m∈l,m.Bd≠ -3)∧∀x,r.1[p]? =some x→x.sum≤(w.b.A[p]).Au:=by
 have i:1000000<N:=by omega
 have h1:=h.mv;have h2:=h.sn;have j:w.b.A.getD p default=w.b.A[p]:=by simp [Abg,g]
 unfold EC;rw[HN,Aav];have F:uF w.b W p ⟨(w.b.A[p]).Ap,(w.b.A[p]).S, -1,λx=>AL N y.1 x⟩:=⟨λz G=>by obtain⟨t,e,h,_⟩:=Qi q v y.1 z G;exact⟨t,e,h⟩,by show(-1:Int)≠ -4;decide,a.down,by show _=Pu _ _ (-1);unfold Pu;rw[Aaw (by omega),Aaw (by decide),j]⟩
 obtain⟨r,l,x',t,k,q1,q2,q3,q4,n,C⟩:=U7 i (w:=(⟨w.b,w.in_,(⟨w.s.B,o,rem,w.s.E,w.s.O,w.s.N,out⟩:AE),ms,w.peaks,c⟩:AN)) u (by omega) D g F h.out (by show ms.length≤_;omega) (by show c.length≤_;omega);have I:l.length≤1:=by rw[C];exact VA
 have J:=h.next n I;rw[k,Aav];obtain⟨r',K,Q,U,V,z3,X,Y⟩:=US q u v g a (rem:=rem) (M:=M+1) (by omega) n.ox J;exact⟨r',l++K,Q,U,n.trans V,by rw[Abi];omega,λm d=>(Ab3.1 d).elim (λd=>by rw[C] at d;exact YO (by show(-1:Int)≠ -3;decide) m d) (X m),Y⟩
def dM {N:Nat}(K:1000000<N){w:AN}{H:Int}{W M:Nat}(Q:w.s.B=H) (hW:W≤64){p:Nat}(U:p<w.b.A.length) (V:In w.b.A.length W w.s.D) (h:fZ W w.s.L w.moves w.sent M) (hM:M≤900000) (a:List AD) (v:XL w.b W p a) (X:a.length≤2000) (kj:List (List Int)→List Int→List AJ→List AM→Option (List (List Int)×List Int×List Int×List AJ×List AM)):
  ∃o out ms c l,Va w.b H N W p w.s.D w.s.L w.moves w.sent o out ms c l∧l.length≤a.length∧(∀x,w.s.D[p]? =some x→l=UL H p a x)∧C0 N w (p:Int) a kj N 0 w.s.D w.s.L w.moves w.sent=kj o out ms c:=by
 obtain⟨⟨o,out,ms,c⟩,⟨l,d,y,q⟩,e⟩:=Da a.length (λn i (s:List (List Int)×List Int×List AJ×List AM)=>C0 N w (p:Int) a kj n i s.1 s.2.1 s.2.2.1 s.2.2.2) (λs=>kj s.1 s.2.1 s.2.2.1 s.2.2.2) (λk s=>∃l,Va w.b H N W p w.s.D w.s.L w.moves w.sent s.1 s.2.1 s.2.2.1 s.2.2.2 l∧l.length≤k∧∀x,w.s.D[p]? =some x→l=UL H p (a.take k) x∧s.1[p]? =some (Zw (a.take k) x)) (λn k s g=>by
  simp only[C0];rw[ES g];rfl) (λn k s Y g=>by
  obtain⟨o,out,ms,c⟩:=s;obtain⟨l,d,y,q⟩:=Y;simp only at q;simp only at d;have F:=h.next d y;have h1:=F.mv;have h2:=F.sn;simp only[C0];rw[ER g,Aax,BF (by omega),BI g,Aav,Aav];obtain⟨r,G,j,t,z,u,I,q3,Z,q5,J⟩:=U7 K (w:=(⟨w.b,w.in_,(⟨w.s.B,o,w.s.M,w.s.E,w.s.O,w.s.N,out⟩:AE),ms,w.peaks,c⟩:AN)) Q (by omega) d.ox U (v _ (Abc g)) d.ol (by show ms.length≤_;omega) (by show c.length≤_;omega);have hl:G.length≤1:=by rw[J];exact VA
  rw[z,Aav];exact⟨(_,_,_,_),⟨l++G,d.trans q5,by rw[Abi];omega,λx m=>by
   obtain⟨u1,u2⟩:=q x m;have u:o[p]? =some j:=u;have C:Zw (a.take k) x=j:=Aa1 (u2.symm.trans u);rw[Acv g,SU,U6,←u1,C];have v1:UL H p [a[k]] j=(if t.sum≤0 then [] else [(⟨H,(p:Int),(a[k]).to_,(a[k]).way,t⟩:AJ)]):=by
    simp only[UL];rw[I];simp
   have v2:Zw [a[k]] j=IK j t:=by
    simp only[Zw];rw[I]
   rw[v1,v2];refine⟨by rw[J],?_⟩;show r.1[p]? =_
   rw[Z];exact GL (Aba.1 u).1 _⟩,rfl⟩) N 0 (w.s.D,w.s.L,w.moves,w.sent) ⟨[],Va.nil V h.out,Abd _,λx m=>⟨rfl,m⟩⟩ (by omega) (Aa4 _)
 exact⟨o,out,ms,c,l,d,y,λx m=>by have:=(q x m).1;rwa [Abo] at this,e⟩
def dL {N:Nat}(g:18446744073709551616<N){w:AN}{H:Int}{W M:Nat}(K:w.s.B=H) (n:W≤64) (hL:w.b.G.length≤900) (ht:w.in_.Ab.length≤1000) (U:∀l∈w.b.G,J8 w.b l) (q:∀p∈w.b.A,IG w.b p) (hg:w.s.O.length=w.b.G.length) (V:w.peaks.length=w.b.A.length) (d:w.s.M.length=w.b.A.length){p:Nat}(c:p<w.b.A.length) (ho:In w.b.A.length W w.s.D) (h:fZ W w.s.L w.moves w.sent M) (hM:M≤900000):
  ∃r l,Gl N w (p:Int)=some r∧r.2.1.length=w.b.A.length∧Va w.b H N W p w.s.D w.s.L w.moves w.sent r.1 r.2.2.1 r.2.2.2.1 r.2.2.2.2 l∧l.length≤w.in_.Ab.length+w.b.G.length+2∧(∀x,w.s.D[p]? =some x→l.filter (Zv p)=UL H p (Mc N w.b p w.in_.Ab) x)∧∀x,r.1[p]? =some x→x.sum≤(w.b.A[p]).Au:=by
 have j:1000000<N:=by omega
 have k:=q _ (Abc c);have a1:=bA g (w:=w) ht c;have a2:=UA N w.b p w.in_.Ab;have a3:=bC g (b:=w.b) n p w.in_.Ab;generalize X:Mc N w.b p w.in_.Ab=l1 at a1 a2 a3
 obtain⟨Q,b1,b2,b3⟩:=eA g n (by omega) U hg V c;have Y:XL w.b W p (l1++Q):=λe he=>(Ab3.1 he).elim (a3 e) λh=>(b3 e h).1;have ad:(l1++Q).length≤w.in_.Ab.length+w.b.G.length:=by rw[Abi];omega
 unfold Gl;rw[BI c,Aav,a1,Aav,b1,Aav,Zm j _ _ (by omega) (by omega),Aav];obtain⟨o,out,ms,sn,l,i,i2,i3,e⟩:=dM j K n c ho h hM (l1++Q) Y (by omega) (Et N w (p:Int) w.b.A[p]);have Z:=h.next i i2;rw[e];have hf:∀a:List AJ,(∀m∈a,m.Bd≠ -3)→∀x,w.s.D[p]? =some x→(l++a).filter (Zv p)=UL H p l1 x:=λa aa x hx=>by
  rw[Adt,Xp aa,Abx,i3 x hx,SU,Adt,Xp (l:=UL H p Q _) (λm hm=>by obtain⟨e',ab,h1,_⟩:=ST m hm;have:=(b3 e' ab).2;omega),Abx,←X,iO]
 unfold Et;cases decide ((w.b.A[p]).T≠0)
 ·obtain⟨r,a,t,u,v,r3,z,C⟩:=US g K n c k (rem:=w.s.M) (by omega) i.ox Z;exact⟨r,l++a,t,by rw[u];exact d,i.trans v,by rw[Abi];omega,hf a z,C⟩
 ·have F:p<w.peaks.length:=by omega
  have I:p<w.s.M.length:=by omega
  have J:(upd w.s.M (p:Int) 0).length=w.b.A.length:=by rw[MG];exact d
  obtain⟨x,hx,ae,ac⟩:=i.ox.ix c;obtain⟨y,hy⟩:=cE g w.b.A[p] w.peaks[p] w.s.M[p];rw[Aax,BI F,Aav,Aav,BI I,Aav,Aav,hy,Aav,Aav,Aav,hx,Aav,Aav,ac.total j (by omega),Aav];cases decide (y.1≤x.sum)
  ·obtain⟨r,a,t,u,v,r3,z,C⟩:=UR g K n c k (rem:=upd w.s.M (p:Int) 0) y (by omega) i.ox Z;exact⟨r,l++a,t,by rw[u];exact J,i.trans v,by rw[Abi];omega,hf a z,C⟩
  ·rw[Aax,BI (show p<(upd w.s.M (p:Int) 0).length by omega),Aav,Aav];obtain⟨r,a,t,u,v,r3,z,C⟩:=UR g K n c k (rem:=upd (upd w.s.M (p:Int) 0) (p:Int) y.2) y (by omega) i.ox Z;exact⟨r,l++a,t,by rw[u,MG];exact J,i.trans v,by rw[Abi];omega,hf a z,C⟩
structure Wk (N:Nat) (b:AF) (s:AE) (ts:List Hi) (o1:List (List Int)) (r:AE×List AJ×List Int) (ns:List Int) (o3:List (List Int)) (l:List AJ):Prop where
 nl:ns.length=b.A.length
 mlen:r.2.1.length≤100000
 ml2:r.2.1.length≤64+b.A.length*(ts.length+b.G.length+2)
 n0:∀n∈ns,0≤n
 at3:∀(p:Nat) x n,o1[p]? =some x→ns[p]? =some n→o3[p]? =some (En (En x (v1 b.F.length n)) (Q5 b.F.length s.B s.E p))
 ox3:In b.A.length b.F.length o3
 os3:FE o3+GI (JK s.B s.E)≤1125899906842624
 pk:r.2.2=o3.map List.sum
 lv:xU b s.B N b.F.length b.A.length o3 s.L (Tp s.B b.F.length 0 ns) r.1.D r.1.L r.2.1 (l.filterMap (Ko b s.B)) l
 que:r.1.E=JK s.B s.E++l.filterMap (Ko b s.B)
 hour:r.1.B=BC (s.B+1)
 inn:r.1.N=En s.N (v1 b.F.length ns.sum)
 tk:∀p,p<b.A.length→∀x,o3[p]? =some x→l.filter (Zv p)=UL s.B p (Mc N b p ts) x
 cap:∀(p:Nat) (hp:p<b.A.length) x,r.1.D[p]? =some x→x.sum≤(b.A[p]).Au
structure yH (N:Nat) (b:AF) (H:Int) (ts:List Hi) (o3:List (List Int)) (k:Nat) (o:List (List Int)) (l:List AJ):Prop where
 tk:∀p,p<k→∀x,o3[p]? =some x→l.filter (Zv p)=UL H p (Mc N b p ts) x
 hi:∀p,k≤p→l.filter (Zv p)=[]∧o[p]? =o3[p]?
 cap:∀(p:Nat) (hp:p<b.A.length),p<k→∀x,o[p]? =some x→x.sum≤(b.A[p]).Au
def yH.next {N:Nat}{b:AF}{H:Int}{g:List Hi}{u:List (List Int)}{k W:Nat}{o i:List (List Int)}{out c:List Int}{ms j:List AJ}{v n:List AM}{l d:List AJ}(G:yH N b H g u k o l) (F:k<b.A.length) (q:Va b H N W k o out ms v i c j n d) (w:∀x,o[k]? =some x→d.filter (Zv k)=UL H k (Mc N b k g) x) (y:∀x,i[k]? =some x→x.sum≤(b.A[k]).Au):yH N b H g u (k+1) i (l++d):=by
 have fr:∀m∈d,m.I=(k:Int):=λm z=>(q.mv m z).fr;refine⟨λp s x a=>?_,λp s=>⟨?_,?_⟩,λp s B x a=>?_⟩
 ·rw[Adt];by_cases e:p=k
  ·subst e;obtain⟨C,D⟩:=G.hi p (Abd _);rw[C,Abj];exact w x (D.trans a)
  ·rw[T9 (λt=>e t.symm) fr,Abx];exact G.tk p (by omega) x a
 ·rw[Adt,(G.hi p (by omega)).1,T9 (by omega) fr];rfl
 ·rw[q.own,U4 fr (by omega)];exact(G.hi p (by omega)).2
 ·by_cases e:p=k
  ·subst e;exact y x a
  ·rw[q.own,U4 fr (λt=>e t.symm)] at a;exact G.cap p s (by omega) x a
def qG (N:Nat) (p:List Int) (h0:∀x∈p,0≤x) (i:Int):∃v,Kc N p i=some v∧(0<v→∃j:Nat,i=(j:Int)∧p[j]? =some v):=by
 unfold Kc;cases b:(decide (i<0)||decide ((p.length:Int)≤i)) with
 |true=>exact⟨0,rfl,λd=>absurd d (by decide)⟩
 |false=>
  simp only[Abu,Abp] at b;obtain⟨j,c,a⟩:=mX (l:=p) (i:=i) (by omega) (by omega);have:=h0 _ (Abc a);rw[Aa0,c,BI a,Aav,Aav,Aav,Abe (show ¬p[j]<0 by omega)];exact⟨p[j],rfl,λ_=>⟨j,rfl,Abf a⟩⟩
def jT {N W:Nat}(I:1000000<N) (J:W≤1000){p:List Int}(c:PX W p) (fr to n:Int):∃r,Lu N p fr to n=some r∧PX W r∧r.sum=p.sum:=by
 have s:=c.len;unfold Lu;obtain⟨v,A,t⟩:=qG N p c.nn fr;rw[KW (by omega) _ (by decide),A,Aav,Sa];cases y:(((decide (0<min n v)&&decide (0≤to))&&decide (to<(p.length:Int)))&&decide (fr≠to))
 ·exact⟨p,rfl,c,rfl⟩
 ·simp only[Aa3,Abh] at y;obtain⟨⟨⟨K,B⟩,C⟩,M⟩:=y;obtain⟨j,D,d⟩:=t (by omega);obtain⟨k,F,a⟩:=mX (l:=p) (i:=to) B C;have g:=(Aba.1 d).1;have m:=(Aba.1 d).2;have o:j≠k:=by omega
  have G:=c.mem (Ab6 d);have H:=c.mem (Abc a);have b:k<(upd p (j:Int) (v-min n v)).length:=by rw[MG];exact a
  have u:(upd p (j:Int) (v-min n v))[k]=p[k]:=by
   have:(upd p (j:Int) (v-min n v))[k]? =p[k]? :=Ig o _;rw[Abf b,Abf a] at this;exact Aa1 this
  rw[Aax,D,BI g,m];simp only[Aav];rw[DJ (n:=v-min n v) (by omega) (by omega),F,BI b,u];simp only[Aav];rw[Ta N (by omega) (by omega) (by omega) (by omega),Aav];have z:(upd (upd p (j:Int) (v-min n v)) (k:Int) (p[k]+min n v)).sum=p.sum:=by
   have w:(p.set j (v-min n v))[k]'(by simpa using a)=p[k]:=List.getElem_set_ne o _;unfold upd;rw[Ab0,Ab0,Nu (by simpa using a),Nu g,w,m];omega
  refine⟨_,rfl,⟨by rw[MG,MG];exact s,λx q=>?_,by rw[z];exact c.mv⟩,z⟩;rcases Ad3 q with q|rfl
  ·rcases Ad3 q with q|rfl
   ·exact c.nn x q
   ·omega
  ·omega
def iR {N:Nat}(v:1000000<N){w:AN}{W:Nat}(B:W≤1000) (U:w.in_.Ae.length≤1000) (G:In w.b.A.length W w.s.D):∃o,Db N w=some o∧In w.b.A.length W o∧o.map List.sum=w.s.D.map List.sum:=by
 unfold Db;obtain⟨o,⟨H,J⟩,e⟩:=Da w.in_.Ae.length (λn i l=>CI N w n i l) (λl=>some l) (λ_ l=>In w.b.A.length W l∧l.map List.sum=w.s.D.map List.sum) (λn k l d=>by
  simp only[CI];rw[ES d];rfl) (λn k l a d=>by
  obtain⟨a,c⟩:=a;simp only[CI,GO];rw[ER d,Aax,BI d,BF (by omega)];simp only[Aav,Nb,F6,QM];generalize w.in_.Ae[k]=x
  cases g:(((decide (0≤x.Aq)&&decide (x.Aq<(w.b.A.length:Int)))&&(decide (0≤x.I)&&decide (x.I<(w.b.F.length:Int))))&&(decide (0≤x.C)&&decide (x.C<(w.b.F.length:Int))))
  ·exact⟨l,⟨a,c⟩,rfl⟩
  ·simp only[Aa3,Abh] at g;obtain⟨j,K,m⟩:=mX (l:=l) g.1.1.1 (by rw[a.len];exact g.1.1.2);obtain⟨y,M,p,q⟩:=a.ix (k:=j) (by rw[←a.len];exact m);obtain⟨z,Q,t,u⟩:=jT v B q x.I x.C x.Bc;rw[Aax,K];simp only[M,Aav];rw[Q,Aav];exact⟨_,⟨a.upd _ t,by rw[←c];exact(show(upd l (j:Int) z).map List.sum=upd (l.map List.sum) (j:Int) y.sum by unfold upd;rw[List.map_set,u]).trans (V7 (by rw[Acx,p];rfl))⟩,rfl⟩) N 0 w.s.D ⟨G,rfl⟩ (by omega) (Aa4 _)
 exact⟨o,e,H,J⟩
def W1 (N:Nat){w w':AN}(a:w.b=w'.b) (c:w.in_=w'.in_) (n:Nat):∀(i:Int) (l:List (List Int)),CI N w n i l=CI N w' n i l:=by
 induction n with
 |zero=>intro i l;rfl
 |succ n d=>intro i l;simp only[CI,GO,a,c,d]
def bE {N:Nat}(d:1000000<N){b:AF}{s:AE}{in_:Ck}{W:Nat}(g:W≤1000) (i:in_.Ae.length≤1000) (j:In b.A.length W s.D):∃o,(∀a:List AT,Db N (⟨b,in_,({ s with O:=a}:AE),([]:List AJ),(List.replicate ((b.A.length:Int)).toNat (0:Int)),([]:List AM)⟩:AN)=some o)∧In b.A.length W o∧FE o=FE s.D∧o.map List.sum=s.D.map List.sum:=by
 obtain⟨o,e,k,c⟩:=iR d (w:=(⟨b,in_,s,([]:List AJ),[],([]:List AM)⟩:AN)) g i j;refine⟨o,λa=>?_,k,by unfold FE;rw[c],c⟩;rw[←e];exact W1 N (w:=(⟨b,in_,({ s with O:=a}:AE),([]:List AJ),(List.replicate ((b.A.length:Int)).toNat (0:Int)),([]:List AM)⟩:AN)) (w':=(⟨b,in_,s,([]:List AJ),[],([]:List AM)⟩:AN)) rfl rfl N 0 s.D
def gk (R:List Int) (k:Nat):Int:=min (max (R.getD k 0) 0) 1125899906842624
def YR (R:List Int):Nat→Int
 |0=>0
 |k+1=>YR R k+gk R k
def Y6 (R l:List Int):Prop:=∀(i:Nat) n,l[i]? =some n→n≤gk R i
def Y6.snoc {R l:List Int}(m:Y6 R l){k:Nat}(b:l.length=k){n:Int}(c:n≤gk R k):Y6 R (l++[n]):=λi x a=>by
 rcases Abk i k with d|d
 ·rw[Aer (by omega)] at a;exact m i x a
 ·have g:=(Aba.1 a).1;rw[Abi,List.length_singleton] at g;have j:i=k:=by omega
  subst j;rw[Aes (by omega),b,Nat.sub_self] at a;cases a;exact c
def Y6.take {R l:List Int}(g:Y6 R l):∀d k,k+d≤l.length→YR R k-(l.take k).sum≤YR R (k+d)-(l.take (k+d)).sum
 |0,k,_=>Aby _
 |d+1,k,a=>by
  have b:=Y6.take g d k (by omega);have c:=g (k+d) _ (Abf (show k+d<l.length by omega));rw[show k+(d+1)=(k+d)+1 by omega,KB (show k+d<l.length by omega)];simp only[YR];omega
def Y6.sum {R l:List Int}(a:Y6 R l):l.sum≤YR R l.length:=by
 have:=Y6.take a l.length 0 (by omega);rw[Abz,Abo,Acb] at this;simp only[YR,List.sum_nil] at this;omega
def jB {N:Nat}(hN:1000000<N){w:AN}{W:Nat}(hW:w.b.F.length=W) (h1:1≤W) (av:W≤16) (hP:w.b.A.length≤64) (J:In w.b.A.length W w.s.D) (hq:w.s.E.length≤100000) (v:QX w.b.A.length W w.s.E) (ht:FE w.s.D+GI w.s.E≤1125899906842624) (U:w.s.N.length=W) (p:∀x∈w.s.N,0≤x) (ad:w.s.N.sum≤1152921504606846976) (hm:w.moves=[]):
  ∃l r,It N w=some (r.2.2.2.1,r.2.2.2.2,r.2.2.1)∧zR w W w.b.A.length l r∧Y6 w.in_.Aa l∧(l.sum=YR w.in_.Aa w.b.A.length∨r.1=1125899906842624∨r.2.1=1152921504606846976):=by
 have aw:=J.len;have ai:=(Ek v 0).2;rw[Acb,show GI ([]:List AM)=0 from rfl] at ai;unfold It;obtain⟨s1,i1,e1⟩:=Da w.s.D.length (λn i s=>D4 N w (D6 N w) n s i) (D6 N w) (λk s=>s=FE (w.s.D.take k)) (λn k s g=>by
  simp only[D4];rw[ES g];rfl) (λn k s V g=>by
  have C:=J.all _ (Abc g);have h2:=N0 J (k+1);rw[Nd g] at h2;have h3:=C.sum0;have h4:=(N0 J k).1;simp only[D4];rw[ER g,Aax,BI g,Aav,Aav,C.total hN (by omega),Aav,BF (by omega),DJ (n:=s+(w.s.D[k]).sum) (by omega) (by omega)];exact⟨_,by rw[Nd g,V],rfl⟩) N 0 0 rfl (by omega) (Aa4 _)
 rw[show D4 N w (D6 N w) N 0 0=D6 N w s1 from e1];rw[Abo] at i1;have ax:=J.sum0;unfold D6;obtain⟨s2,i2,e2⟩:=Da w.s.E.length (λn i s=>D3 N w (D5 N w) n s i) (D5 N w) (λk s=>s=FE w.s.D+GI (w.s.E.take k)) (λn k s g=>by
  simp only[D3];rw[ES g];rfl) (λn k s V g=>by
  have C:=(v _ (Abc g)).1;have h2:=Ek v (k+1);rw[MW g] at h2;have h3:=C.sum0;have h4:=(Ek v k).1;simp only[D3];rw[ER g,Aax,BI g,Aav,C.total hN (by omega),Aav,BF (by omega),DJ (n:=s+(w.s.E[k]).K.sum) (by omega) (by omega)];exact⟨_,by rw[MW g,V];omega,rfl⟩) N 0 s1 (by rw[i1,Acb];simp [GI]) (by omega) (Aa4 _)
 rw[show D3 N w (D5 N w) N s1 0=D5 N w s2 from e2];rw[Abo] at i2;have ay:=JV p;unfold D5;rw[Qh hN (by omega) p (by omega),Aav];obtain⟨s,⟨l,i3,i4⟩,e⟩:=Da w.b.A.length (λn i (s:Int×Int×List AJ×List (List Int)×List Int)=>Cs N w n s.1 s.2.1 i s.2.2.1 s.2.2.2.1 s.2.2.2.2) (λs=>some (s.2.2.2.1,s.2.2.2.2,s.2.2.1)) (λk s=>∃l,zR w W k l s∧Y6 w.in_.Aa l∧(l.sum=YR w.in_.Aa k∨s.1=1125899906842624∨s.2.1=1152921504606846976)) (λn k s g=>by
  simp only[Cs];rw[ES g];rfl) (λn k s V g=>by
  obtain⟨a,c,ms,o,j⟩:=s;obtain⟨l,⟨X,q2,q3,Y,q5,q6,⟨q7,q8⟩,q9,⟨G,ae⟩,Z⟩,qp,qm⟩:=V;simp only at q3 Y q5 q6 q7 q8 q9 G ae Z qm;have az:=Y.sum0;have aj:=JV q2;obtain⟨x,C,H,q⟩:=Y.ix g;obtain⟨x1,a0,M,ap⟩:=J.ix g;have ak:x=x1:=by rw[q6 k (Abd _),M] at H;exact(Aa1 H).symm
  have hj:∀m:Int,m≤1125899906842624-a→m≤1152921504606846976-c→(max m 0≤gk w.in_.Aa k∧(l.sum+max m 0=YR w.in_.Aa (k+1)∨a+max m 0=1125899906842624∨c+max m 0=1152921504606846976))→∃s':Int×Int×List AJ×List (List Int)×List Int,(∃l,zR w W (k+1) l s'∧Y6 w.in_.Aa l∧(l.sum=YR w.in_.Aa (k+1)∨s'.1=1125899906842624∨s'.2.1=1152921504606846976))∧Gx N w a c (k:Int) ms o j (Fd N (k:Int) (Cs N w n)) m=Cs N w n s'.1 s'.2.1 ((k+1:Nat):Int) s'.2.2.1 s'.2.2.2.1 s'.2.2.2.2:=λm a1 a2 a3=>by
   unfold Gx Fd;rw[BF (by omega)];by_cases af:m≤0
   ·rw[Abs af,Aax];refine⟨(a,c,ms,o,j),⟨l++[0],⟨by simp [X],λn d=>?_,?_,Y,λi y n hy d=>?_,λi V=>q6 i (by omega),⟨q7,q8⟩,by rw[Acl];simpa using q9,⟨by rw[Acl];simpa using G,ae⟩,by rw[Acl];simpa using Z⟩,qp.snoc X (by omega),by show _∨a=_∨c=_;rw[show (l++[(0:Int)]).sum=l.sum by simp];omega⟩,rfl⟩
    ·rcases Ab3.1 d with d|d
     ·exact q2 n d
     ·rw[Ace.1 d];exact Aby 0
    ·show ms=_
     rw[S7,Aaw (by omega),Abx];exact q3
    ·show o[i]? =_
     by_cases aa:i<k
     ·rw[Aer (by omega)] at d;exact q5 i y n hy d
     ·have t:i=k:=by
       have:=(Aba.1 d).1;simp at this;omega
      subst t;rw[Aes (by omega),X,Nat.sub_self] at d;cases d;rw[Pb,RJ (J.all y (Ab6 hy)).len,q6 i (Abd _),hy]
   ·have a4:=Y.le H;have hv:=Xn h1 (n:=m) (by omega) (by omega);have ag:=Oo h1 m;obtain⟨x0,ab⟩:=Df.ix (l:=x) (i:=0) (Aby _) (by rw[q.len];omega);have aq:=q.mem (Ab6 (EY ab).2);have ah:j.length=W:=by rw[q9];exact Jf U (L3 _ _)
    obtain⟨y0,I⟩:=Df.ix (l:=j) (i:=0) (Aby _) (by omega);have u:∀z∈j,0≤z:=by
     rw[q9];refine Nt p λz hz=>?_;rcases Ad3 hz with hz|rfl
     ·rw[(List.mem_replicate.1 hz).2];exact Aby 0
     ·exact aj
    have al:j.sum=c:=by rw[q9,IY (by rw[U,L3]),Oo h1,G]
    have ar:=Gi u _ (Ab6 (EY I).2);have au:=u _ (Ab6 (EY I).2);obtain⟨z0,am⟩:=Df.ix (l:=List.replicate ((w.b.F.length:Int)).toNat (0:Int)) (i:=0) (Aby _) (by rw[Nz];omega);have a5:=Ux w.s.B W l 0;rw[Abe af,Aa0,C,Aav,Aav,ab,Aav,Aav,I,Aav,Aav,Aav,Aav,KW (by omega) _ (by decide),am,Aav,Aav,IM (by rw[q3];simp;omega),DJ (n:=a+m) (by omega) (by omega),DJ (n:=c+m) (by omega) (by omega),DJ (n:=x0+m) (by omega) (by omega),DJ (n:=y0+m) (by omega) (by omega),Un q.len h1 m x0 ab,Un ah h1 m y0 I];have an:PX W (En x (v1 W m)):=q.add hv (by rw[ag];omega);have Q:FE (upd o (k:Int) (En x (v1 W m)))=FE o+m:=by
     rw[Qs H,IY (q.len.trans hv.len.symm),ag];omega
    have ao:List.replicate ((w.b.F.length:Int)).toNat (0:Int)=List.replicate W 0:=by rw[hW];rfl
    refine⟨(a+m,c+m,ms++[⟨w.s.B, -1,(k:Int), -4,upd (List.replicate ((w.b.F.length:Int)).toNat (0:Int)) 0 m⟩],upd o (k:Int) (En x (v1 W m)),En j (v1 W m)),⟨l++[m],⟨by simp [X],λn d=>?_,?_,Y.upd _ an,λi y n hy d=>?_,λi V=>?_,⟨?_,by show a+m≤_;omega⟩,?_,⟨?_,by show c+m≤_;omega⟩,?_⟩,qp.snoc X (by omega),by show _∨a+m=_∨c+m=_;rw[show (l++[m]).sum=l.sum+m by simp];omega⟩,rfl⟩
    ·rcases Ab3.1 d with d|d
     ·exact q2 n d
     ·rw[Ace.1 d];omega
    ·show ms++_=_
     rw[S7,Aay (by omega),q3,ao,Abz,X];rfl
    ·show(upd o (k:Int) _)[i]? =_
     by_cases aa:k=i
     ·subst aa;rw[Aes (by omega),X,Nat.sub_self] at d;cases d;rw[GL (by rw[Y.len];exact g),ak];rw[M] at hy;cases hy;rfl
     ·have t:i<l.length:=by
       have:=(Aba.1 d).1;simp at this;omega
      rw[Ig aa];rw[Aer t] at d;exact q5 i y n hy d
    ·show(upd o (k:Int) _)[i]? =_
     rw[Ig (by omega)];exact q6 i (by omega)
    ·show a+m=FE _+_
     rw[Q];omega
    ·show En j (v1 W m)=_
     rw[q9,Acl,Sj];rw[aI h1];simp
    ·show c+m=_
     rw[Acl,G];simp;omega
    ·show FE _=_
     rw[Q,Z,Acl];simp;omega
  simp only[Cs];rw[ER g,Aax];cases hr:decide ((k:Int)<(w.in_.Aa.length:Int))
  ·have hr:=of_decide_eq_false hr;have ac:w.in_.Aa.getD k 0=0:=by rw[Abg,Abv (by omega)];rfl
   exact hj 0 (by omega) (by omega) (by simp only[YR,gk,ac];omega)
  ·have hr:=Adf hr;have a6:0≤c:=by omega
   rw[Aax,BI (show k<w.in_.Aa.length by omega),Aav,DJ (n:=1125899906842624-a) (by omega) (by omega),DJ (n:=1152921504606846976-c) (by omega) (by omega)];have ac:w.in_.Aa.getD k 0=w.in_.Aa[k]:=by simp [Abg,show k<w.in_.Aa.length by omega]
   exact hj _ (by omega) (by omega) (by simp only[YR,gk,ac];omega)) N 0 (s2,w.s.N.sum,w.moves,w.s.D,w.s.N) ⟨[],⟨rfl,λn d=>(by cases d),hm,J,λi x n _ d=>(by cases d),λi _=>rfl,⟨by show s2=_;rw[i2],by show s2≤_;omega⟩,by
    show w.s.N=En _ (v1 W 0)
    rw[Pb,RJ U],⟨by show w.s.N.sum=_;simp,ad⟩,by simp⟩,(λi x C=>by cases C),.inl rfl⟩ (by omega) (Aa4 _)
 exact⟨l,s,e,i3,i4⟩
structure zY (N:Nat) (b:AF) (s:AE) (in_:Ck) (o1:List (List Int)) (gs:List AT) (o2:List (List Int)) (inn:List Int) (ms:List AJ) (z:List (List Int)×List AM×List AT×List Int) (ns:List Int):Prop where
 eg:Gk N (⟨b,in_,s,([]:List AJ),(List.replicate ((b.A.length:Int)).toNat (0:Int)),([]:List AM)⟩:AN)=some gs
 ez:Eu N (⟨b,in_,(⟨s.B,o2,s.M,s.E,gs,inn,s.L⟩:AE),ms,(List.replicate ((b.A.length:Int)).toNat (0:Int)),([]:List AM)⟩:AN)=some z
 nl:ns.length=b.A.length
 n0:∀n∈ns,0≤n
 ms_:ms=Tp s.B b.F.length 0 ns
 at3:∀(p:Nat) x n,o1[p]? =some x→ns[p]? =some n→z.1[p]? =some (En (En x (v1 b.F.length n)) (Q5 b.F.length s.B s.E p))
 own:In b.A.length b.F.length z.1
 rest:z.2.1=JK s.B s.E
 pk:z.2.2.2=z.1.map List.sum
 gl:z.2.2.1.length=b.G.length
 inn_:inn=En s.N (v1 b.F.length ns.sum)
 tot:FE z.1+GI (JK s.B s.E)=FE s.D+GI s.E+ns.sum
 tot2:FE s.D+GI s.E+ns.sum≤1125899906842624
 pw:Y6 in_.Aa ns
 max_:ns.sum=YR in_.Aa b.A.length∨FE s.D+GI s.E+ns.sum=1125899906842624∨s.N.sum+ns.sum=1152921504606846976
 ins:s.N.sum+ns.sum≤1152921504606846976
def bG {N:Nat}(hN:18446744073709551616<N){b:AF}(C:IP b) (H:∀l∈b.G,J8 b l) (ac:∀p∈b.A,IG b p){s:AE}(d:zP b s) (hq:s.E.length≤100000){in_:Ck}(h1:in_.Ai.length≤1000) (h2:in_.Ak.length≤1000) (h3:in_.Ab.length≤1000){q:List (List Int)}(h4:∀j:List AT,Db N (⟨b,in_,({ s with O:=j}:AE),([]:List AJ),(List.replicate ((b.A.length:Int)).toNat (0:Int)),([]:List AM)⟩:AN)=some q) (I:In b.A.length b.F.length q) (J:FE q=FE s.D):
  ∃j m g ms z K,GR N b s in_=ET N b in_ s (m,g,ms) z (EU N s (m,g,ms) z) N 0 z.1 s.M s.L ms ([]:List AM)∧zY N b s in_ q j m g ms z K:=by
 have hP:=C.pl;have hL:=C.li;have hW:=C.own;have Q:=C.own1;have i:1000000<N:=by omega
 unfold GR;rw[Uc i (by have:=d.own.len;omega) (λx U=>by have:=(d.own.all x U).len;omega) (by have:=d.rem;omega) (by have:=d.gates;omega) (by have:=d.inn;omega) (by have:=d.out;omega),Aav,KW (by omega) _ (by decide)];have V:ZD b.G.length s.O (Aah s):=⟨d.gates,λk hk=>by
  have:k<s.O.length:=by rw[d.gates];exact hk
  simp [Aah,Abg,this]⟩
 obtain⟨j,eg,hg⟩:=dG i (w:=(⟨b,in_,s,([]:List AJ),(List.replicate ((b.A.length:Int)).toNat (0:Int)),([]:List AM)⟩:AN)) rfl (show b.G.length≤1000 by omega) h1 h2 V;rw[eg,Aav];have X:=h4 j;rw[X,Aav];obtain⟨K,⟨a,c,ms,m,g⟩,ey,⟨q1,q2,q3,q4,q5,q6,⟨q7,q8⟩,q9,⟨Y,Z⟩,aa⟩,qp,qm⟩:=jB i (w:=(⟨b,in_,(⟨s.B,q,s.M,s.E,j,s.N,s.L⟩:AE),([]:List AJ),(List.replicate ((b.A.length:Int)).toNat (0:Int)),([]:List AM)⟩:AN)) (W:=b.F.length) rfl Q hW hP I hq d.que (by show FE q+GI s.E≤_;rw[J];exact d.tot) d.inn d.inn0 d.inns rfl;simp only at q1 q2 q3 q4 q5 q6 q7 q8 q9 Y Z aa qm ey;rw[ey,Aav];obtain⟨z,ez,⟨t,u,o,v,ab⟩,y⟩:=tG i (w:=(⟨b,in_,(⟨s.B,m,s.M,s.E,j,g,s.L⟩:AE),ms,(List.replicate ((b.A.length:Int)).toNat (0:Int)),([]:List AM)⟩:AN)) (W:=b.F.length) rfl hW hP hL H q4 hq d.que (by show FE m+GI s.E≤_;omega) (Nz _ _) hg.1;simp only at t u o v ab y;rw[ez,Aav];exact⟨j,m,g,ms,z,K,rfl,⟨eg,ez,q1,q2,q3,λp x n U hn=>u p _ (q5 p x n U hn),t,o,v,y,q9,by rw[←o];omega,by omega,qp,by omega,by omega⟩⟩
def iT {N:Nat}(hN:18446744073709551616<N){b:AF}(y:IP b) (C:∀l∈b.G,J8 b l) (g:∀p∈b.A,IG b p){s:AE}(V:zP b s) (hq:s.E.length≤100000){in_:Ck}(h1:in_.Ai.length≤1000) (h2:in_.Ak.length≤1000) (h3:in_.Ab.length≤1000){X:List (List Int)}(h4:∀gs:List AT,Db N (⟨b,in_,({ s with O:=gs}:AE),([]:List AJ),(List.replicate ((b.A.length:Int)).toNat (0:Int)),([]:List AM)⟩:AN)=some X) (aa:In b.A.length b.F.length X) (ab:FE X=FE s.D):
  ∃r d o3 l,GR N b s in_=some r∧Wk N b s in_.Ab X r d o3 l∧FE o3+GI (JK s.B s.E)=FE s.D+GI s.E+d.sum∧Y6 in_.Aa d∧(d.sum=YR in_.Aa b.A.length∨FE s.D+GI s.E+d.sum=1125899906842624∨s.N.sum+d.sum=1152921504606846976)∧s.N.sum+d.sum≤1152921504606846976:=by
 have hP:=y.pl;have hL:=y.li;have hW:=y.own;have ad:=y.own1;have ae:1000000<N:=by omega
 obtain⟨gs,v,a,ms,z,d,eS,h⟩:=bG hN y C g V hq h1 h2 h3 h4 aa ab;have q1:=h.nl;have q2:=h.n0;have q3:=h.ms_;have q:=h.own;have I:=h.rest;have J:=h.pk;have ac:=h.gl;have k1:=h.tot;have k2:=h.tot2;have af:=Ux s.B b.F.length d 0;obtain⟨⟨o,rm,out,c,Y⟩,⟨l,i1,j,u,K⟩,e⟩:=Da b.A.length (λn i (t:List (List Int)×List Int×List Int×List AJ×List AM)=>ET N b in_ s (v,a,ms) z (EU N s (v,a,ms) z) n i t.1 t.2.1 t.2.2.1 t.2.2.2.1 t.2.2.2.2) (λt=>EU N s (v,a,ms) z t.1 t.2.1 t.2.2.1 t.2.2.2.1 t.2.2.2.2) (λk t=>∃l,t.2.1.length=b.A.length∧xU b s.B N b.F.length k z.1 s.L ms t.1 t.2.2.1 t.2.2.2.1 t.2.2.2.2 l∧fZ b.F.length t.2.2.1 t.2.2.2.1 t.2.2.2.2 (64+k*(in_.Ab.length+b.G.length+2))∧yH N b s.B in_.Ab z.1 k t.1 l) (λn k t Q=>by
  simp only[ET];rw[ES Q];rfl) (λn k t hi Q=>by
  obtain⟨o,rm,out,c,Y⟩:=t;obtain⟨l,i1,j,u,K⟩:=hi;simp only at i1 j u K;simp only[ET];have U:k*(in_.Ab.length+b.G.length+2)≤64*(1000+96+2):=Ad1 (by omega) (by omega);obtain⟨r,l',er,r1,r2,r3,r5,r4⟩:=dL hN (w:=(⟨b,in_,(⟨s.B,o,rm,z.2.1,z.2.2.1,a,out⟩:AE),c,z.2.2.2,Y⟩:AN)) (H:=s.B) (W:=b.F.length) rfl (by omega) (by show b.G.length≤_;omega) h3 C g ac (by show z.2.2.2.length=_;rw[J,Ac1];exact q.len) i1 Q j.ox u (by omega);rw[ER Q,Aax,er,Aav,BF (by omega)];have hM:64+(k+1)*(in_.Ab.length+b.G.length+2)=64+k*(in_.Ab.length+b.G.length+2)+(in_.Ab.length+b.G.length+2):=by rw[Acw];omega
  exact⟨(_,_,_,_,_),⟨l++l',r1,j.next r2,by rw[hM];exact u.next r2 r3,K.next Q r2 r5 r4⟩,rfl⟩) N 0 (z.1,s.M,s.L,ms,[]) ⟨[],V.rem,⟨λm hm=>(by cases hm),.nil,by simp,rfl,rfl,rfl,trivial,q,V.out,by simp [KY]⟩,⟨V.out,by show ms.length≤_;rw[q3];omega,by simp⟩,⟨λp Z=>(by omega),λp _=>⟨rfl,rfl⟩,λp _ Z=>(by omega)⟩⟩ (by omega) (Aa4 _)
 rw[eS,show ET N b in_ s (v,a,ms) z (EU N s (v,a,ms) z) N 0 z.1 s.M s.L ms ([]:List AM)=EU N s (v,a,ms) z o rm out c Y from e];simp only at j u;have U:b.A.length*(in_.Ab.length+b.G.length+2)≤64*(1000+96+2):=Ad1 hP (by omega);have ag:=u.sn;have ah:=u.mv;have ai:z.2.1.length≤s.E.length:=by rw[I];exact List.length_filter_le _ _
 unfold EU;rw[IM (by omega)];refine⟨_,d,z.1,l,rfl,⟨q1,by show c.length≤_;omega,by show c.length≤_;omega,q2,h.at3,q,by omega,J,?_,?_,rfl,h.inn_,K.tk,λp Z x hx=>K.cap p Z Z x hx⟩,h.tot,h.pw,h.max_,h.ins⟩
 ·rw[←j.sn_,←q3];exact j
 ·show z.2.1++Y=_
  rw[I,j.sn_]
def Q6.at_:∀{l:List AJ}{o:List (List Int)},Q6 l o→∀(j:Nat) (b:j<l.length),∃x,(QE o (l.take j))[(l[j]).I.toNat]? =some x∧Wr (l[j]).K x
 |m::l,o,b,0,_=>b.1
 |m::l,o,b,j+1,a=>Q6.at_ (l:=l) b.2 j (by simpa using a)
def X5 {H:Int}{W:Nat}:∀{l:List Int}{i:Nat}{m:AJ},m∈Tp H W i l→∃(k:Nat) (n:Int),n∈l∧0<n∧m=⟨H, -1,(k:Int), -4,v1 W n⟩
 |[],_,m,g=>by cases g
 |a::l,i,m,g=>by
  rw[Tp] at g;rcases Ab3.1 g with g|g
  ·split at g
   ·rename_i h0;exact⟨i,a,Abn ..,h0,Ace.1 g⟩
   ·cases g
  ·obtain⟨k,n,b,c,d⟩:=X5 g;exact⟨k,n,Abt _ b,c,d⟩
def Yd {P W:Nat}{t:Int}{q:List AM}(a:QX P W q){p:Nat}:∀k,k≤q.length→(Q5 W t (q.take k) p).length=W∧∀x∈Q5 W t (q.take k) p,0≤x
 |0,_=>⟨by simp [Q5],λx g=>(PX.zero W).nn x g⟩
 |k+1,i=>by
  obtain⟨b,c⟩:=Yd a k (by omega);rw[Rj (by omega)];split
  ·have d:=(a _ (Abc (show k<q.length by omega))).1;exact⟨Jf b d.len,Nt c d.nn⟩
  ·exact⟨b,c⟩
def QH (o:Nat) (ms:List AJ):Int:=(ms.map λm=>m.K.getD o 0).sum
def T4 {W o:Nat}{x y:List Int}(c:x.length=W) (d:y.length=W) (g:o<W):(IK x y).getD o 0=x.getD o 0-y.getD o 0:=by
 have a:o<x.length:=by omega
 have b:o<y.length:=by omega
 unfold IK;simp [Abg,Adb,a,b]
def T6 {W o:Nat}{x y:List Int}(c:x.length=W) (d:y.length=W) (g:o<W):(En x y).getD o 0=x.getD o 0+y.getD o 0:=by
 have a:o<x.length:=by omega
 have b:o<y.length:=by omega
 unfold En;simp [Abg,Adb,a,b]
def Wf (o:Nat) (w:List (List Int)):Int:=(w.map λx=>x.getD o 0).sum
def T1 (o:Nat) (q:List AM):Int:=(q.map λl=>l.K.getD o 0).sum
def eT (o:Nat) (a b:List AM):T1 o (a++b)=T1 o a+T1 o b:=by unfold T1;rw[Ack,Acl]
def eV {o:Nat}{w:List (List Int)}{k:Nat}{x y:List Int}(a:w[k]? =some x):Wf o (upd w (k:Int) y)=Wf o w-x.getD o 0+y.getD o 0:=by
 have b:=(Aba.1 a).1;have c:=(Aba.1 a).2;unfold Wf upd;rw[Ab0,List.map_set,Nu (by simpa using b),List.getElem_map,c]
def PX.bd {W:Nat}{p:List Int}(b:PX W p):∀x∈p, -2305843009213693952≤x∧x≤2305843009213693952:=λx a=>by
 have:=b.mem a;omega
def ZX (m:AJ):Bool:=decide (m.C<0)
def Sy (b:AF) (H:Int) (o:Nat):∀(l:List AJ),T1 o (l.filterMap (Ko b H))+QH o (l.filter ZX)=QH o l∧GI (l.filterMap (Ko b H))+KY (l.filter ZX)=KY l
 |[]=>⟨rfl,rfl⟩
 |m::l=>by
  obtain⟨i,j⟩:=Sy b H o l;have g:∀l,QH o (m::l)=m.K.getD o 0+QH o l:=λl=>by unfold QH;rw[Abl,Ab2]
  have a:∀l,KY (m::l)=m.K.sum+KY l:=λl=>by unfold KY;rw[Abl,Ab2]
  by_cases k:m.C<0
  ·rw[List.filterMap_cons_none (by unfold Ko;rw[Aay k]),Aeu (by unfold ZX;simpa using k),g,g,a,a];omega
  ·rw[List.filterMap_cons_some (b:=(⟨BC (BC (H+1)+Pu b m.I.toNat m.Bd),m.C,m.K⟩:AM)) (by unfold Ko;rw[Aaw k]),Aep (by unfold ZX;simpa using k),g,a];have c:∀(x:AM) l,T1 o (x::l)=x.K.getD o 0+T1 o l:=λx l=>by unfold T1;rw[Abl,Ab2]
   have d:∀(x:AM) l,GI (x::l)=x.K.sum+GI l:=λx l=>by unfold GI;rw[Abl,Ab2]
   rw[c,d];simp only;omega
def U8 {W:Nat}{l:List AJ}(b:∀m∈l,PX W m.K):0≤KY l:=by
 unfold KY;exact SV (f:=λm:AJ=>m.K.sum) λm a=>(b m a).sum0
def XI {N W:Nat}(d:1000000<N) (j:W≤1000):∀{l:List AJ}{out:List Int},(∀m∈l,PX W m.K)→out.length=W→(∀x∈out,0≤x)→out.sum+KY l≤2305843009213693952→(RX N out l).length=W∧(∀x∈RX N out l,0≤x)∧(RX N out l).sum=out.sum+KY (l.filter ZX)∧∀o,o<W→(RX N out l).getD o 0=out.getD o 0+QH o (l.filter ZX)
 |[],out,_,b,h0,_=>⟨b,h0,by show out.sum=out.sum+0;omega,λo _=>by show out.getD o 0=out.getD o 0+0;omega⟩
 |m::l,out,c,b,h0,q=>by
  have a:=c m (.head _);have s:=U8 (l:=l) λm a=>c m (.tail _ a);have k:∀l,KY (m::l)=m.K.sum+KY l:=λl=>by unfold KY;rw[Abl,Ab2]
  have g:∀o l,QH o (m::l)=m.K.getD o 0+QH o l:=λo l=>by unfold QH;rw[Abl,Ab2]
  rw[k] at q;have t:=a.sum0;rw[show RX N out (m::l)=RX N (if m.C<0 then (Ey N out m.K).getD [] else out) l from rfl];by_cases z:m.C<0
  ·rw[Aay z,U3 d (by omega) (by rw[a.len,b]) (λx n=>by have:=Gi h0 x n;have:=h0 x n;omega) a.bd,Acm,Aeu (by unfold ZX;simpa using z)];have i:(En out m.K).sum=out.sum+m.K.sum:=IY (b.trans a.len.symm);obtain⟨u,v,w,y⟩:=XI d j (l:=l) (out:=En out m.K) (λm a=>c m (.tail _ a)) (Jf b a.len) (Nt h0 a.nn) (by omega);exact⟨u,v,by rw[w,i,k];omega,λo p=>by rw[y o p,T6 b a.len p,g];omega⟩
  ·rw[Aaw z,Aep (by unfold ZX;simpa using z)];exact XI d j (l:=l) (λm a=>c m (.tail _ a)) b h0 (by omega)
def WL {b:AF}{H:Int}{W o:Nat}(a:o<W):∀{l:List AJ}{w:List (List Int)},In b.A.length W w→Q6 l w→(∀m∈l,∃p,p<b.A.length∧xT b H W p m)→Wf o (QE w l)+QH o l=Wf o w
 |[],w,_,_,_=>by show Wf o w+0=_;omega
 |m::l,w,t,y,u=>by
  obtain⟨⟨x,k,n⟩,c⟩:=y;obtain⟨p,B,q⟩:=u m (.head _);have d:=t.all x (Ab6 k);have i:=n.sub d;have j:w.getD m.I.toNat []=x:=by rw[Abg,k];rfl
  have g:∀o l,QH o (m::l)=m.K.getD o 0+QH o l:=λo l=>by unfold QH;rw[Abl,Ab2]
  have v:upd w m.I (IK x m.K)=upd w ((m.I.toNat:Nat):Int) (IK x m.K):=by rw[q.fr,Ab0]
  rw[j] at c;have z:=WL a (l:=l) (w:=upd w m.I (IK x m.K)) (t.upd _ i.1) c λm s=>u m (.tail _ s);rw[show QE w (m::l)=QE (upd w m.I (IK (w.getD m.I.toNat []) m.K)) l from rfl,j,g];rw[v,eV k,T4 d.len i.2.2.len a] at z;rw[v];omega
def wI (N:Nat) (l:BO):Prop:=(0≤l.U∧l.U≤64)∧0≤l.Ad∧l.Ad≤l.U
def uM.pos {N:Nat}{b:AF}{l:BO}(c:uM N b l):wI N l:=by
 by_cases h0:l.H=0
 ·have:=c.gate h0;exact⟨this.2.2.1,this.2.2.2.1⟩
 ·by_cases a:l.H=2
  ·have:=c.pump a;exact⟨⟨by omega,this.2.1.2⟩,this.2.2⟩
  ·have:=c.none_ h0 a;exact⟨by omega,by omega⟩
structure AfX (b:AF) (s:AE) (ts:List Hi) (r:AE×List AJ×List Int) (o3:List (List Int)) (l:List AJ):Prop where
 own:In b.A.length b.F.length r.1.D
 que:QX b.A.length b.F.length r.1.E
 tot:FE r.1.D+GI r.1.E+KY (l.filter ZX)=FE o3+GI (JK s.B s.E)
 ol:r.1.L.length=b.F.length
 o0:∀x∈r.1.L,0≤x
 os:r.1.L.sum=s.L.sum+KY (l.filter ZX)
 oc:∀o,o<b.F.length→r.1.L.getD o 0=s.L.getD o 0+QH o (l.filter ZX)
 col:∀o,o<b.F.length→Wf o r.1.D+T1 o r.1.E+QH o (l.filter ZX)=Wf o o3+T1 o (JK s.B s.E)
 ql:r.1.E.length≤s.E.length+(64+b.A.length*(ts.length+b.G.length+2))
 l0:0≤KY (l.filter ZX)
def Yh {N:Nat}(X:18446744073709551616<N){b:AF}(H:IP b){s:AE}(c:Aal b s){u:List Hi}{I:List (List Int)}{r:AE×List AJ×List Int}{J:List Int}{v:List (List Int)}{l:List AJ}(h:Wk N b s u I r J v l):AfX b s u r v l:=by
 have Y:=H.own;have g:∀m∈l,PX b.F.length m.K:=λm i=>by obtain⟨p,_,j⟩:=h.lv.mv m i;exact j.px
 have a:QX b.A.length b.F.length (JK s.B s.E):=λl M=>c.x.que l (Ach.1 M).1;have d:QX b.A.length b.F.length (l.filterMap (Ko b s.B)):=λx k=>by
  obtain⟨m,i,e⟩:=Aeg.1 k;obtain⟨p,_,j⟩:=h.lv.mv m i;unfold Ko at e;split at e
  ·cases e
  ·cases e;have:=j.to;exact⟨j.px,by show 0≤m.C;omega,by show m.C<_;omega⟩
 have n:=(Ek a 0).2;rw[Acb,show GI ([]:List AM)=0 from rfl] at n;have q:=(Ek c.x.que 0).2;rw[Acb,show GI ([]:List AM)=0 from rfl] at q;have Q:=c.x.own.sum0;have U:=h.lv.ox.sum0;have Z:=h.lv.tot;have h3:=h.os3;have h4:=c.outs;have h5:=c.x.inns;obtain⟨w,y,z,D⟩:=XI (N:=N) (by omega) (by omega) g c.x.out c.out0 (by omega);rw[←h.lv.out_] at w y z D;have t:=h.ml2;rw[h.lv.ms_,Abi] at t;refine⟨h.lv.ox,?_,?_,w,y,z,D,λo V=>?_,?_,U8 λm i=>g m (Ach.1 i).1⟩
 ·rw[h.que];exact λx k=>(Ab3.1 k).elim (a x) (d x)
 ·have:=(Sy b s.B 0 l).2;rw[h.que,WH];omega
 ·have W:=(Sy b s.B o l).1;have G:=WL V h.ox3 h.lv.val h.lv.mv;rw[←h.lv.own] at G;rw[h.que,eT];omega
 ·rw[h.que,Abi];have W:(JK s.B s.E).length≤s.E.length:=List.length_filter_le _ _;have G:=List.length_filterMap_le (Ko b s.B) l;omega
def Zo {N:Nat}(D:18446744073709551616<N){b:AF}(Z:F5 N b=some true):J4 b∧Tf b∧Hq N b=some true∧E6 N b=some true:=by
 obtain⟨v,e,k⟩:=WD D b;rw[Z] at e;cases e;have k:=k rfl;unfold F5 at Z;obtain⟨Y,_,Z⟩:=bd Z;obtain⟨G,I,Z⟩:=bd Z;obtain⟨J,i,Z⟩:=bd Z;obtain⟨K,j,Z⟩:=bd Z;obtain⟨M,m,Z⟩:=bd Z;obtain⟨Q,n,Z⟩:=bd Z;obtain⟨U,o,Z⟩:=bd Z;obtain⟨V,p,Z⟩:=bd Z;obtain⟨W,q,Z⟩:=bd Z;have a:∀{c:Bool} {x:Option Bool} {d:Bool},cond c (x.bind λy=>some y) (some false)=some d→d=true→c=true∧x=some true:=by
  intro c x d s hd;subst hd;cases c
  ·cases s
  ·cases x with
   |none=>cases s
   |some y=>exact⟨rfl,s⟩
 have t:=Aa1 Z;have u:=a q t;have w:=a p u.1;have z:=a o w.1;have A:=a n z.1;have B:=a m A.1;have g:=a j B.1;refine⟨k,λl X=>?_,(a i g.1).2,g.2⟩;have C:=Zd D k.head k.links g.2 l X;by_cases h0:l.H=0
 ·have:=C.gate h0;exact⟨this.2.2.1,this.2.2.2.1⟩
 ·by_cases F:l.H=2
  ·have:=C.pump F;exact⟨⟨by omega,this.2.1.2⟩,this.2.2⟩
  ·have:=C.none_ h0 F;exact⟨by omega,by omega⟩
def kI {b:AF}(c:J4 b){p:Nat}(d:p<b.A.length) (a:Int):0≤Pu b p a∧Pu b p a≤240:=by
 unfold Pu;split
 ·rename_i g;rw[TJ (show a.toNat<b.G.length by omega)];exact(c.links _ (Abc _)).delay
 ·split
  ·exact⟨by decide,by decide⟩
  ·have e:b.A.getD p default=b.A[p]:=by simp [Abg,d]
   rw[e];exact(c.places _ (Abc _)).delay
def W4 {N:Nat}(C:18446744073709551616<N){b:AF}(i:J4 b) (J:Tf b){s:AE}(c:Vk b s) (hH:s.B<16777216){in_:Ck}{K:List Hi}{M:List (List Int)}{r:AE×List AJ×List Int}(Q:GR N b s in_=some r){u:List Int}{F:List (List Int)}{l:List AJ}(h:Wk N b s K M r u F l) (k1:FE F+GI (JK s.B s.E)=FE s.D+GI s.E+u.sum) (k4:s.N.sum+u.sum≤1152921504606846976):Vk b r.1∧r.1.B=s.B+1:=by
 have j:=i.head.own1;have a:=Yh C i.head c.rg h;obtain⟨G,v⟩:=iS C i.head i.places J c Q;have z:=JV h.n0;have hh:=c.rg.hour;have o:r.1.B=s.B+1:=by rw[h.hour,DJ (by omega) (by omega)]
 have U:r.1.N.sum=s.N.sum+u.sum:=by rw[h.inn,IY (by rw[c.rg.x.inn,L3]),Oo j]
 have V:=a.tot;have h3:=h.os3;have W:=a.l0;have X:=a.os;have Y:=c.rg.outs;have Z:=JV c.rg.x.inn0;refine⟨⟨⟨⟨a.own,a.que,by omega,G.1,v.1,by rw[h.inn];exact Jf c.rg.x.inn (L3 _ _),?_,by omega,a.ol⟩,by omega,λk l g w y=>⟨(v.2 k l g w y).pos,(v.2 k l g w y).tgt⟩,λq d=>?_,a.o0,by omega⟩,G.2,λk l g w y=>(v.2 k l g w y).opn⟩,o⟩
 ·rw[h.inn];refine Nt c.rg.x.inn0 (Xn j z ?_).nn;have aa:=c.rg.x.own.sum0;have A:=(Ek c.rg.x.que 0).2;rw[Acb,show GI ([]:List AM)=0 from rfl] at A;omega
 ·rw[o];rw[h.que] at d;rcases Ab3.1 d with d|d
  ·obtain⟨q1,H⟩:=Ach.1 d;have H:=Adf H;exact⟨by omega,(c.rg.at_ q q1).2⟩
  ·obtain⟨m,hm,e⟩:=Aeg.1 d;obtain⟨p,hp,t⟩:=h.lv.mv m hm;unfold Ko at e;split at e
   ·cases e
   ·cases e;have hd:=kI i hp m.Bd;have hf:=t.fr;rw[show p=m.I.toNat by omega] at hd;refine⟨?_,t.pos⟩;show s.B+1≤BC (BC (s.B+1)+Pu b m.I.toNat m.Bd)
    rw[DJ (n:=s.B+1) (by omega) (by omega),DJ (by omega) (by omega)];omega
structure yL (i:Ck):Prop where
 rain:i.Aa.length≤20
 faults:i.Ai.length≤20
 cmds:i.Ak.length≤20
 takes:i.Ab.length≤20
 swaps:i.Ae.length≤20
structure Zu (b:AF):Prop where
 r:J4 b
 pos:Tf b
 p6:b.A.length≤6
 l6:b.G.length≤6
structure Aap (N:Nat) (b:AF) (s:AE) (i:Ck) (y:AE×List AJ×List Int):Prop where
 er:GR N b s i=some y
 rg0:Vk b s
 rg:Vk b y.1
 hour:y.1.B=s.B+1
 h0:s.B<16777216
 ml:y.2.1.length≤232
 ql:y.1.E.length≤s.E.length+232
 pl:y.2.2.length=b.A.length
 ex:∃o1 ns o3 l,(∀gs:List AT,Db N (⟨b,i,({ s with O:=gs}:AE),([]:List AJ),(List.replicate ((b.A.length:Int)).toNat (0:Int)),([]:List AM)⟩:AN)=some o1)∧In b.A.length b.F.length o1∧o1.map List.sum=s.D.map List.sum∧Wk N b s i.Ab o1 y ns o3 l∧FE o3+GI (JK s.B s.E)=FE s.D+GI s.E+ns.sum∧s.N.sum+ns.sum≤1152921504606846976
def cS {N:Nat}(g:18446744073709551616<N){b:AF}(c:Zu b){s:AE}(d:Vk b s) (q:s.B<16777216) (Q:s.E.length≤100000){i:Ck}(t:yL i):∃y,Aap N b s i y:=by
 obtain⟨U,V,X,Y,Z⟩:=t;have j:=c.p6;have u:=c.l6;have v:=c.r.head.own;obtain⟨w,k,m,z,C⟩:=bE (N:=N) (by omega) (b:=b) (s:=s) (in_:=i) (W:=b.F.length) (by omega) (by omega) d.rg.x.own;obtain⟨r,D,H,l,n,h,o,_,_,p⟩:=iT g c.r.head c.r.links c.r.places d.rg.x (by omega) (in_:=i) (by omega) (by omega) (by omega) k m z;obtain⟨I,J⟩:=W4 g c.r c.pos d (by omega) n h o p;have a:=Yh g c.r.head d.rg h;have hm:b.A.length*(i.Ab.length+b.G.length+2)≤6*28:=Ad1 j (by omega);have K:=a.ql;have M:=h.ml2;exact⟨r,n,d,I,J,q,by omega,by omega,by rw[h.pk,Ac1,h.ox3.len],w,D,H,l,k,m,C,h,o,p⟩
inductive Se (N:Nat) (b:AF):AE→List Ck→List AE→List AJ→List (List Int)→AE→Prop
 |nil (s:AE):Se N b s [] [] [] [] s
 |cons {s:AE} {i:Ck} {y:AE×List AJ×List Int} {l:List Ck} {ss:List AE} {ms:List AJ} {ps:List (List Int)} {t:AE}:Aap N b s i y→Se N b y.1 l ss ms ps t→Se N b s (i::l) (y.1::ss) (y.2.1++ms) (y.2.2::ps) t
def eQ {N:Nat}(d:18446744073709551616<N){b:AF}(g:Zu b):∀(l:List Ck){s:AE},Vk b s→s.B+l.length≤16777216→s.E.length+232*l.length≤100000→(∀i∈l,yL i)→∃k ms m t,Se N b s l k ms m t∧Vk b t∧t.B=s.B+l.length∧t.E.length≤s.E.length+232*l.length
 |[],s,a,_,_,_=>⟨[],[],[],s,.nil s,a,by simp,by simp⟩
 |i::l,s,a,p,q,n=>by
  rw[Acj] at p q;obtain⟨y,o⟩:=cS d g a (by omega) (by omega) (n i (.head _));have w:=o.hour;have x:=o.ql;obtain⟨k,ms,m,t,c,u,z,A⟩:=eQ d g l o.rg (by omega) (by omega) λj v=>n j (.tail _ v);exact⟨_,_,_,t,.cons o c,u,by rw[Acj];omega,by rw[Acj];omega⟩
def Se.app {N:Nat}{b:AF}{s t u:AE}{l i:List Ck}{j a:List AE}{ms d:List AJ}{m g:List (List Int)}(p:Se N b s l j ms m t) (k:Se N b t i a d g u):Se N b s (l++i) (j++a) (ms++d) (m++g) u:=by
 induction p with
 |nil s=>exact k
 |cons o c n=>rw[Adz];exact .cons o (n k)
def Se.len {N:Nat}{b:AF}{s t:AE}{l:List Ck}{a:List AE}{ms:List AJ}{d:List (List Int)}(j:Se N b s l a ms d t):a.length=l.length∧d.length=l.length∧ms.length≤232*l.length:=by
 induction j with
 |nil s=>exact⟨rfl,rfl,Aa4 _⟩
 |cons o c g=>
  have i:=o.ml;simp only[Acj,Abi];omega
def Se.at {N:Nat}{b:AF}{s t:AE}{l:List Ck}{a:List AE}{ms:List AJ}{g:List (List Int)}(v:Se N b s l a ms g t):∀(k:Nat) u,a[k]? =some u→Vk b u∧u.B=s.B+k+1∧u.E.length≤s.E.length+232*l.length:=by
 induction v with
 |nil s=>intro k u v;cases v
 |cons o c i=>
  intro k u d;have m:=o.hour;have n:=o.ql;rw[Acj];cases k with
  |zero=>cases d;exact⟨o.rg,by omega,by omega⟩
  |succ k=>obtain⟨j,p,q⟩:=i k u d;exact⟨j,by omega,by omega⟩
def Se.pk {N:Nat}{b:AF}{s t:AE}{l:List Ck}{g:List AE}{ms:List AJ}{d:List (List Int)}(j:Se N b s l g ms d t):∀p∈d,p.length=b.A.length:=by
 induction j with
 |nil s=>intro p a;cases a
 |cons o c i=>
  intro p a;rcases Aa5.1 a with rfl|a
  ·exact o.pl
  ·exact i p a
def YY {α}{l r:List α}{x:α}{k:Nat}(d:l.drop k=x::r):∃b:k<l.length,l[k]=x∧l.drop (k+1)=r:=by
 have b:k<l.length:=by
  rcases Abk k l.length with a|a
  ·exact a
  ·rw[Ads a] at d;cases d
 rw[Ad6 b] at d;injection d with a c
 exact⟨b,a,c⟩
def Wa {α}{l:List α}{k:Nat}(a:l.drop k=[]):l.length≤k:=by
 simpa using a
def XS {N:Nat}{b:AF}{ins:List Ck}{kj:List AE→List AJ→List (List Int)→Option (List AE×List AJ×List (List Int))}{s t:AE}{l:List Ck}{j:List AE}{ms:List AJ}{p:List (List Int)}(H:Se N b s l j ms p t):∀(k n:Nat) (a:List AE) (d:List AJ) (g:List (List Int)),ins.drop k=l→l.length<n→k+l.length≤100000→a.length+l.length≤100000→d.length+232*l.length≤100000→g.length+l.length≤100000→Gy N b ins kj n a d g (k:Int) s.B s.D s.M s.E s.O s.N s.L=kj (a++j) (d++ms) (g++p):=by
 induction H with
 |nil s=>
  intro k n a d g hd q _ _ _ _;obtain⟨m,rfl⟩:∃m,n=m+1:=⟨n-1,by simp at q;omega⟩
  simp only[Gy];rw[ES (Wa hd),Aa0,Abx,Abx,Abx]
 | @cons s i y l j ms p t o c v=>
  intro k n a d g hd q h0 w x z;rw[Acj] at q h0 w x z;obtain⟨m,rfl⟩:∃m,n=m+1:=⟨n-1,by omega⟩
  obtain⟨u,A,C⟩:=YY hd;have F:GR N b (⟨s.B,s.D,s.M,s.E,s.O,s.N,s.L⟩:AE) i=some y:=o.er;have G:=o.ml;simp only[Gy];rw[ER u,Aax,BI u,Aav,A,F,Aav,IM (by omega),IM (by omega),IM (by omega),BF (by omega)];rw[v (k+1) m (a++[y.1]) (d++y.2.1) (g++[y.2.2]) C (by omega) (by omega) (by simp;omega) (by simp;omega) (by simp;omega)];simp
def eP {N:Nat}{b:AF}{ins:List Ck}{kj:Int→List (List Int)→List Int→List AM→List AT→List Int→List Int→Option AE}{s t:AE}{l:List Ck}{d:List AE}{ms:List AJ}{g:List (List Int)}(w:Se N b s l d ms g t):∀(k n:Nat),ins.drop k=l→l.length<n→k+l.length≤100000→Hw N b ins kj n (k:Int) s.B s.D s.M s.E s.O s.N s.L=kj t.B t.D t.M t.E t.O t.N t.L:=by
 induction w with
 |nil s=>
  intro k n hd a _;obtain⟨m,rfl⟩:∃m,n=m+1:=⟨n-1,by simp at a;omega⟩
  simp only[Hw];rw[ES (Wa hd),Aa0]
 | @cons s i y l d ms g t o c p=>
  intro k n hd a h0;rw[Acj] at a h0;obtain⟨m,rfl⟩:∃m,n=m+1:=⟨n-1,by omega⟩
  obtain⟨j,q,u⟩:=YY hd;have v:GR N b (⟨s.B,s.D,s.M,s.E,s.O,s.N,s.L⟩:AE) i=some y:=o.er;simp only[Hw];rw[ER j,Aax,BI j,Aav,q,v,Aav,BF (by omega)];exact p (k+1) m u (by omega) (by omega)
def Zl {N:Nat}(d:1000000<N){b:AF}{s t:AE}{l:List Ck}{a:List AE}{ms:List AJ}{c:List (List Int)}(i:Se N b s l a ms c t) (g:l.length≤12):Jz N b s l=some (a,ms,c):=by
 unfold Jz;have e:=XS (ins:=l) (kj:=JM N) i 0 N [] [] [] rfl (by omega) (by omega) (by simp;omega) (by simp;omega) (by simp;omega);exact e
def jW {N:Nat}(d:1000000<N){b:AF}{s t:AE}{l:List Ck}{a:List AE}{ms:List AJ}{c:List (List Int)}(i:Se N b s l a ms c t) (g:l.length≤12):LO N b s l=some t:=by
 unfold LO;have e:=eP (ins:=l) (kj:=KJ N) i 0 N rfl (by omega) (by omega);exact e
def dJ {N:Nat}(l:18446744073709551616<N) (b:AF) (s:AE) (ins:List Ck):∃v,Fe N b s ins=some v∧(v=true→Zu b∧Vk b s∧s.E.length≤20∧ins.length≤12∧s.B≤16777196∧∀i∈ins,yL i):=by
 unfold Fe;cases m:((((decide (6<(b.A.length:Int))||decide (6<(b.G.length:Int)))||decide (20<(s.E.length:Int)))||decide (12<(ins.length:Int)))||decide (16777196<s.B)) with
 |true=>exact⟨false,rfl,λM=>by cases M⟩
 |false=>
  simp only[Abu,Abp] at m;obtain⟨⟨⟨⟨x,y⟩,z⟩,C⟩,D⟩:=m;rw[Aa0];rcases NC ins.length (λn i (_:Unit)=>Cp N ins (Cb N b s) n i) (λ_=>Cb N b s) (some false) (λk _=>∀i∈ins.take k,yL i) (λn k t c=>by
   simp only[Cp];rw[ES c];rfl) (λn k t d c=>by
   simp only[Cp];rw[ER c,Aax,BI c,Aav,BF (by omega)];cases o:((((decide (20<((ins[k]).Aa.length:Int))||decide (20<((ins[k]).Ai.length:Int)))||decide (20<((ins[k]).Ak.length:Int)))||decide (20<((ins[k]).Ab.length:Int)))||decide (20<((ins[k]).Ae.length:Int)))
   ·simp only[Abu,Abp] at o;obtain⟨⟨⟨⟨F,H⟩,I⟩,J⟩,K⟩:=o;refine .inr ⟨(),λj a=>?_,rfl⟩;rw[Acv c] at a;rcases Ab3.1 a with a|a
    ·exact d j a
    ·cases Ace.1 a;exact⟨by omega,by omega,by omega,by omega,by omega⟩
   ·exact .inl rfl) N 0 () (λi d=>by cases d) (by omega) (Aa4 _) with e|⟨_,i1,e⟩
  ·exact⟨false,e,λM=>by cases M⟩
  ·rw[show Cp N ins (Cb N b s) N 0=Cb N b s from e];rw[Abo] at i1;unfold Cb;obtain⟨v,p,kv⟩:=WD l b;rw[p,Aav];cases v with
   |false=>exact⟨false,rfl,λM=>by cases M⟩
   |true=>
    obtain⟨g,q,_,_⟩:=Zo l p;obtain⟨v,u,w⟩:=ZK (N:=N) (by omega) g.head g.places s (by omega);rw[Aax,u];exact⟨v,rfl,λM=>⟨⟨g,q,by omega,by omega⟩,w M,by omega,by omega,by omega,i1⟩⟩
def Xx:Ed BN=some true:=by decide +kernel
structure Z2 (W:Nat) (φ:List Int→Int):Prop where
 add:∀{a b:List Int},a.length=W→b.length=W→φ (En a b)=φ a+φ b
 sub:∀{a b:List Int},a.length=W→b.length=W→φ (IK a b)=φ a-φ b
def Z2.zero {W:Nat}{d:List Int→Int}(g:Z2 W d):d (List.replicate W 0)=0:=by
 have c:=g.add (a:=List.replicate W 0) (b:=List.replicate W 0) Ad4 Ad4;rw[RJ Ad4] at c;omega
def jN {W o:Nat}(c:o<W):Z2 W λx=>x.getD o 0:=⟨λa b=>T6 a b c,λa b=>T4 a b c⟩
def jM (W:Nat):Z2 W List.sum:=⟨λa b=>IY (a.trans b.symm),λa b=>Sh (a.trans b.symm)⟩
def Tq (a:List Int→Int) (p:Int) (q:List AM):Int:=(q.map λl=>if l.C=p then a l.K else 0).sum
def Rx (a:List Int→Int) (p:Int) (q:List AJ):Int:=(q.map λl=>if l.C=p then a l.K else 0).sum
def Ry (a:List Int→Int) (p:Int) (q:List AJ):Int:=(q.map λl=>if l.I=p then a l.K else 0).sum
def Rw (a:List Int→Int) (p:Int) (l:AM) (q:List AM):Tq a p (l::q)=(if l.C=p then a l.K else 0)+Tq a p q:=by unfold Tq;rw[Abl,Ab2]
def Nf (a:List Int→Int) (p:Int) (l:AJ) (q:List AJ):Rx a p (l::q)=(if l.C=p then a l.K else 0)+Rx a p q:=by unfold Rx;rw[Abl,Ab2]
def OM (a:List Int→Int) (p:Int) (l:AJ) (q:List AJ):Ry a p (l::q)=(if l.I=p then a l.K else 0)+Ry a p q:=by unfold Ry;rw[Abl,Ab2]
def jC (c:List Int→Int) (p:Int) (a b:List AM):Tq c p (a++b)=Tq c p a+Tq c p b:=by unfold Tq;rw[Ack,Acl]
def La (c:List Int→Int) (p:Int) (a b:List AJ):Rx c p (a++b)=Rx c p a+Rx c p b:=by unfold Rx;rw[Ack,Acl]
def MQ (c:List Int→Int) (p:Int) (a b:List AJ):Ry c p (a++b)=Ry c p a+Ry c p b:=by unfold Ry;rw[Ack,Acl]
def VO {W:Nat}{u:List Int→Int}(d:Z2 W u) (t:Int) (p:Nat):∀(q:List AM) (a:List Int),a.length=W→(∀l∈q,l.K.length=W)→((q.filter λl=>decide (l.Z≤t)&&decide (l.C=(p:Int))).foldl (λa l=>En a l.K) a).length=W∧u ((q.filter λl=>decide (l.Z≤t)&&decide (l.C=(p:Int))).foldl (λa l=>En a l.K) a)+Tq u p (JK t q)=u a+Tq u p q
 |[],a,b,_=>⟨b,rfl⟩
 |l::q,a,b,m=>by
  have n:=m l (.head _);have i:∀x∈q,x.K.length=W:=λx s=>m x (.tail _ s);rw[Rw];by_cases o:l.Z≤t
  ·have j:JK t (l::q)=JK t q:=by
    unfold JK;rw[Aep (by simp;omega)]
   rw[j];by_cases g:l.C=(p:Int)
   ·rw[Aeu (by simp [o,g]),List.foldl_cons,Aay g];obtain⟨c,k⟩:=VO d t p q (En a l.K) (Jf b n) i;exact⟨c,by rw[k,d.add b n];omega⟩
   ·rw[Aep (by simp [g]),Aaw g];obtain⟨c,k⟩:=VO d t p q a b i;exact⟨c,by omega⟩
  ·have j:JK t (l::q)=l::JK t q:=by
    unfold JK;rw[Aeu (by simp;omega)]
   rw[j,Rw,Aep (by simp [o])];obtain⟨c,k⟩:=VO d t p q a b i;exact⟨c,by omega⟩
def cR {b:AF}{H:Int}{W:Nat}{C:List Int→Int}(u:Z2 W C) (p:Nat):∀{l:List AJ}{w:List (List Int)},In b.A.length W w→Q6 l w→(∀m∈l,∃p,p<b.A.length∧xT b H W p m)→C ((QE w l).getD p [])+Ry C p l=C (w.getD p [])
 |[],w,_,_,_=>by show C (w.getD p [])+0=_;omega
 |m::l,w,v,z,y=>by
  obtain⟨⟨x,k,n⟩,d⟩:=z;obtain⟨q,B,o⟩:=y m (.head _);have g:=v.all x (Ab6 k);have i:=n.sub g;have a:w.getD m.I.toNat []=x:=by rw[Abg,k];rfl
  rw[a] at d;have j:=cR u p (l:=l) (w:=upd w m.I (IK x m.K)) (v.upd _ i.1) d λm s=>y m (.tail _ s);rw[show QE w (m::l)=QE (upd w m.I (IK (w.getD m.I.toNat []) m.K)) l from rfl,a,OM];have t:=o.fr;have c:=(Aba.1 k).1;have e:(upd w m.I (IK x m.K)).getD p []=if m.I=(p:Int) then IK x m.K else w.getD p []:=by
   rw[t] at c ⊢;rw[Ab0] at c;rw[Abg,Abg];by_cases e:q=p
   ·subst e;rw[Aay rfl,GL c];rfl
   ·rw[Aaw (by omega),Ig e]
  rw[e] at j;by_cases D:m.I=(p:Int)
  ·rw[Aay D] at j ⊢;have:w.getD p []=x:=by rw[←a,D,Ab0]
   rw[this];rw[u.sub g.len i.2.2.len] at j;omega
  ·rw[Aaw D] at j ⊢;omega
def X1 (a:List Int→Int) (b:AF) (H:Int) (p:Nat):∀(l:List AJ),Tq a p (l.filterMap (Ko b H))=Rx a p l
 |[]=>rfl
 |m::l=>by
  rw[Nf,←X1 a b H p l];by_cases c:m.C<0
  ·rw[List.filterMap_cons_none (by unfold Ko;rw[Aay c]),Aaw (by omega)];omega
  ·rw[List.filterMap_cons_some (b:=(⟨BC (BC (H+1)+Pu b m.I.toNat m.Bd),m.C,m.K⟩:AM)) (by unfold Ko;rw[Aaw c]),Rw]
def X9 {W:Nat}{k:List Int→Int}(b:Z2 W k) (H:Int) (p:Nat):∀(l:List Int) (i:Nat),(∀n∈l,0≤n)→Rx k p (Tp H W i l)=if i≤p then k (v1 W (l.getD (p-i) 0)) else 0
 |[],i,_=>by
  show(0:Int)=_
  split
  ·show _=k (v1 W 0);rw[Pb,b.zero]
  ·rfl
 |a::l,i,m=>by
  have j:=m a (.head _);rw[Tp,La,X9 b H p l (i+1) λn g=>m n (.tail _ g)];have e:Rx k p (if 0<a then [(⟨H, -1,(i:Int), -4,v1 W a⟩:AJ)] else [])=if i=p then k (v1 W a) else 0:=by
   by_cases h0:0<a
   ·rw[Aay h0,Nf];show(if (i:Int)=(p:Int) then k (v1 W a) else 0)+0=_
    by_cases e:i=p
    ·rw[Aay e,Aay (by omega)];omega
    ·rw[Aaw e,Aaw (by omega)];rfl
   ·rw[Aaw h0];show(0:Int)=_
    split
    ·rw[show a=0 by omega,Pb,b.zero]
    ·rfl
  rw[e];by_cases c:i=p
  ·subst c;rw[Aay rfl,Aaw (by omega),Aay (Abd _),Nat.sub_self];show _=k (v1 W a)
   omega
  ·rw[Aaw c];by_cases d:i≤p
   ·rw[Aay (by omega),Aay d,show p-i=(p-(i+1))+1 by omega,List.getD_cons_succ];omega
   ·rw[Aaw (by omega),Aaw d];rfl
def YB {W:Nat}{o:List Int→Int}(b:Z2 W o) (c:1≤W) (H:Int):∀(l:List Int) (i:Nat),(∀n∈l,0≤n)→Ry o (-1) (Tp H W i l)=o (v1 W l.sum)∧(∀p:Nat,Ry o p (Tp H W i l)=0)∧Rx o (-1) (Tp H W i l)=0
 |[],i,_=>⟨by show(0:Int)=o (v1 W 0);rw[Pb,b.zero],λ_=>rfl,rfl⟩
 |a::l,i,q=>by
  have m:=q a (.head _);obtain⟨g,d,j⟩:=YB b c H l (i+1) λn k=>q n (.tail _ k);rw[Tp,MQ,La,g,j,Ab2,←aI c,b.add (L3 _ _) (L3 _ _)];by_cases h0:0<a
  ·rw[Aay h0];refine⟨?_,λp=>?_,?_⟩
   ·rw[OM,Aay rfl];show o (v1 W a)+(0:Int)+_=_
    omega
   ·rw[MQ,d,OM,Aaw (by show ¬(-1:Int)=(p:Int);omega)];rfl
   ·rw[Nf,Aaw (by show ¬(i:Int)= -1;omega)];rfl
  ·rw[Aaw h0,show a=0 by omega,Pb,b.zero];exact⟨by show(0:Int)+_=_;omega,λp=>by rw[MQ,d];rfl,rfl⟩
def XH {N W:Nat}(d:1000000<N) (i:W≤1000){t:List Int→Int}(g:Z2 W t):∀{l:List AJ}{out:List Int},(∀m∈l,PX W m.K∧ -1≤m.C)→out.length=W→(∀x∈out,0≤x)→out.sum+KY l≤2305843009213693952→t (RX N out l)=t out+Rx t (-1) l
 |[],out,_,b,h0,_=>by show t out=t out+0;omega
 |m::l,out,c,b,h0,k=>by
  obtain⟨a,n⟩:=c m (.head _);have o:=U8 (W:=W) (l:=l) λm a=>(c m (.tail _ a)).1;have p:KY (m::l)=m.K.sum+KY l:=by unfold KY;rw[Abl,Ab2]
  rw[p] at k;have q:=a.sum0;rw[show RX N out (m::l)=RX N (if m.C<0 then (Ey N out m.K).getD [] else out) l from rfl,Nf];by_cases u:m.C<0
  ·rw[Aay u,U3 d (by omega) (by rw[a.len,b]) (λx j=>by have:=Gi h0 x j;have:=h0 x j;omega) a.bd,Acm,Aay (by omega)];have s:(En out m.K).sum=out.sum+m.K.sum:=IY (b.trans a.len.symm);rw[XH d i g (l:=l) (out:=En out m.K) (λm a=>c m (.tail _ a)) (Jf b a.len) (Nt h0 a.nn) (by omega),g.add b a.len];omega
  ·rw[Aaw u,Aaw (by omega),XH d i g (l:=l) (λm a=>c m (.tail _ a)) b h0 (by omega)];omega
def Ug (a:List Int→Int) (p:Nat) (s:AE):Int:=a (s.D.getD p [])+Tq a p s.E
structure Oi (P:Nat) (φ:List Int→Int) (s:AE) (ms:List AJ) (t:AE):Prop where
 at_:∀p,p<P→Ug φ p t=Ug φ p s+Rx φ p ms-Ry φ p ms
 inn:φ t.N=φ s.N+Ry φ (-1) ms
 out:φ t.L=φ s.L+Rx φ (-1) ms
def Oi.nil (P:Nat) (a:List Int→Int) (s:AE):Oi P a s [] s:=⟨λp _=>by show _=_+0-0;omega,by show _=_+0;omega,by show _=_+0;omega⟩
def Oi.app {P:Nat}{d:List Int→Int}{s t u:AE}{a c:List AJ}(g:Oi P d s a t) (k:Oi P d t c u):Oi P d s (a++c) u:=
 ⟨λp b=>by rw[k.at_ p b,g.at_ p b,La,MQ];omega,by rw[k.inn,g.inn,MQ];omega,by rw[k.out,g.out,La];omega⟩
def WN {N:Nat}(hN:18446744073709551616<N){b:AF}(Q:Zu b){φ:List Int→Int}(d:Z2 b.F.length φ){s:AE}{ts:List Hi}{v:List (List Int)}(w:Vk b s) (x1:In b.A.length b.F.length v) (hO:∀p,p<b.A.length→φ (v.getD p [])=φ (s.D.getD p [])){y:AE×List AJ×List Int}{i:List Int}{U:List (List Int)}{l:List AJ}(h:Wk N b s ts v y i U l):Oi b.A.length φ s y.2.1 y.1:=by
 have hW:=Q.r.head.own;have z:=Q.r.head.own1;have j:=w.rg.x;have c:=h.lv;have G:∀l∈s.E,l.K.length=b.F.length:=λl n=>(j.que l n).1.len;obtain⟨r1,r2,r3⟩:=YB d z s.B i 0 h.n0;have H:Ry φ (-1) l=0:=by
  have:∀l:List AJ,(∀m∈l,m.I≠ -1)→Ry φ (-1) l=0:=λl n=>by
   induction l with
   |nil=>rfl
   |cons m l ih=>rw[OM,Aaw (n m (.head _)),ih λm o=>n m (.tail _ o)];rfl
  exact this l λm o=>by obtain⟨p,_,g⟩:=c.mv m o;have:=g.fr;omega
 refine⟨λp g=>?_,?_,?_⟩
 ·obtain⟨x,_,q,t⟩:=x1.ix g;have u:p<i.length:=by rw[h.nl];exact g
  have V:=h.at3 p x _ q (Abf u);have g1:U.getD p []=En (En x (v1 b.F.length i[p])) (Q5 b.F.length s.B s.E p):=by rw[Abg,V];rfl
  have g2:v.getD p []=x:=by rw[Abg,q];rfl
  have g3:i.getD p 0=i[p]:=by simp [Abg,u]
  obtain⟨W,X⟩:=VO d s.B p s.E (List.replicate b.F.length 0) Ad4 G;have a3:(s.E.filter λl=>decide (l.Z≤s.B)&&decide (l.C=(p:Int))).foldl (λa l=>En a l.K) (List.replicate b.F.length 0)=Q5 b.F.length s.B s.E p:=rfl;rw[a3] at W X;rw[d.zero] at X;have e1:=cR d p h.ox3 c.val c.mv;rw[←c.own,g1,d.add (Jf t.len (L3 _ _)) W,d.add t.len (L3 _ _)] at e1;have e2:=hO p g;rw[g2] at e2;have Y:=X9 d s.B p i 0 h.n0;rw[Aay (Aa4 _),Nat.sub_zero,g3] at Y;have e4:=X1 φ b s.B p l;unfold Ug;rw[c.ms_,La,MQ,r2 p,Y,h.que,jC,e4];omega
 ·rw[h.inn,d.add j.inn (L3 _ _),c.ms_,MQ,r1,H];omega
 ·have V:=h.os3;have h4:=w.rg.outs;have h5:=j.inns;have ht:=c.tot;have aa:=c.ox.sum0;have ab:=j.own.sum0;have J:=(Ek j.que 0).2;rw[Acb,show GI ([]:List AM)=0 from rfl] at J;have k:QX b.A.length b.F.length (JK s.B s.E):=λl n=>j.que l (Ach.1 n).1;have M:=(Ek k 0).2;rw[Acb,show GI ([]:List AM)=0 from rfl] at M;rw[c.out_,XH (N:=N) (by omega) (by omega) d (λm o=>by obtain⟨p,_,g⟩:=c.mv m o;have:=g.to;exact⟨g.px,by omega⟩) j.out w.rg.out0 (by omega),c.ms_,La,r3];omega
def Se.keep {N:Nat}(g:18446744073709551616<N){b:AF}(i:Zu b){s t:AE}{l:List Ck}{j:List AE}{ms:List AJ}{k:List (List Int)}(B:Se N b s l j ms k t):Oi b.A.length List.sum s ms t:=by
 induction B with
 |nil s=>exact .nil _ _ _
 |cons o c m=>
  obtain⟨n,w,y,l,_,a,q,B,_,_⟩:=o.ex;refine(WN g i (jM _) o.rg0 a (λp d=>?_) B).app m;have:=Aaz (λz:List Int=>z.getD p 0) q;simp only[Abg,Acx] at this ⊢;have u:p<n.length:=by rw[a.len];exact d
  have v:=o.rg0.rg.x.own.len;rw[Abf u,Abf (by rw[v];exact d)] at this ⊢;exact this
def pS {N:Nat}(d:1000000<N){b:AF}{s:AE}{in_:Ck}(a:in_.Ae=[]) (c:List AT):Db N (⟨b,in_,({ s with O:=c}:AE),([]:List AJ),(List.replicate ((b.A.length:Int)).toNat (0:Int)),([]:List AM)⟩:AN)=some s.D:=by
 obtain⟨n,rfl⟩:∃n,N=n+1:=⟨N-1,by omega⟩
 unfold Db;simp only[CI,a];rfl
def Se.keepS {N:Nat}(d:18446744073709551616<N){b:AF}(g:Zu b){C:List Int→Int}(j:Z2 b.F.length C){s t:AE}{l:List Ck}{k:List AE}{ms:List AJ}{m:List (List Int)}(D:Se N b s l k ms m t):(∀i∈l,i.Ae=[])→Oi b.A.length C s ms t:=by
 induction D with
 |nil s=>exact λ_=> .nil _ _ _
 |cons o c n=>
  intro a;obtain⟨w,x,y,l,q,u,z,D,_,_⟩:=o.ex;have e:=q [];rw[pS (by omega) (a _ (.head _))] at e;cases e;exact(WN d g j o.rg0 u (λp B=>rfl) D).app (n λi v=>a i (.tail _ v))
structure uL (b:AF) (m:AJ):Prop where
 px:PX b.F.length m.K
 pos:0<m.K.sum
 fr:m.I= -1∨(0≤m.I∧m.I<b.A.length)
 to:m.C= -1∨(0≤m.C∧m.C<b.A.length)
 ne:m.I= -1→m.C≠ -1
def cG {H:Int}{W:Nat}:∀{l:List Int}{i:Nat}{m:AJ},m∈Tp H W i l→m.I= -1∧(i:Int)≤m.C∧m.C<((i+l.length:Nat):Int)
 |[],_,m,g=>by cases g
 |a::l,i,m,g=>by
  rw[Tp] at g;rcases Ab3.1 g with g|g
  ·split at g
   ·rw[Ace.1 g];exact⟨rfl,Aby _,by simp;omega⟩
   ·cases g
  ·obtain⟨b,c,d⟩:=cG g;exact⟨b,by omega,by rw[Acj];omega⟩
def Se.mvk {N:Nat}{b:AF}(H:IP b){s t:AE}{l:List Ck}{A:List AE}{ms:List AJ}{C:List (List Int)}(h:Se N b s l A ms C t):∀m∈ms,uL b m:=by
 have d:=H.own1
 induction h with
 |nil s=>intro m a;cases a
 | @cons s i y Z A ms C t o c I=>
  intro m a;rcases Ab3.1 a with a|a
  ·obtain⟨o1,J,o3,l,_,M,_,h,_,_⟩:=o.ex;have Q:=o.rg0.rg.x;have u:∀n∈J,0≤n∧n≤1125899906842624:=λn D=>by
    refine⟨h.n0 n D,?_⟩;obtain⟨i,G⟩:=Acy.1 D;have v:=(Aba.1 G).1;obtain⟨x,_,w,g⟩:=M.ix (k:=i) (by rw[←h.nl];exact v);have z:=h.at3 i x n w G;have U:=(h.ox3.all _ (Ab6 z)).mv;have j:=Yd Q.que (t:=s.B) (p:=i) s.E.length (Abd _);rw[Abo] at j;rw[IY (by rw[Jf g.len (L3 _ _),j.1]),IY (by rw[g.len,L3]),Oo d] at U;have:=g.sum0;have:=JV j.2;omega
   rw[h.lv.ms_] at a;rcases Ab3.1 a with a|a
   ·obtain⟨V,k2,k3⟩:=cG a;obtain⟨k,n,W,X,z⟩:=X5 a;have Y:=h.nl;have e:m.K=v1 b.F.length n:=by rw[z]
    exact⟨by rw[e];exact Xn d (by omega) (u n W).2,by rw[e,Oo d];exact X,.inl V,.inr ⟨by omega,by omega⟩,λ_=>by omega⟩
   ·obtain⟨p,hp,q⟩:=h.lv.mv m a;have:=q.fr;exact⟨q.px,q.pos,.inr ⟨by omega,by omega⟩,q.to,λ_=>by omega⟩
  ·exact I m a
def sm (f:Nat→Int):Nat→Int
 |0=>0
 |n+1=>sm f n+f n
def Ll {f g:Nat→Int}:∀{n:Nat},(∀i,i<n→f i=g i)→sm f n=sm g n
 |0,_=>rfl
 |n+1,b=>by rw[sm,sm,Ll λi a=>b i (by omega),b n (by omega)]
def QB (f g:Nat→Int):∀n,sm (λi=>f i+g i) n=sm f n+sm g n
 |0=>rfl
 |n+1=>by rw[sm,sm,sm,QB f g n];omega
def Pc:∀n,sm (λ_=>0) n=0
 |0=>rfl
 |n+1=>by rw[sm,Pc n];rfl
def bM (l:List Int):∀n,n≤l.length→sm (λp=>l.getD p 0) n=(l.take n).sum
 |0,_=>by simp [sm]
 |n+1,a=>by
  rw[KB (show n<l.length by omega),sm,bM l n (by omega)];simp [Abg,show n<l.length by omega]
def UM {u v:Type}{kv:u→Value}(i:∀k d,Ly (kv k) (kv d)=true↔k=d) (k:u) (x:v):∀(m:List (u×v)),m.Pairwise (λa c=>a.1≠c.1)→(N1 kv m k x).Pairwise (λa c=>a.1≠c.1)∧(∀e∈N1 kv m k x,e=(k,x)∨(e∈m∧e.1≠k))∧(k,x)∈N1 kv m k x∧∀e∈m,e.1≠k→e∈N1 kv m k x
 |[],_=>⟨List.pairwise_singleton _ _,λe b=> .inl (Ace.1 b),.head _,λe b=>by cases b⟩
 |(d,y)::r,w=>by
  obtain⟨j,o⟩:=List.pairwise_cons.1 w;obtain⟨q,p,s,t⟩:=UM i k x r o;simp only[N1];by_cases e:Ly (kv k) (kv d)=true
  ·have g:=(i _ _).1 e;subst g;rw[Aay e];refine⟨List.pairwise_cons.2 ⟨j,o⟩,λe b=>?_,.head _,λe b l=>?_⟩
   ·rcases Aa5.1 b with rfl|b
    ·exact .inl rfl
    ·exact .inr ⟨.tail _ b,λw=>j e b w.symm⟩
   ·rcases Aa5.1 b with rfl|b
    ·exact absurd rfl l
    ·exact .tail _ b
  ·have g:d≠k:=λw=>e ((i _ _).2 w.symm);rw[Aaw e];refine⟨List.pairwise_cons.2 ⟨λa n=>?_,q⟩,λe b=>?_,.tail _ s,λe b l=>?_⟩
   ·rcases p a n with rfl|⟨n,_⟩
    ·exact g
    ·exact j a n
   ·rcases Aa5.1 b with rfl|b
    ·exact .inr ⟨.head _,g⟩
    ·rcases p e b with w|⟨w,h'⟩
     ·exact .inl w
     ·exact .inr ⟨.tail _ w,h'⟩
   ·rcases Aa5.1 b with rfl|b
    ·exact .head _
    ·exact .tail _ (t e b l)
def UN {n o:Type}{kv:n→Value}(c:∀k b,Ly (kv k) (kv b)=true↔k=b) (k:n):∀(m:List (n×o)),(∃x,MN kv m k=some x∧(k,x)∈m)∨(MN kv m k=none∧∀e∈m,e.1≠k)
 |[]=> .inr ⟨rfl,λe j=>by cases j⟩
 |(b,y)::r=>by
  unfold MN;by_cases e:Ly (kv k) (kv b)=true
  ·have l:=(c _ _).1 e;subst l;rw[List.find?_cons_of_pos (by exact e)];exact .inl ⟨y,rfl,.head _⟩
  ·rw[List.find?_cons_of_neg (by exact e)];rcases UN c k r with ⟨x,d,g⟩|⟨d,g⟩
   ·exact .inl ⟨x,d,.tail _ g⟩
   ·refine .inr ⟨d,λa i=>?_⟩;rcases Aa5.1 i with rfl|i
    ·exact λp=>e ((c _ _).2 p.symm)
    ·exact g a i
def fW (k a:AA):Ly (Value.agg (AA.v k).toArray) (Value.agg (AA.v a).toArray)=true↔k=a:=by
 cases k;cases a;simp [Ly,Wq,Z0]
abbrev BM:=List (AA×AI)
structure nP (w:AI) (v:Int):Prop where
 val:w.hi*18446744073709551616+w.lo=v
 lo0:0≤w.lo
 lo1:w.lo≤18446744073709551615
structure Kh (c:Nat) (m:BM) (D:AA→Int):Prop where
 nd:m.Pairwise λa c=>a.1≠c.1
 val:∀e∈m,nP e.2 (D e.1)
 out:∀k,(∀e∈m,e.1≠k)→D k=0
 bd:∀k, -((c:Int)*2305843009213693952)≤D k∧D k≤(c:Int)*2305843009213693952
def Kh.nil:Kh 0 [] λ_=>0:=⟨.nil,λe a=>(by cases a),λ_ _=>rfl,λk=>⟨by simp,by simp⟩⟩
def Kh.get {c:Nat}{m:BM}{D:AA→Int}(d:Kh c m D) (k:AA):∃w,(MN (λk:AA=>Value.agg (AA.v k).toArray) m k).getD (⟨0,0⟩:AI)=w∧nP w (D k):=by
 rcases UN fW k m with ⟨x,a,b⟩|⟨a,b⟩
 ·exact⟨x,by rw[a];rfl,d.val _ b⟩
 ·exact⟨⟨0,0⟩,by rw[a];rfl,by rw[d.out k b];exact⟨rfl,by decide,by decide⟩⟩
def Kh.put {c c':Nat}{m:BM}{D a:AA→Int}(u:Kh c m D){k:AA}{w:AI}(n:nP w (a k)) (g:∀j,j≠k→a j=D j) (o:∀j, -((c':Int)*2305843009213693952)≤a j∧a j≤(c':Int)*2305843009213693952):Kh c' (N1 (λk:AA=>Value.agg (AA.v k).toArray) m k w) a:=by
 obtain⟨p,q,s,t⟩:=UM fW k w m u.nd;refine⟨p,λe d=>?_,λj i=>?_,o⟩
 ·rcases q e d with rfl|⟨h1,h2⟩
  ·exact n
  ·rw[g _ h2];exact u.val e h1
 ·have b:j≠k:=λe=>i _ s e.symm;rw[g j b];refine u.out j λe d l=>?_;exact i e (t e d (by rw[l];exact b)) l
def Ul {w:AI}{v:Int}(g:nP w v) (c: -1208925819614629174706176≤v∧v≤1208925819614629174706176):BC w.hi=w.hi∧IntKind.wrap .u64 w.lo=w.lo∧ -65537≤w.hi∧w.hi≤65536:=by
 have d:=g.val;have a:=g.lo0;have b:=g.lo1;exact⟨DJ (by omega) (by omega),SS (Uo.2 ⟨a,b⟩),by omega,by omega⟩
def aG {N:Nat}{w:AI}{v n:Int}(o:nP w v) (a: -1208925819614629174706176≤v∧v≤1208925819614629174706176) (d:0≤n∧n≤2305843009213693952):∃w',Jk N (⟨BC w.hi,IntKind.wrap .u64 w.lo⟩:AI) n=some w'∧nP w' (v+n):=by
 obtain⟨b,c,g,i⟩:=Ul o a;have j:=o.val;have l:=o.lo0;have m:=o.lo1;unfold Jk Kn;rw[b,c,SS (k:= .u64) (x:=n) (Uo.2 ⟨by omega,by omega⟩)];refine⟨_,rfl,?_,?_,?_⟩<;>simp only
 ·rw[DJ (n:=(w.lo+n+0)/18446744073709551616) (by omega) (by omega),DJ (by omega) (by omega)];omega
 ·omega
 ·omega
def aF {N:Nat}{w:AI}{v n:Int}(p:nP w v) (a: -1208925819614629174706176≤v∧v≤1208925819614629174706176) (g:0≤n∧n≤2305843009213693952):∃w',Jj N (⟨BC w.hi,IntKind.wrap .u64 w.lo⟩:AI) n=some w'∧nP w' (v-n):=by
 obtain⟨b,d,i,j⟩:=Ul p a;have l:=p.val;have m:=p.lo0;have o:=p.lo1;unfold Jj Km;rw[b,d,SS (k:= .u64) (x:=n) (Uo.2 ⟨by omega,by omega⟩)];refine⟨_,rfl,?_,?_,?_⟩<;>simp only
 ·by_cases c:w.lo<n+0
  ·rw[Aay c,DJ (n:=(1:Int)) (by decide) (by decide),DJ (by omega) (by omega)];omega
  ·rw[Aaw c,DJ (n:=(0:Int)) (by decide) (by decide),DJ (by omega) (by omega)];omega
 ·omega
 ·omega
def Nj (sort place:Int) (part:List Int) (k:AA):Int:=if k.sort=sort∧k.place=place∧0≤k.owner then part.getD k.owner.toNat 0 else 0
def Wn (W:Nat) (l:List Int):Prop:=l.length=W∧∀x∈l,0≤x∧x≤2305843009213693952
def dX {l:List Int}(a:∀x∈l,0≤x∧x≤2305843009213693952) (o:Nat):0≤l.getD o 0∧l.getD o 0≤2305843009213693952:=by
 rw[Abg];cases e:l[o]? with
 |none=>exact⟨by decide,by decide⟩
 |some x=>exact a x (Ab6 e)
def eK {sort place:Int}{part:List Int}(a:∀x∈part,0≤x∧x≤2305843009213693952) (k:AA):0≤Nj sort place part k∧Nj sort place part k≤2305843009213693952:=by
 unfold Nj;split
 ·exact dX a _
 ·exact⟨by decide,by decide⟩
def Wb {sort place:Int}{part:List Int}{i:Nat}(b:i<part.length):Nj sort place (part.take i) ⟨sort,place,(i:Int)⟩=0∧Nj sort place (part.take (i+1)) ⟨sort,place,(i:Int)⟩=part[i]∧∀j,j≠(⟨sort,place,(i:Int)⟩:AA)→Nj sort place (part.take (i+1)) j=Nj sort place (part.take i) j:=by
 unfold Nj;refine⟨?_,?_,λj d=>?_⟩
 ·simp only;rw[Aay ⟨trivial,trivial,by omega⟩,Ab0,Abg,Abv (by rw[Aca];omega)];rfl
 ·simp only;rw[Aay ⟨trivial,trivial,by omega⟩,Ab0,Abg,Ada,Aay (by omega),Abf b];rfl
 ·by_cases c:j.sort=sort∧j.place=place∧0≤j.owner
  ·rw[Aay c,Aay c];have:j.owner.toNat≠i:=λe=>d (by
    obtain⟨g,a,k⟩:=c;cases j;simp only at*;subst g a;congr 1;omega)
   rw[Abg,Abg,Ada,Ada];by_cases a:j.owner.toNat<i
   ·rw[Aay (by omega),Aay a]
   ·rw[Aaw (by omega),Aaw a]
  ·rw[Aaw c,Aaw c]
def Kh.v {c:Nat}{m:BM}{D:AA→Int}(b:Kh c m D) (a:c≤200000) (k:AA): -1208925819614629174706176≤D k-2305843009213693952∧D k+2305843009213693952≤1208925819614629174706176:=by
 have:=b.bd k;omega
def Qv {N:Nat}(G:1000000<N){c:Nat}{m:BM}{D:AA→Int}(M:Kh c m D) (H:c≤190000) (sort place:Int){part:List Int}(p:∀x∈part,0≤x∧x≤2305843009213693952) (I:part.length≤1000):∃d,EJ N m sort place part=some d∧Kh (c+1) d (λk=>D k+Nj sort place part k):=by
 unfold EJ;have b:∀(i:Nat) k, -(((c+1:Nat):Int)*2305843009213693952)≤D k+Nj sort place (part.take i) k∧D k+Nj sort place (part.take i) k≤((c+1:Nat):Int)*2305843009213693952:=λi k=>by
  have J:=M.bd k;have K:=eK (sort:=sort) (place:=place) (part:=part.take i) (λx g=>p x (Adh g)) k;omega
 obtain⟨d,q,e⟩:=Da part.length (λn i l=>Dw N sort place part n i l) (λl=>some l) (λk l=>Kh (c+1) l (λj=>D j+Nj sort place (part.take k) j)) (λn k l a=>by
  simp only[Dw];rw[ES a];rfl) (λn k l o a=>by
  obtain⟨s,t2,u⟩:=Wb (sort:=sort) (place:=place) a;have g:=p _ (Abc a);obtain⟨w,y,t⟩:=o.get ⟨sort,place,(k:Int)⟩;have z:=o.v (by omega) ⟨sort,place,(k:Int)⟩;rw[s] at t;rw[s] at z;obtain⟨w',A,B⟩:=aG (N:=N) (n:=part[k]) t (by omega) g;simp only[Dw];rw[ER a,Aax,BI a,Aav,y,A,Aav,BF (by omega)];exact⟨_,o.put (by rw[t2];simpa using B) (λj C=>by rw[u j C]) (b (k+1)),rfl⟩) N 0 m (by
   refine⟨M.nd,λe F=>?_,λk a=>?_,b 0⟩
   ·have:Nj sort place (part.take 0) e.1=0:=by unfold Nj;split<;>simp
    rw[this,Int.add_zero];exact M.val e F
   ·have:Nj sort place (part.take 0) k=0:=by unfold Nj;split<;>simp
    rw[this,Int.add_zero];exact M.out k a) (by omega) (Aa4 _)
 rw[Abo] at q;exact⟨d,e,q⟩
def N2 {N:Nat}(G:1000000<N){c:Nat}{m:BM}{D:AA→Int}(M:Kh c m D) (H:c≤190000) (sort place:Int){part:List Int}(p:∀x∈part,0≤x∧x≤2305843009213693952) (I:part.length≤1000):∃d,DK N m sort place part=some d∧Kh (c+1) d (λk=>D k-Nj sort place part k):=by
 unfold DK;have b:∀(i:Nat) k, -(((c+1:Nat):Int)*2305843009213693952)≤D k-Nj sort place (part.take i) k∧D k-Nj sort place (part.take i) k≤((c+1:Nat):Int)*2305843009213693952:=λi k=>by
  have J:=M.bd k;have K:=eK (sort:=sort) (place:=place) (part:=part.take i) (λx g=>p x (Adh g)) k;omega
 obtain⟨d,q,e⟩:=Da part.length (λn i l=>Dx N sort place part n i l) (λl=>some l) (λk l=>Kh (c+1) l (λj=>D j-Nj sort place (part.take k) j)) (λn k l a=>by
  simp only[Dx];rw[ES a];rfl) (λn k l o a=>by
  obtain⟨s,t2,u⟩:=Wb (sort:=sort) (place:=place) a;have g:=p _ (Abc a);obtain⟨w,y,t⟩:=o.get ⟨sort,place,(k:Int)⟩;have z:=o.v (by omega) ⟨sort,place,(k:Int)⟩;rw[s] at t;rw[s] at z;obtain⟨w',A,B⟩:=aF (N:=N) (n:=part[k]) t (by omega) g;simp only[Dx];rw[ER a,Aax,BI a,Aav,y,A,Aav,BF (by omega)];exact⟨_,o.put (by rw[t2];simpa using B) (λj C=>by rw[u j C]) (b (k+1)),rfl⟩) N 0 m (by
   refine⟨M.nd,λe F=>?_,λk a=>?_,b 0⟩
   ·have:Nj sort place (part.take 0) e.1=0:=by unfold Nj;split<;>simp
    rw[this,Int.sub_zero];exact M.val e F
   ·have:Nj sort place (part.take 0) k=0:=by unfold Nj;split<;>simp
    rw[this,Int.sub_zero];exact M.out k a) (by omega) (Aa4 _)
 rw[Abo] at q;exact⟨d,e,q⟩
structure OA (P W:Nat) (s:AE):Prop where
 len:s.D.length=P
 own:∀x∈s.D,Wn W x
 que:∀l∈s.E,Wn W l.K∧0≤l.C∧l.C<P
 inn:Wn W s.N
 out:Wn W s.L
structure VZ (P W:Nat) (m:AJ):Prop where
 px:Wn W m.K
 fr:m.I= -1∨(0≤m.I∧m.I<P)
 to:m.C= -1∨(0≤m.C∧m.C<P)
def NN (o:List (List Int)) (k:AA):Int:=if k.sort=0∧0≤k.place∧0≤k.owner then (o.getD k.place.toNat []).getD k.owner.toNat 0 else 0
def cN (q:List AM) (k:AA):Int:=(q.map λl=>Nj 0 l.C l.K k).sum
def Rs (s:AE) (k:AA):Int:=NN s.D k+cN s.E k+Nj 1 (-1) s.N k+Nj 2 (-1) s.L k
def Zx (m:AJ) (k:AA):Int:=(if m.I= -1 then -Nj 1 (-1) m.K k else Nj 0 m.I m.K k)-(if m.C= -1 then Nj 2 (-1) m.K k else Nj 0 m.C m.K k)
def Qt (l:List AJ) (k:AA):Int:=(l.map λm=>Zx m k).sum
def UK {o:List (List Int)}{i:Nat}(d:i<o.length) (k:AA):NN (o.take (i+1)) k=NN (o.take i) k+Nj 0 (i:Int) o[i] k:=by
 unfold NN Nj;by_cases c:k.sort=0∧0≤k.place∧0≤k.owner
 ·rw[Aay c,Aay c];have g:∀j,(o.take j).getD k.place.toNat []=if k.place.toNat<j then o.getD k.place.toNat [] else []:=λj=>by
   rw[Abg,Ada];split
   ·rw[Abg]
   ·rfl
  rw[g,g];by_cases a:k.place=(i:Int)
  ·rw[Aay (by omega),Aaw (by omega),Aay ⟨c.1,a,c.2.2⟩,a,Ab0,Abg (l:=o),Abf d];simp
  ·rw[Aaw (show ¬(k.sort=0∧k.place=(i:Int)∧0≤k.owner) from λm=>a m.2.1)];by_cases b:k.place.toNat<i
   ·rw[Aay (by omega),Aay b];omega
   ·rw[Aaw (by omega),Aaw b];rfl
 ·rw[Aaw c,Aaw c,Aaw (λm=>c ⟨m.1,by omega,m.2.2⟩)];rfl
def LR {c c':Nat}{m:BM}{D a:AA→Int}(g:Kh c m D) (b:c=c') (d:∀k,D k=a k):Kh c' m a:=by
 subst b;rw[show a=D from funext λk=>(d k).symm];exact g
def oY {N:Nat}(g:1000000<N){P W c:Nat}(H:P≤1000) (I:W≤1000){s:AE}(b:OA P W s) (J:s.E.length≤20000){m:BM}{D:AA→Int}(X:Kh c m D) (M:c≤100000):∃o,Fa N m s=some o∧Kh (c+s.D.length+s.E.length+2) o (λk=>D k+Rs s k):=by
 have Q:=b.len;unfold Fa;obtain⟨p,v,x⟩:=Da s.D.length (λn i l=>CY N s (Ca N s) n i l) (λl=>Ca N s l) (λk l=>Kh (c+k) l (λj=>D j+NN (s.D.take k) j)) (λn k l a=>by
  simp only[CY];rw[ES a];rfl) (λn k l q a=>by
  have d:=b.own _ (Abc a);obtain⟨o,t,u⟩:=Qv g q (by omega) 0 (k:Int) d.2 (by have:=d.1;omega);simp only[CY];rw[ER a,Aax,BI a,Aav,t,Aav,BF (by omega)];exact⟨_,LR u rfl λj=>by rw[UK a];omega,rfl⟩) N 0 m (LR X rfl λj=>by
   have:NN (s.D.take 0) j=0:=by unfold NN;split<;>simp
   rw[this];omega) (by omega) (Aa4 _)
 rw[show CY N s (Ca N s) N 0 m=Ca N s p from x];rw[Abo] at v;unfold Ca;obtain⟨y,w,z⟩:=Da s.E.length (λn i l=>CX N s (CZ N s) n i l) (λl=>CZ N s l) (λk l=>Kh (c+s.D.length+k) l (λj=>D j+NN s.D j+cN (s.E.take k) j)) (λn k l a=>by
  simp only[CX];rw[ES a];rfl) (λn k l q a=>by
  have d:=(b.que _ (Abc a)).1;obtain⟨o,t,u⟩:=Qv g q (by omega) 0 (s.E[k]).C d.2 (by have:=d.1;omega);simp only[CX];rw[ER a,Aax,BI a,Aav,t,Aav,BF (by omega)];exact⟨_,LR u (by omega) λj=>by unfold cN;rw[LM (f:=λl:AM=>Nj 0 l.C l.K j) a];omega,rfl⟩) N 0 p (LR v rfl λj=>by
   show _=_+(0:Int);omega) (by omega) (Aa4 _)
 rw[show CX N s (CZ N s) N 0 p=CZ N s y from z];rw[Abo] at w;unfold CZ;obtain⟨U,A,B⟩:=Qv g w (by omega) 1 (-1) b.inn.2 (by have:=b.inn.1;omega);obtain⟨V,F,G⟩:=Qv g B (by omega) 2 (-1) b.out.2 (by have:=b.out.1;omega);rw[A,Aav,F,Aav];exact⟨_,rfl,LR G (by omega) λj=>by unfold Rs;omega⟩
def oZ {N:Nat}(g:1000000<N){P W c:Nat}(H:P≤1000) (I:W≤1000){s:AE}(b:OA P W s) (J:s.E.length≤20000){m:BM}{D:AA→Int}(X:Kh c m D) (M:c≤100000):∃o,FZ N m s=some o∧Kh (c+s.D.length+s.E.length+2) o (λk=>D k-Rs s k):=by
 have Q:=b.len;unfold FZ;obtain⟨p,v,x⟩:=Da s.D.length (λn i l=>CU N s (CW N s) n i l) (λl=>CW N s l) (λk l=>Kh (c+k) l (λj=>D j-NN (s.D.take k) j)) (λn k l a=>by
  simp only[CU];rw[ES a];rfl) (λn k l q a=>by
  have d:=b.own _ (Abc a);obtain⟨o,t,u⟩:=N2 g q (by omega) 0 (k:Int) d.2 (by have:=d.1;omega);simp only[CU];rw[ER a,Aax,BI a,Aav,t,Aav,BF (by omega)];exact⟨_,LR u rfl λj=>by rw[UK a];omega,rfl⟩) N 0 m (LR X rfl λj=>by
   have:NN (s.D.take 0) j=0:=by unfold NN;split<;>simp
   rw[this];omega) (by omega) (Aa4 _)
 rw[show CU N s (CW N s) N 0 m=CW N s p from x];rw[Abo] at v;unfold CW;obtain⟨y,w,z⟩:=Da s.E.length (λn i l=>CT N s (CV N s) n i l) (λl=>CV N s l) (λk l=>Kh (c+s.D.length+k) l (λj=>D j-NN s.D j-cN (s.E.take k) j)) (λn k l a=>by
  simp only[CT];rw[ES a];rfl) (λn k l q a=>by
  have d:=(b.que _ (Abc a)).1;obtain⟨o,t,u⟩:=N2 g q (by omega) 0 (s.E[k]).C d.2 (by have:=d.1;omega);simp only[CT];rw[ER a,Aax,BI a,Aav,t,Aav,BF (by omega)];exact⟨_,LR u (by omega) λj=>by unfold cN;rw[LM (f:=λl:AM=>Nj 0 l.C l.K j) a];omega,rfl⟩) N 0 p (LR v rfl λj=>by
   show _=_-(0:Int);omega) (by omega) (Aa4 _)
 rw[show CT N s (CV N s) N 0 p=CV N s y from z];rw[Abo] at w;unfold CV;obtain⟨U,A,B⟩:=N2 g w (by omega) 1 (-1) b.inn.2 (by have:=b.inn.1;omega);obtain⟨V,F,G⟩:=N2 g B (by omega) 2 (-1) b.out.2 (by have:=b.out.1;omega);rw[A,Aav,F,Aav];exact⟨_,rfl,LR G (by omega) λj=>by unfold Rs;omega⟩
def dB {N:Nat}(l:1000000<N){P W c:Nat}(s:W≤1000){x:AJ}(d:VZ P W x){m:BM}{D:AA→Int}(v:Kh c m D) (t:c≤150000):∃g,H9 N m x=some g∧Kh (c+2) g (λk=>D k+Zx x k):=by
 have u:=d.px.1;have i:∀(n:BM) (o:AA→Int),Kh (c+1) n o→(∀k,o k=D k-(if x.C= -1 then Nj 2 (-1) x.K k else Nj 0 x.C x.K k))→∃g,Fq N x n=some g∧Kh (c+2) g (λk=>D k+Zx x k):=λn o p q=>by
  unfold Fq;by_cases e:x.I= -1
  ·obtain⟨j,a,b⟩:=N2 l p (by omega) 1 (-1) d.px.2 (by omega);rw[Abs e,Aax,a,Aav];exact⟨_,rfl,LR b rfl λk=>by rw[q k];unfold Zx;rw[Aay e];omega⟩
  ·obtain⟨j,a,b⟩:=Qv l p (by omega) 0 x.I d.px.2 (by omega);rw[Abe e,Aa0,a,Aav];exact⟨_,rfl,LR b rfl λk=>by rw[q k];unfold Zx;rw[Aaw e];omega⟩
 unfold H9;by_cases e:x.C= -1
 ·obtain⟨j,a,b⟩:=N2 l v (by omega) 2 (-1) d.px.2 (by omega);rw[Abs e,Aax,a,Aav];exact i j _ b λk=>by rw[Aay e]
 ·obtain⟨j,a,b⟩:=N2 l v (by omega) 0 x.C d.px.2 (by omega);rw[Abe e,Aa0,a,Aav];exact i j _ b λk=>by rw[Aaw e]
def TO {N:Nat}(c:1000000<N){b:AF}{l:List Int}(g:Wn b.F.length l) (d:l.length≤1000):JC N b l=some true:=by
 unfold JC;rw[g.1,Abe (by simp),Aa0];exact Pe l.length (λn i=>Hv N l (JS N) n i) (JS N) (λn k a=>by
  simp only[Hv];rw[ES a];rfl) (λn k a=>by
  have:=g.2 _ (Abc a);simp only[Hv];rw[ER a,Aax,BI a,Aav,Abe (show ¬l[k]<0 by omega),Abe (show ¬2305843009213693952<l[k] by omega),Bool.or_false,Aa0,BF (by omega)]) N 0 (by omega) (Aa4 _)
def Xz {N:Nat}(d:1000000<N){b:AF}(g:b.F.length≤1000) (o:b.A.length≤1000){s:AE}(q:OA b.A.length b.F.length s) (p:s.E.length≤20000):IR N b s=some true:=by
 have j:=q.len;unfold IR;rw[j,Abe (by simp),Aa0,TO d q.inn (by rw[q.inn.1];exact g),Aav,Aav,Ab4,Aa0,TO d q.out (by rw[q.out.1];exact g),Aav,Aav,Ab4,Aa0];rw[show EI N b s (Ex N b s) N 0=Ex N b s from
  Pe s.D.length (λn i=>EI N b s (Ex N b s) n i) _ (λn k a=>by
   simp only[EI];rw[ES a];rfl) (λn k a=>by
   have c:=q.own _ (Abc a);simp only[EI];rw[ER a,Aax,BI a,Aav,TO d c (by rw[c.1];exact g),Aav,Ab4,Aa0,BF (by omega)]) N 0 (by omega) (Aa4 _)]
 unfold Ex;exact Pe s.E.length (λn i=>Ew N b s (H8 N) n i) _ (λn k a=>by
   simp only[Ew];rw[ES a];rfl) (λn k a=>by
   obtain⟨c,l,m⟩:=q.que _ (Abc a);simp only[Ew,Gh];rw[ER a,Aax,BI a,Aav,Nh.2 ⟨l,m⟩,Aav,Ab4,Aa0,TO d c (by rw[c.1];exact g),Aav,Aav,Ab4,Aa0,BF (by omega)]) N 0 (by omega) (Aa4 _)
def jK {N:Nat}(c:1000000<N){b:AF}(d:b.F.length≤1000){m:AJ}(j:VZ b.A.length b.F.length m):Jl N b m=some true:=by
 have a:∀i:Int,(i= -1∨(0≤i∧i<b.A.length))→cond (decide (i= -1)) (some true) ((Gh N b i).bind λy=>some y)=some true:=λi g=>by
  by_cases e:i= -1
  ·rw[Abs e];rfl
  ·rw[Abe e,Aa0,Gh,Nh.2 (g.resolve_left e)];rfl
 unfold Jl;rw[TO c j.px (by rw[j.px.1];exact d),Aav,Aax,a _ j.fr,Aav,Aav,Aax,a _ j.to];rfl
def XY {N:Nat}(o:1000000<N){b:AF}(p:b.F.length≤1000) (x:b.A.length≤1000){s t:AE}{ms:List AJ}(B:OA b.A.length b.F.length s) (C:OA b.A.length b.F.length t) (I:∀m∈ms,VZ b.A.length b.F.length m) (J:s.E.length≤20000) (u:t.E.length≤20000) (hl:ms.length≤20000):∃v,Dq N b s t ms=some v∧(v=true↔∀k,Rs t k-Rs s k+Qt ms k=0):=by
 have e1:=B.len;have e2:=C.len;unfold Dq;rw[Xz o p x B J,Aav,Ab4,Aa0,Xz o p x C u,Aav,Aav,Ab4,Aa0];rw[show FL N b ms (GU N s t ms) N 0=GU N s t ms from
  Pe ms.length (λn i=>FL N b ms (GU N s t ms) n i) _ (λn k a=>by
   simp only[FL];rw[ES a];rfl) (λn k a=>by
   simp only[FL];rw[ER a,Aax,BI a,Aav,jK o p (I _ (Abc a)),Aav,Ab4,Aa0,BF (by omega)]) N 0 (by omega) (Aa4 _)]
 unfold GU;obtain⟨m1,W,X⟩:=oY o x p C u Kh.nil (by omega);obtain⟨K,Y,y⟩:=oZ o x p B J X (by omega);rw[W,Aav,Y,Aav];obtain⟨w,q,e⟩:=Da ms.length (λn i l=>FK N ms (FM N) n i l) (λl=>FM N l) (λk l=>Kh (50000+2*k) l (λj=>Rs t j-Rs s j+Qt (ms.take k) j)) (λn k l a=>by
  simp only[FK];rw[ES a];rfl) (λn k l z a=>by
  obtain⟨m',Z,im⟩:=dB o p (I _ (Abc a)) z (by omega);simp only[FK];rw[ER a,Aax,BI a,Aav,Z,Aav,BF (by omega)];exact⟨_,LR im (by omega) λj=>by unfold Qt;rw[LM (f:=λm:AJ=>Zx m j) a];omega,rfl⟩) N 0 K (by
   refine⟨y.nd,λe d=>?_,λk a=>?_,λk=>?_⟩
   ·have:=y.val e d;rw[show Rs t e.1-Rs s e.1+Qt (ms.take 0) e.1=0+Rs t e.1-Rs s e.1 by show _+(0:Int)=_;omega];exact this
   ·have:=y.out k a;show _+(0:Int)=0
    omega
   ·have:=y.bd k;show _≤_+(0:Int)∧_+(0:Int)≤_
    omega) (by omega) (Aa4 _)
 rw[Abo] at q;rw[show FK N ms (FM N) N 0 K=FM N w from e];unfold FM;have c:(List.all w (λe=>(GT N e).isNone))=true↔∀k,Rs t k-Rs s k+Qt ms k=0:=by
  rw[Aa6];have M:∀e∈w,((GT N e).isNone=true↔e.2=⟨0,0⟩):=λe d=>by
   have hv:=q.bd e.1;obtain⟨g1,g2,_,_⟩:=Ul (q.val e d) (by omega);unfold GT;rw[g1,g2];have:Wq (⟨e.2.hi,e.2.lo⟩:AI).v (⟨0,0⟩:AI).v=(decide (e.2.hi=0)&&decide (e.2.lo=0)):=by simp [Wq,Z0]
   rw[this];cases e.2 with
   |mk z Q=>
    by_cases D:z=0
    ·by_cases U:Q=0
     ·simp [D,U]
     ·simp [D,U]
    ·simp [D]
  constructor
  ·intro h k;by_cases a:∃e∈w,e.1=k
   ·obtain⟨e,d,rfl⟩:=a;have g:=q.val e d;rw[(M e d).1 (h e d)] at g;exact g.val.symm
   ·exact q.out k λe d h=>a ⟨e,d,h⟩
  ·intro h e d;have g:=q.val e d;rw[h e.1] at g;have a1:=g.val;have a2:=g.lo0;have a3:=g.lo1;rw[M e d];have G:e.2.lo=0:=by omega
   have H:e.2.hi=0:=by omega
   cases h2:e.2 with
   |mk z Q=>rw[h2] at G H;simp only at G H;rw[G,H]
 cases V:(List.all w (λe=>(GT N e).isNone)) with
 |true=>exact⟨true,rfl,by rw[V] at c;exact c⟩
 |false=>exact⟨false,rfl,by rw[V] at c;exact c⟩
def Je (o:Nat) (x:List Int):Int:=x.getD o 0
def dI (W o:Nat):Z2 W (Je o):=by
 by_cases c:o<W
 ·exact jN c
 ·have z:∀{x:List Int},x.length=W→Je o x=0:=λ{x} d=>by unfold Je;rw[Abg,Abv (by omega)];rfl
  exact⟨λa b=>by rw[z a,z b,z (Jf a b)];rfl,λa b=>by rw[z a,z b,z (Vv a b)];rfl⟩
def Ha (a p:Int) (x:List Int) (b d:Int) (o:Nat):Nj a p x ⟨b,d,(o:Int)⟩=if b=a∧d=p then Je o x else 0:=by
 unfold Nj Je;simp only[Ab0];by_cases c:b=a∧d=p
 ·rw[Aay ⟨c.1,c.2,by omega⟩,Aay c]
 ·rw[Aaw (λg=>c ⟨g.1,g.2.1⟩),Aaw c]
def Xw (s:AE) (p:Int) (o:Nat):Rs s ⟨0,p,(o:Int)⟩=(if 0≤p then Je o (s.D.getD p.toNat []) else 0)+Tq (Je o) p s.E:=by
 unfold Rs;rw[Ha,Ha,Aaw (c:=(0:Int)=1∧p= -1) (λd=>by cases d.1),Aaw (c:=(0:Int)=2∧p= -1) (λd=>by cases d.1)];have a:NN s.D ⟨0,p,(o:Int)⟩=(if 0≤p then Je o (s.D.getD p.toNat []) else 0):=by
  unfold NN Je;simp only[Ab0];by_cases c:0≤p
  ·rw[Aay ⟨trivial,c,by omega⟩,Aay c]
  ·rw[Aaw (λd=>c d.2.1),Aaw c]
 have b:cN s.E ⟨0,p,(o:Int)⟩=Tq (Je o) p s.E:=by
  unfold cN Tq;congr 1;refine Aeh λl _=>?_;rw[Ha];by_cases c:l.C=p
  ·rw[Aay ⟨rfl,c.symm⟩,Aay c]
  ·rw[Aaw (λd=>c d.2.symm),Aaw c]
 rw[a,b];omega
def cM (q:List AM){a:Int}(b:a≠0) (p:Int) (o:Nat):cN q ⟨a,p,(o:Int)⟩=0:=by
 unfold cN
 induction q with
 |nil=>rfl
 |cons l q c=>rw[Abl,Ab2,c,Ha,Aaw (λd=>b d.1)];rfl
def Xv (s:AE) (p:Int) (o:Nat):Rs s ⟨1,p,(o:Int)⟩=if p= -1 then Je o s.N else 0:=by
 unfold Rs;rw[cM _ (by decide),Ha,Ha,Aaw (c:=(1:Int)=2∧p= -1) (λa=>by cases a.1)];have:NN s.D ⟨1,p,(o:Int)⟩=0:=by unfold NN;rw[Aaw (λa=>by cases a.1)]
 rw[this];by_cases c:p= -1
 ·rw[Aay ⟨rfl,c⟩,Aay c];omega
 ·rw[Aaw (λa=>c a.2),Aaw c];rfl
def Xu (s:AE) (p:Int) (o:Nat):Rs s ⟨2,p,(o:Int)⟩=if p= -1 then Je o s.L else 0:=by
 unfold Rs;rw[cM _ (by decide),Ha,Ha,Aaw (c:=(2:Int)=1∧p= -1) (λa=>by cases a.1)];have:NN s.D ⟨2,p,(o:Int)⟩=0:=by unfold NN;rw[Aaw (λa=>by cases a.1)]
 rw[this];by_cases c:p= -1
 ·rw[Aay ⟨rfl,c⟩,Aay c];omega
 ·rw[Aaw (λa=>c a.2),Aaw c];rfl
def mJ (s:AE){a:Int}(h0:a≠0) (b:a≠1) (c:a≠2) (p:Int) (o:Nat):Rs s ⟨a,p,(o:Int)⟩=0:=by
 unfold Rs;rw[cM _ h0,Ha,Ha,Aaw (λd=>b d.1),Aaw (λd=>c d.1)];unfold NN;rw[Aaw (λd=>h0 d.1)];rfl
def SZ (a p:Int) (x:List Int){k:AA}(b:k.owner<0):Nj a p x k=0:=by unfold Nj;rw[Aaw (λc=>by omega)]
def Xt (s:AE){k:AA}(a:k.owner<0):Rs s k=0:=by
 unfold Rs;rw[SZ _ _ _ a,SZ _ _ _ a];have b:NN s.D k=0:=by unfold NN;rw[Aaw (λg=>by omega)]
 have c:∀q:List AM,cN q k=0:=λq=>by
  unfold cN
  induction q with
  |nil=>rfl
  |cons l q d=>rw[Abl,Ab2,d,SZ _ _ _ a];rfl
 rw[b,c];rfl
def TG (m:AJ) (l:List AJ) (k:AA):Qt (m::l) k=Zx m k+Qt l k:=by unfold Qt;rw[Abl,Ab2]
def cW (l:List AJ){k:AA}(a:k.owner<0):Qt l k=0:=by
 induction l with
 |nil=>rfl
 |cons m l b=>
  rw[TG,b];unfold Zx;simp only[SZ _ _ _ a];split<;>split<;>rfl
def cZ (l:List AJ) (p:Int) (o:Nat):Qt l ⟨0,p,(o:Int)⟩=if p= -1 then 0 else Ry (Je o) p l-Rx (Je o) p l:=by
 induction l with
 |nil=>split<;>rfl
 |cons m l i=>
  rw[TG,i,OM,Nf];unfold Zx;rw[Ha,Ha,Ha,Ha];by_cases c:p= -1
  ·rw[Aay c,Aay c];subst c;have d:(if m.I= -1 then -(if (0:Int)=1∧(-1:Int)= -1 then Je o m.K else 0) else if (0:Int)=0∧(-1:Int)=m.I then Je o m.K else 0)=0:=by
    by_cases a:m.I= -1
    ·rw[Aay a,Aaw (λj=>by cases j.1)];rfl
    ·rw[Aaw a,Aaw (λj=>a j.2.symm)]
   have g:(if m.C= -1 then (if (0:Int)=2∧(-1:Int)= -1 then Je o m.K else 0) else if (0:Int)=0∧(-1:Int)=m.C then Je o m.K else 0)=0:=by
    by_cases a:m.C= -1
    ·rw[Aay a,Aaw (λj=>by cases j.1)]
    ·rw[Aaw a,Aaw (λj=>a j.2.symm)]
   rw[d,g];rfl
  ·rw[Aaw c,Aaw c];have d:(if m.I= -1 then -(if (0:Int)=1∧p= -1 then Je o m.K else 0) else if (0:Int)=0∧p=m.I then Je o m.K else 0)=if m.I=p then Je o m.K else 0:=by
    by_cases a:m.I= -1
    ·rw[Aay a,Aaw (λj=>by cases j.1),Aaw (by omega)];rfl
    ·rw[Aaw a];by_cases b:m.I=p
     ·rw[Aay ⟨rfl,b.symm⟩,Aay b]
     ·rw[Aaw (λj=>b j.2.symm),Aaw b]
   have g:(if m.C= -1 then (if (0:Int)=2∧p= -1 then Je o m.K else 0) else if (0:Int)=0∧p=m.C then Je o m.K else 0)=if m.C=p then Je o m.K else 0:=by
    by_cases a:m.C= -1
    ·rw[Aay a,Aaw (λj=>by cases j.1),Aaw (by omega)]
    ·rw[Aaw a];by_cases b:m.C=p
     ·rw[Aay ⟨rfl,b.symm⟩,Aay b]
     ·rw[Aaw (λj=>b j.2.symm),Aaw b]
   rw[d,g];omega
def cY (l:List AJ) (p:Int) (o:Nat):Qt l ⟨1,p,(o:Int)⟩=if p= -1 then -Ry (Je o) (-1) l else 0:=by
 induction l with
 |nil=>split<;>rfl
 |cons m l a=>
  rw[TG,a,OM];unfold Zx;rw[Ha,Ha,Ha,Ha];have b:(if m.C= -1 then (if (1:Int)=2∧p= -1 then Je o m.K else 0) else if (1:Int)=0∧p=m.C then Je o m.K else 0)=0:=by
   rw[Aaw (c:=(1:Int)=2∧p= -1) (λd=>by cases d.1),Aaw (c:=(1:Int)=0∧p=m.C) (λd=>by cases d.1)];split<;>rfl
  rw[b,Aaw (c:=(1:Int)=0∧p=m.I) (λd=>by cases d.1)];by_cases c:p= -1
  ·rw[Aay c,Aay c,Aay (c:=(1:Int)=1∧p= -1) ⟨rfl,c⟩];split<;>omega
  ·rw[Aaw c,Aaw c,Aaw (c:=(1:Int)=1∧p= -1) (λd=>c d.2)];split<;>rfl
def cX (l:List AJ) (p:Int) (o:Nat):Qt l ⟨2,p,(o:Int)⟩=if p= -1 then -Rx (Je o) (-1) l else 0:=by
 induction l with
 |nil=>split<;>rfl
 |cons m l a=>
  rw[TG,a,Nf];unfold Zx;rw[Ha,Ha,Ha,Ha];have b:(if m.I= -1 then -(if (2:Int)=1∧p= -1 then Je o m.K else 0) else if (2:Int)=0∧p=m.I then Je o m.K else 0)=0:=by
   rw[Aaw (c:=(2:Int)=1∧p= -1) (λd=>by cases d.1),Aaw (c:=(2:Int)=0∧p=m.I) (λd=>by cases d.1)];split<;>rfl
  rw[b,Aaw (c:=(2:Int)=0∧p=m.C) (λd=>by cases d.1)];by_cases c:p= -1
  ·rw[Aay c,Aay c,Aay (c:=(2:Int)=2∧p= -1) ⟨rfl,c⟩];split<;>omega
  ·rw[Aaw c,Aaw c,Aaw (c:=(2:Int)=2∧p= -1) (λd=>c d.2)];split<;>rfl
def pV (l:List AJ){a:Int}(h0:a≠0) (b:a≠1) (d:a≠2) (p:Int) (o:Nat):Qt l ⟨a,p,(o:Int)⟩=0:=by
 induction l with
 |nil=>rfl
 |cons m l g=>
  rw[TG,g];unfold Zx;rw[Ha,Ha,Ha,Ha];rw[Aaw (c:=a=1∧p= -1) (λi=>b i.1),Aaw (c:=a=0∧p=m.I) (λi=>h0 i.1),Aaw (c:=a=2∧p= -1) (λi=>d i.1),Aaw (c:=a=0∧p=m.C) (λi=>h0 i.1)];split<;>split<;>rfl
def cO {c:List Int→Int}{p:Int}{q:List AM}(d:∀l∈q,l.C≠p):Tq c p q=0:=by
 induction q with
 |nil=>rfl
 |cons l q a=>rw[Rw,Aaw (d l (.head _)),a λx b=>d x (.tail _ b)];rfl
def pW {c:List Int→Int}{p:Int}{q:List AJ}(d:∀l∈q,l.C≠p):Rx c p q=0:=by
 induction q with
 |nil=>rfl
 |cons l q a=>rw[Nf,Aaw (d l (.head _)),a λx b=>d x (.tail _ b)];rfl
def pY {c:List Int→Int}{p:Int}{q:List AJ}(d:∀l∈q,l.I≠p):Ry c p q=0:=by
 induction q with
 |nil=>rfl
 |cons l q a=>rw[OM,Aaw (d l (.head _)),a λx b=>d x (.tail _ b)];rfl
def Zj {P W:Nat}{s t:AE}{ms:List AJ}(q:OA P W s) (v:OA P W t) (w:∀m∈ms,VZ P W m):(∀k,Rs t k-Rs s k+Qt ms k=0)↔∀o:Nat,Oi P (Je o) s ms t:=by
 constructor
 ·intro B o;refine⟨λp y=>?_,?_,?_⟩
  ·have:=B ⟨0,(p:Int),(o:Int)⟩;rw[Xw,Xw,cZ,Aay (by omega),Aay (by omega),Aaw (by omega),Ab0] at this;unfold Ug;omega
  ·have:=B ⟨1, -1,(o:Int)⟩;rw[Xv,Xv,cY,Aay rfl,Aay rfl,Aay rfl] at this;omega
  ·have:=B ⟨2, -1,(o:Int)⟩;rw[Xu,Xu,cX,Aay rfl,Aay rfl,Aay rfl] at this;omega
 ·intro B k;by_cases b:k.owner<0
  ·rw[Xt _ b,Xt _ b,cW _ b];rfl
  ·obtain⟨a,p,x⟩:=k;obtain⟨o,rfl⟩:∃o:Nat,x=(o:Int):=⟨x.toNat,by simp only at b;omega⟩
   have g:=B o;by_cases h0:a=0
   ·subst h0;rw[Xw,Xw,cZ];by_cases y:0≤p∧p<P
    ·obtain⟨j,rfl⟩:∃j:Nat,p=(j:Int):=⟨p.toNat,by omega⟩
     have:=g.at_ j (by omega);unfold Ug at this;rw[Aay (by omega),Aay (by omega),Aaw (by omega),Ab0];omega
    ·have z:∀u:AE,OA P W u→(if 0≤p then Je o (u.D.getD p.toNat []) else 0)=0:=λu A=>by
      split
      ·have:=A.len;rw[Abg,Abv (by omega)];unfold Je;simp
      ·rfl
     rw[z s q,z t v,cO λl i=>by have:=v.que l i;omega,cO λl i=>by have:=q.que l i;omega];split
     ·rfl
     ·rw[pY λm n=>by have:=(w m n).fr;omega,pW λm n=>by have:=(w m n).to;omega];rfl
   ·by_cases c:a=1
    ·subst c;rw[Xv,Xv,cY];have:=g.inn;split<;>omega
    ·by_cases d:a=2
     ·subst d;rw[Xu,Xu,cX];have:=g.out;split<;>omega
     ·rw[mJ _ h0 c d,mJ _ h0 c d,pV _ h0 c d];rfl
def V4 {W:Nat}{x:List Int}(a:x.length=W):sm (λo=>Je o x) W=x.sum:=by
 have:=bM x W (by omega);rw[←a,Abo] at this;rw[←a];exact this
def W7 (c:Prop) [Decidable c] (f:Nat→Int) (W:Nat):sm (λo=>if c then f o else 0) W=if c then sm f W else 0:=by
 by_cases a:c
 ·rw[Aay a];exact Ll λi _=>Aay a
 ·rw[Aaw a];exact(Ll λi _=>Aaw a).trans (Pc W)
def bN {W:Nat}(p:Int):∀{q:List AM},(∀l∈q,l.K.length=W)→sm (λo=>Tq (Je o) p q) W=Tq List.sum p q
 |[],_=>Pc W
 |l::q,b=>by
  have e:sm (λo=>Tq (Je o) p (l::q)) W=sm (λo=>(if l.C=p then Je o l.K else 0)+Tq (Je o) p q) W:=Ll λo _=>Rw _ _ _ _;rw[e,QB,W7,V4 (b l (.head _)),bN p λx a=>b x (.tail _ a),Rw]
def bO {W:Nat}(p:Int):∀{q:List AJ},(∀l∈q,l.K.length=W)→sm (λo=>Rx (Je o) p q) W=Rx List.sum p q
 |[],_=>Pc W
 |l::q,b=>by
  have e:sm (λo=>Rx (Je o) p (l::q)) W=sm (λo=>(if l.C=p then Je o l.K else 0)+Rx (Je o) p q) W:=Ll λo _=>Nf _ _ _ _;rw[e,QB,W7,V4 (b l (.head _)),bO p λx a=>b x (.tail _ a),Nf]
def bP {W:Nat}(p:Int):∀{q:List AJ},(∀l∈q,l.K.length=W)→sm (λo=>Ry (Je o) p q) W=Ry List.sum p q
 |[],_=>Pc W
 |l::q,b=>by
  have e:sm (λo=>Ry (Je o) p (l::q)) W=sm (λo=>(if l.I=p then Je o l.K else 0)+Ry (Je o) p q) W:=Ll λo _=>OM _ _ _ _;rw[e,QB,W7,V4 (b l (.head _)),bP p λx a=>b x (.tail _ a),OM]
def bQ {P W p:Nat}(b:p<P){s:AE}(c:OA P W s):sm (λo=>Ug (Je o) p s) W=Ug List.sum p s:=by
 have a:=c.len;unfold Ug;rw[QB,V4,bN _ λl a=>(c.que l a).1.1];rw[Abg,Abf (by omega)];exact(c.own _ (Abc _)).1
def dR {P W:Nat}{s t:AE}{ms:List AJ}(c:OA P W s) (d:OA P W t) (i:∀m∈ms,VZ P W m) (k:∀o:Nat,Oi P (Je o) s ms t) (p:Nat) (a:p<P):Ug List.sum p t=Ug List.sum p s+Rx List.sum p ms-Ry List.sum p ms:=by
 have b:∀l∈ms,l.K.length=W:=λl j=>(i l j).px.1;rw[←bQ a d,←bQ a c,←bO (p:Int) b,←bP (p:Int) b];have e:=Ll (f:=λo=>Ug (Je o) p t+Ry (Je o) p ms) (g:=λo=>Ug (Je o) p s+Rx (Je o) p ms) (n:=W) λo _=>by
  have:=(k o).at_ p a;show Ug (Je o) p t+Ry (Je o) p ms=Ug (Je o) p s+Rx (Je o) p ms
  omega
 rw[QB,QB] at e;omega
def MS {N:Nat}(i:1000000<N){b:AF}(j:b.F.length≤1000) (l:b.A.length≤1000){s t:AE}{ms:List AJ}(c:OA b.A.length b.F.length s) (d:OA b.A.length b.F.length t) (g:∀m∈ms,VZ b.A.length b.F.length m) (n:s.E.length≤20000) (a:t.E.length≤20000) (p:ms.length≤20000):∃v,Dq N b s t ms=some v∧(v=true↔∀o:Nat,Oi b.A.length (Je o) s ms t):=by
 obtain⟨v,e,k⟩:=XY i j l c d g n a p;exact⟨v,e,k.trans (Zj c d g)⟩
def Zy (s:AE):AE:=⟨s.B,s.D.map λx=>[x.sum],s.M,s.E.map λl=>(⟨l.Z,l.C,[l.K.sum]⟩:AM),s.O,[s.N.sum],[s.L.sum]⟩
def mS (m:AJ):AJ:={ m with K:=[m.K.sum]}
def pI (o:Nat) (p:Int) (q:List AM):Tq (Je o) p (q.map λl=>(⟨l.Z,l.C,[l.K.sum]⟩:AM))=if o=0 then Tq List.sum p q else 0:=by
 induction q with
 |nil=>split<;>rfl
 |cons l q a=>
  rw[Abl,Rw,Rw,a];cases o with
  |zero=>rfl
  |succ o=>show(if l.C=p then (0:Int) else 0)+0=0;split<;>rfl
def dA (o:Nat) (p:Int) (q:List AJ):Rx (Je o) p (q.map mS)=if o=0 then Rx List.sum p q else 0:=by
 induction q with
 |nil=>split<;>rfl
 |cons l q a=>
  rw[Abl,Nf,Nf,a];cases o with
  |zero=>rfl
  |succ o=>show(if l.C=p then (0:Int) else 0)+0=0;split<;>rfl
def dC (o:Nat) (p:Int) (q:List AJ):Ry (Je o) p (q.map mS)=if o=0 then Ry List.sum p q else 0:=by
 induction q with
 |nil=>split<;>rfl
 |cons l q a=>
  rw[Abl,OM,OM,a];cases o with
  |zero=>rfl
  |succ o=>show(if l.I=p then (0:Int) else 0)+0=0;split<;>rfl
def fX (o:Nat){p:Nat}{s:AE}(a:p<s.D.length):Ug (Je o) p (Zy s)=if o=0 then Ug List.sum p s else 0:=by
 unfold Ug Zy;simp only[pI];have:Je o ((s.D.map λx=>[x.sum]).getD p [])=if o=0 then (s.D.getD p []).sum else 0:=by
  rw[Abg,Abg,Acx,Abf a];cases o with
  |zero=>rfl
  |succ o=>rfl
 rw[this];split<;>rfl
def U5 (o:Nat) (x:Int):Je o [x]=if o=0 then x else 0:=by
 cases o with
 |zero=>rfl
 |succ o=>rfl
def jP {P:Nat}{s t:AE}{ms:List AJ}(b:s.D.length=P) (c:t.D.length=P) (d:Oi P List.sum s ms t) (o:Nat):Oi P (Je o) (Zy s) (ms.map mS) (Zy t):=by
 refine⟨λp a=>?_,?_,?_⟩
 ·rw[fX o (by omega),fX o (by omega),dA,dC];have:=d.at_ p a;split<;>omega
 ·show Je o [t.N.sum]=Je o [s.N.sum]+_
  rw[U5,U5,dC];have:=d.inn;split<;>omega
 ·show Je o [t.L.sum]=Je o [s.L.sum]+_
  rw[U5,U5,dA];have:=d.out;split<;>omega
def PX.fit {W:Nat}{x:List Int}(b:PX W x):Wn W x:=⟨b.len,λy a=>by have:=b.mem a;omega⟩
def Vk.fit {b:AF}{s:AE}(j:Vk b s):OA b.A.length b.F.length s:=by
 have a:=j.rg.x;have g:=j.rg.outs;have i:=a.inns;have d:=a.own.sum0;have c:=(Ek a.que 0).2;rw[Acb,show GI ([]:List AM)=0 from rfl] at c;exact⟨a.own.len,λx j=>(a.own.all x j).fit,λl j=>⟨(a.que l j).1.fit,(a.que l j).2⟩,⟨a.inn,λx j=>by have:=Gi a.inn0 x j;have:=a.inn0 x j;omega⟩,⟨a.out,λx h'=>by have:=Gi j.rg.out0 x h';have:=j.rg.out0 x h';omega⟩⟩
def uL.fit {b:AF}{m:AJ}(a:uL b m):VZ b.A.length b.F.length m:=⟨a.px.fit,a.fr,a.to⟩
def WR {N:Nat}{b:AF}{s:AE}{ins:List Ck}(k:Fe N b s ins=some true):F5 N b=some true:=by
 unfold Fe at k;have l1:∀(n:Nat) (i:Int),Cp N ins (Cb N b s) n i=some true→Cb N b s=some true:=by
  intro n
  induction n with
  |zero=>intro i k;cases k
  |succ n a=>
   intro i k;simp only[Cp] at k;cases c:decide (i<(ins.length:Int))<;>rw[c] at k
   ·exact k
   ·rw[Aax] at k;obtain⟨x,_,k⟩:=bd k;cases d:((((decide (20<(x.Aa.length:Int))||decide (20<(x.Ai.length:Int)))||decide (20<(x.Ak.length:Int)))||decide (20<(x.Ab.length:Int)))||decide (20<(x.Ae.length:Int)))<;>rw[d] at k
    ·exact a _ k
    ·cases k
 cases c:((((decide (6<(b.A.length:Int))||decide (6<(b.G.length:Int)))||decide (20<(s.E.length:Int)))||decide (12<(ins.length:Int)))||decide (16777196<s.B))<;>rw[c] at k
 ·have k:=l1 _ _ k;unfold Cb at k;obtain⟨y,g,k⟩:=bd k;obtain⟨z,j,k⟩:=bd k;cases y
  ·cases j;cases k
  ·exact g
 ·cases k
def cH {N:Nat}{b:AF}(Z:F5 N b=some true):1≤b.A.length:=by
 unfold F5 at Z;obtain⟨Y,a,Z⟩:=bd Z;obtain⟨B,l,Z⟩:=bd Z;obtain⟨C,m,Z⟩:=bd Z;obtain⟨D,n,Z⟩:=bd Z;obtain⟨F,o,Z⟩:=bd Z;obtain⟨G,p,Z⟩:=bd Z;obtain⟨H,q,Z⟩:=bd Z;obtain⟨I,s,Z⟩:=bd Z;obtain⟨J,t,Z⟩:=bd Z;have i:∀{c:Bool} {x:Option Bool} {d:Bool},cond c (x.bind λy=>some y) (some false)=some d→d=true→c=true:=by
  intro c x d K hd;subst hd;cases c
  ·cases K
  ·rfl
 have u:=Aa1 Z;have M:=i l (i m (i n (i o (i p (i q (i s (i t u)))))));subst M;unfold Hg at a;obtain⟨Q,U,a⟩:=bd a;obtain⟨V,W,a⟩:=bd a;obtain⟨X,v,a⟩:=bd a;obtain⟨j,w,a⟩:=bd a;have k:∀{c d:Bool} {y:Option Bool},cond c (some true) y=some d→d=false→c=false∧y=some false:=by
  intro c d y e hd;subst hd;cases c
  ·exact⟨rfl,e⟩
  ·cases e
 have z:j=false:=by
  cases j
  ·rfl
  ·cases a
 have f:=(k w z).1;simp only[Abu] at f;have g:=(k v f.1.1.1.1.1.1).2;rw[ND,Aav] at g;have g:=Aa1 g;rw[Ac8] at g;have:=KC g;omega
def UO {N:Nat}(m:1000000<N){b c:AF}(z:b.A.length≤6) (B:b.F.length≤16){s:AE}(M:Vk b s) (G:s.E.length≤20000):Gc N c s=some (Zy s):=by
 have d:=M.rg.x;have H:=d.own.len;have I:=M.rg.outs;have J:=d.inns;have u:=d.own.sum0;have o:=(Ek d.que 0).2;rw[Acb,show GI ([]:List AM)=0 from rfl] at o;unfold Gc;obtain⟨l1,q,v⟩:=Da s.D.length (λn i l=>C4 N s (C6 N s) n l i) (C6 N s) (λk l=>l=(s.D.take k).map λx=>[x.sum]) (λn k l a=>by
  simp only[C4];rw[ES a];rfl) (λn k l j a=>by
  have g:=d.own.all _ (Abc a);have p:l.length≤6:=by rw[j,Ac1,Aca];omega
  simp only[C4];rw[ER a,Aax,BI a,Aav,g.total m (by omega),Aav,IM (by omega),BF (by omega)];exact⟨_,by rw[NO a,j],rfl⟩) N 0 [] (by rw[Acb];rfl) (by omega) (Aa4 _)
 rw[show C4 N s (C6 N s) N [] 0=C6 N s l1 from v];rw[Abo] at q;subst q;unfold C6;obtain⟨w,t,y⟩:=Da s.E.length (λn i l=>C3 N s (C5 N s (s.D.map λx=>[x.sum])) n l i) (C5 N s (s.D.map λx=>[x.sum])) (λk l=>l=(s.E.take k).map λl=>(⟨l.Z,l.C,[l.K.sum]⟩:AM)) (λn k l a=>by
  simp only[C3];rw[ES a];rfl) (λn k l j a=>by
  have g:=(d.que _ (Abc a)).1;have p:l.length≤20000:=by rw[j,Ac1,Aca];omega
  simp only[C3];rw[ER a,Aax,BI a];simp only[Aav];rw[g.total m (by omega),Aav,IM (by simp;omega),BF (by omega)];exact⟨_,by rw[NO a,j],rfl⟩) N 0 [] (by rw[Acb];rfl) (by omega) (Aa4 _)
 rw[show C3 N s (C5 N s (s.D.map λx=>[x.sum])) N [] 0=C5 N s (s.D.map λx=>[x.sum]) w from y];rw[Abo] at t;subst t;unfold C5;rw[Qh m (by have:=d.inn;omega) d.inn0 (by omega),Aav,Qh m (by have:=d.out;omega) M.rg.out0 (by omega),Aav];rfl
def eC {n:Int}(b:0≤n∧n≤2305843009213693952):Wn 1 [n]:=⟨rfl,λx a=>by rw[Ace.1 a];exact b⟩
def YH {b:AF}{s:AE}(u:Vk b s):OA b.A.length 1 (Zy s):=by
 have a:=u.rg.x;have p:=u.rg.outs;have t:=a.inns;have j:=a.own.sum0;have c:=(Ek a.que 0).2;rw[Acb,show GI ([]:List AM)=0 from rfl] at c;have k:=JV a.inn0;have m:=JV u.rg.out0;refine⟨by show(List.map _ _).length=_;rw[Ac1];exact a.own.len,λx d=>?_,λl d=>?_,eC ⟨k,by omega⟩,eC ⟨m,by omega⟩⟩
 ·obtain⟨y,g,rfl⟩:=Ab1.1 d;have:=a.own.all y g;have i:=this.sum0;have n:=this.mv;exact eC ⟨i,by omega⟩
 ·obtain⟨y,g,rfl⟩:=Ab1.1 d;obtain⟨q,o⟩:=a.que y g;have i:=q.sum0;have n:=q.mv;exact⟨eC ⟨i,by omega⟩,o⟩
def jJ {b:AF}{m:AJ}(d:uL b m):VZ b.A.length 1 (mS m):=by
 have a:=d.px.sum0;have c:=d.px.mv;exact⟨eC ⟨a,by omega⟩,d.fr,d.to⟩
def kT {N W:Nat}(k:1000000<N) (c:1≤W) (m:W≤1000){x:List Int}(b:PX W x):Ey N x [1]=some (En x (v1 W 1)):=by
 have d:=b.len;obtain⟨n,rfl⟩:∃n,N=n+2:=⟨N-2,by omega⟩
 obtain⟨g,a⟩:=Df.ix (l:=x) (i:=0) (Aby _) (by omega);have o:=b.mem (Ab6 (EY a).2);have j:max (x.length:Int) (([1]:List Int).length:Int)=((x.length:Nat):Int):=by simp;omega
 unfold Ey;rw[j,KW (by omega) _ (by decide),Sa];simp only[FB,HQ];rw[show decide ((0:Int)<(([1]:List Int).length:Int))=true from rfl,Aax,show Go.Proofs.YtedgiljmffngoaaGreat.ix ([1]:List Int) 0=some 1 from rfl,Aav,a];simp only[Aav];rw[Ta (n+2) (by omega) (by omega) (by omega) (by omega),Aav,show BC (0+1)=1 from rfl,show decide ((1:Int)<(([1]:List Int).length:Int))=false from rfl,Aa0,Un d c 1 g a]
def yS {W:Nat}(a:1≤W):PX W (v1 W 1):=Xn a (by decide) (by decide)
def jI {b:AF}(c:1≤b.F.length) (I:1≤b.A.length){s t:AE}(B:Vk b s) (u:Vk b t){ms:List AJ}(C:∀m∈ms,uL b m) (G:Oi b.A.length List.sum s ms t){x:List Int}(g:t.D[0]? =some x):OA b.A.length b.F.length ({ t with D:=upd t.D 0 (En x (v1 b.F.length 1))}:AE)∧¬∀o:Nat,Oi b.A.length (Je o) s ms ({ t with D:=upd t.D 0 (En x (v1 b.F.length 1))}:AE):=by
 have d:=u.rg.x;have a:=d.own.all x (Ab6 g);have H:=d.own.len;have i:=yS c;have n:=Jf a.len i.len;have f:=u.fit;have v:OA b.A.length b.F.length ({ t with D:=upd t.D 0 (En x (v1 b.F.length 1))}:AE):=by
  refine⟨by show(upd _ _ _).length=_;rw[MG];exact H,λy p=>?_,f.que,f.inn,f.out⟩;rcases Ad3 p with p|rfl
  ·exact f.own y p
  ·refine⟨n,λz w=>?_⟩;have j:=Nt a.nn i.nn;have q:=Gi j z w;have J:=j z w;rw[IY (a.len.trans i.len.symm),Oo c] at q;have:=a.mv;omega
 refine⟨v,λU=>?_⟩;have K:=dR B.fit v (λm g=>(C m g).fit) U 0 (by omega);have M:=G.at_ 0 (by omega);have Q:Ug List.sum 0 ({ t with D:=upd t.D 0 (En x (v1 b.F.length 1))}:AE)=Ug List.sum 0 t+1:=by
  unfold Ug;have j:(upd t.D 0 (En x (v1 b.F.length 1))).getD 0 []=En x (v1 b.F.length 1):=by
   have:=GL (l:=t.D) (k:=0) (by omega) (En x (v1 b.F.length 1));rw[Abg];rw[show ((0:Nat):Int)=0 from rfl] at this;rw[this];rfl
  have q:t.D.getD 0 []=x:=by rw[Abg,g];rfl
  show((upd t.D 0 (En x (v1 b.F.length 1))).getD 0 []).sum+Tq List.sum _ t.E=_
  rw[j,q,IY (a.len.trans i.len.symm),Oo c];omega
 omega
def bK {W:Nat}{x:List Int}(a:PX W x) (c:0<x.sum):∃o,Je o x≠0:=by
 refine Ade λb=>?_;have e:=V4 a.len;rw[Ll (g:=λ_=>0) λo _=>Ade λc=>b ⟨o,c⟩,Pc] at e;omega
def jA {P:Nat}{s t:AE}{a c:List AJ}{m:AJ}{W:Nat}(n:PX W m.K) (p:0<m.K.sum) (b:m.C= -1∨(0≤m.C∧m.C<P)) (d:m.I≠m.C) (u:∀o:Nat,Oi P (Je o) s (a++m::c) t):¬∀o:Nat,Oi P (Je o) s (a++c) t:=λv=>by
 obtain⟨o,w⟩:=bK n p;have j:=u o;have k:=v o;rcases b with e|⟨e1,e2⟩
 ·have g:=j.out;have i:=k.out;rw[La,Nf,Aay e] at g;rw[La] at i;omega
 ·obtain⟨q,l⟩:∃q:Nat,m.C=(q:Int):=⟨m.C.toNat,by omega⟩
  have g:=j.at_ q (by omega);have i:=k.at_ q (by omega);rw[La,MQ,Nf,OM,Aay l,Aaw (λx=>d (x.trans l.symm))] at g;rw[La,MQ] at i;omega
def Vi (l:List Ck):Int:=(l.map λi=>(i.Ae.length:Int)).sum
def W2:∀{l:List Ck},(∀i∈l,i.Ae.length≤20)→0≤Vi l∧Vi l≤20*l.length∧(Vi l=0→∀i∈l,i.Ae=[])
 |[],_=>⟨Aby _,by simp [Vi],λ_ i b=>by cases b⟩
 |a::l,k=>by
  obtain⟨d,g,c⟩:=W2 (l:=l) λi b=>k i (.tail _ b);have j:=k a (.head _);have e:Vi (a::l)=(a.Ae.length:Int)+Vi l:=by unfold Vi;rw[Abl,Ab2]
  rw[e,Acj];refine⟨by omega,by omega,λh0 i b=>?_⟩;rcases Aa5.1 b with rfl|b
  ·exact List.length_eq_zero_iff.1 (by omega)
  ·exact c (by omega) i b
def SI {N:Nat}(V:18446744073709551616<N) (J:Ed N=some true) (b:AF) (s:AE) (ins:List Ck) (a:Int):E5 N b s ins a=some true:=by
 unfold E5;rw[J,Aav];obtain⟨v,ev,kv⟩:=dJ V b s ins;rw[ev,Aav];cases v with
 |false=>rfl
 |true=>
  obtain⟨G,B,hq,hl,hH,M⟩:=kv rfl;have ac:=cH (WR ev);have d:1000000<N:=by omega
  have hW:=G.r.head.own;have W:=G.r.head.own1;have aj:=G.p6;have hh:=B.rg.hour;obtain⟨u,ms,w,t,c,H,h1,q1⟩:=eQ V G ins B (by omega) (by omega) M;obtain⟨n1,n2,n3⟩:=c.len;have g:=c.mvk G.r.head;have kS:=c.keep V G;have sw:=W2 (l:=ins) λi p=>(M i p).swaps;have ad:=MS d (by omega) (by omega) B.fit H.fit (λm p=>(g m p).fit) (by omega) (by omega) (by omega);have X:Vi ins=0→Dq N b s t ms=some true:=λh0=>by
   obtain⟨v,e,k⟩:=ad;rw[k.2 λo=>c.keepS V G (dI _ o) (sw.2.2 h0)] at e;exact e
  rw[Ab4,Aa0,Zl d c hl,Aav,jW d c hl,Aav];obtain⟨sn,i1,e1⟩:=Da ins.length (λn i z=>CM N ins (CO N b s a true (u,ms,w) t) n z i) (CO N b s a true (u,ms,w) t) (λk z=>z=Vi (ins.take k)) (λn k z q=>by
   simp only[CM];rw[ES q];rfl) (λn k z hz q=>by
   have b1:=W2 (l:=ins.take k) λi p=>(M i (Adh p)).swaps;have b2:=(M _ (Abc q)).swaps;have b3:(ins.take k).length≤12:=by rw[Aca];omega
   simp only[CM];rw[ER q,Aax,BI q,Aav,BF (by omega),DJ (n:=z+((ins[k]).Ae.length:Int)) (by omega) (by omega)];exact⟨_,by unfold Vi;rw[LM (f:=λi:Ck=>(i.Ae.length:Int)) q,hz];rfl,rfl⟩) N 0 0 (by rw[Acb];rfl) (by omega) (Aa4 _)
  rw[show CM N ins (CO N b s a true (u,ms,w) t) N 0 0=CO N b s a true (u,ms,w) t sn from e1];rw[Abo] at i1;subst i1;unfold CO;have hA:(cond (decide (Vi ins=0)) ((Dq N b s t ms).bind λY=>some (!Y)) (some false))=some false:=by
   by_cases h0:Vi ins=0
   ·rw[Abs h0,Aax,X h0];rfl
   ·rw[Abe h0];rfl
  simp only;rw[hA,Aav,Aa0];obtain⟨l2,i2,e2⟩:=Da ms.length (λn i l=>CL N (u,ms,w) (CN N b s a true (u,ms,w) t (Vi ins)) n l i) (CN N b s a true (u,ms,w) t (Vi ins)) (λk l=>l=(ms.take k).map mS) (λn k l q=>by
   simp only[CL];rw[ES q];rfl) (λn k l M q=>by
   have Q:=(g _ (Abc q)).px;have ak:l.length≤20000:=by rw[M,Ac1,Aca];omega
   simp only[CL];rw[ER q,Aax,BI q];simp only[Aav];rw[Q.total d (by omega),Aav,IM (by omega),BF (by omega)];exact⟨_,by rw[NO q,M];rfl,rfl⟩) N 0 [] (by rw[Acb];rfl) (by omega) (Aa4 _)
  rw[show CL N (u,ms,w) (CN N b s a true (u,ms,w) t (Vi ins)) N [] 0=CN N b s a true (u,ms,w) t (Vi ins) l2 from e2];rw[Abo] at i2;subst i2;unfold CN;have ae:=UO (c:=b) d (by omega) hW B (by omega);have af:=UO (c:=b) d (by omega) hW H (by omega);have hM:Dq N ({ b with F:=([(ByteArray.mk #[97,108,108])]:List ByteArray)}:AF) (Zy s) (Zy t) (ms.map mS)=some true:=by
   obtain⟨v,e,k⟩:=MS d (b:=({ b with F:=([(ByteArray.mk #[97,108,108])]:List ByteArray)}:AF)) (by show(1:Nat)≤1000;decide) (by show b.A.length≤_;omega) (s:=Zy s) (t:=Zy t) (ms:=ms.map mS) (show OA b.A.length 1 (Zy s) from YH B) (show OA b.A.length 1 (Zy t) from YH H) (show ∀m∈ms.map mS,VZ b.A.length 1 m from λm p=>by obtain⟨y,hy,rfl⟩:=Ab1.1 p;exact jJ (g y hy)) (by show(List.map _ _).length≤_;rw[Ac1];omega) (by show(List.map _ _).length≤_;rw[Ac1];omega) (by rw[Ac1];omega);rw[k.2 λo=>jP B.rg.x.own.len H.rg.x.own.len kS o] at e;exact e
  have ag:=H.rg.x.own.len;obtain⟨x0,Z⟩:=Df.ix (l:=t.D) (i:=0) (Aby _) (by omega);have aa:=(EY Z).2;have Q:=H.rg.x.own.all x0 (Ab6 aa);obtain⟨g1,g2⟩:=jI W ac B H g kS (x:=x0) aa;have ah:Dq N b s ({ t with D:=upd t.D 0 (En x0 (v1 b.F.length 1))}:AE) ms=some false:=by
   obtain⟨v,e,k⟩:=MS d (by omega) (by omega) B.fit g1 (λm p=>(g m p).fit) (by omega) (by show t.E.length≤_;omega) (by omega);cases v with
   |false=>exact e
   |true=>exact absurd (k.1 rfl) g2
  rw[ae,Aav,af,Aav,hM,Aav,Ab4,Aa0,ag,Abe (by simp),Aa0,IM (by simp;omega),Abj,Z,Aav,kT d W (by omega) Q];simp only[Aav];rw[ah,Aav,Aa0];cases hB:(decide (a<0)||decide ((ms.length:Int)≤a)) with
  |true=>rfl
  |false=>
   simp only[Abu,Abp] at hB;obtain⟨j,rfl⟩:∃j:Nat,a=j:=⟨a.toNat,by omega⟩
   have hj:j<ms.length:=by omega
   have p:=g _ (Abc hj);have eU:mM ms (j:Int)=some (ms.take j):=by unfold mM;rw[Aay ⟨by omega,by omega⟩];rfl
   have eE:mN ms (BC ((j:Int)+1))=some (ms.drop (j+1)):=by
    rw[BF (by omega)];unfold mN;rw[Aay ⟨by omega,by omega⟩];rfl
   have ai:ms=ms.take j++ms[j]::ms.drop (j+1):=by rw[←Ad6 hj,Aed]
   have al:(ms.take j).length≤ms.length:=by rw[Aca];omega
   have am:(ms.drop (j+1)).length≤ms.length:=by rw[Aco];omega
   have J:∀m∈ms.take j++ms.drop (j+1),uL b m:=λm h=>(Ab3.1 h).elim (λh=>g m (Adh h)) λh=>g m (List.mem_of_mem_drop h);have ab:=p.pos;rw[Aa0,BI hj,Aav,Aav,eU,Aav,eE,Aav,IM (by simp;omega),Abj,IM (by omega),Aax,p.px.total d (by omega),Aav,Abe (show ¬(ms[j]).K.sum=0 by omega),Ac9];by_cases U:(ms[j]).I=(ms[j]).C
   ·rw[Abs U];rfl
   ·by_cases h0:Vi ins=0
    ·obtain⟨v,e,k⟩:=MS d (by omega) (by omega) B.fit H.fit (ms:=ms.take j++ms.drop (j+1)) (λm h=>(J m h).fit) (by omega) (by omega) (by rw[Abi];omega);have hv:v=false:=by
      cases v with
      |false=>rfl
      |true=>exact absurd (k.1 rfl) (jA p.px ab p.to U λo=>by rw[←ai];exact c.keepS V G (dI _ o) (sw.2.2 h0))
     subst hv;rw[Abe U,Abe (by omega),Bool.or_false,Aa0,e];rfl
    ·rw[Abs (show 0<Vi ins by omega),Bool.or_true];rfl
def QD (b:AF) (s:AE) (ins:List Ck) (a:Int):E5 BN b s ins a=some true:=SI xY Xx b s ins a
open Go.ChangeShapes Go.WideShapes Go.ChangeAt Go.RowKit Go.Deep
def E8 {α}(P:Program) (t:TypeId) (r:A4 α):Prop:=
 P.cellsOf t=r.sz∧∀{H:Type} {enc:TypeId×Value→H} {w:World} {c:Nat} {a:Nat→Bool} {d:Bool} {g:Nat} {cs:List Value} {x:DataW H×List MemPlace},
  DataW.trod enc P w c a d g t cs=some x→∃y,r.rd (λb=>b<w.heap.size) w.heap cs y
def jL {n:Int}(a:(Lit.int .i64 n).wf=true):AB n:=by
 simpa [Lit.wf,IntKind.min,IntKind.max,IntKind.signed,IntKind.bits,AB] using a
def ZZ {P:Program}{t:TypeId}(i:P.cellsOf t=1) (j:P.underlying t=some (.int .i64)):E8 P t AC:=by
 refine⟨i,λ{H enc w d b g a cs x} o=>?_⟩;cases a with
 |zero=>simp [DataW.trod] at o
 |succ n=>
  unfold DataW.trod at o;simp only[j] at o;split at o<;>simp_all;rename_i k l m;obtain⟨⟨rfl,c⟩,_⟩:=o;subst m;exact⟨l,rfl,jL c⟩
def XJ {P:Program}{t:TypeId}(g:P.cellsOf t=1) (i:P.underlying t=some .bool):E8 P t A4.bool:=by
 refine⟨g,λ{H enc w c b d a cs x} j=>?_⟩;cases a with
 |zero=>simp [DataW.trod] at j
 |succ n=>
  unfold DataW.trod at j;simp only[i] at j;split at j<;>first|(exact ⟨_,rfl⟩)|simp_all
def ZY {P:Program}{t:TypeId}(g:P.cellsOf t=1) (i:P.underlying t=some .string):E8 P t A4.str:=by
 refine⟨g,λ{H enc w c b d a cs x} j=>?_⟩;cases a with
 |zero=>simp [DataW.trod] at j
 |succ n=>
  unfold DataW.trod at j;simp only[i] at j;split at j<;>simp_all;exact⟨_,rfl,j.1⟩
def R3 {α}{p:Nat→α→Prop}:∀n,(∀i,i<n→∃x,p i x)→∃l:List α,l.length=n∧∀i x,l[i]? =some x→p i x
 |0,_=>⟨[],rfl,λi x j=>by simp at j⟩
 |n+1,j=>by
  obtain⟨l,b,c⟩:=R3 n λi d=>j i (by omega);obtain⟨x,g⟩:=j n (by omega);refine⟨l++[x],by simp [b],λi y a=>?_⟩;rw[List.getElem?_append] at a;split at a
  ·exact c i y a
  ·rename_i d;have:i-l.length=0:=by
    have:=(Aba.1 a).1;simp at this;omega
   rw[this] at a;simp at a;subst a;have:i=n:=by omega
   subst this;exact g
def G8 {P:Program}{t e:TypeId}{α}{r:A4 α}(Q:P.cellsOf t=1) (U:P.underlying t=some (.slice e)) (A:E8 P e r) (V:Nat.blt 0 r.sz=true):E8 P t (A4.sl r):=by
 refine⟨Q,λ{H enc w J B K M cs x} h=>?_⟩;have k:0<r.sz:=(by simpa [Nat.blt] using V:1≤r.sz)
 rcases open_slice U h with ⟨rfl,_⟩|⟨a,len,cap,m,n,D,Pl,rfl,hb,hlc,hcm,hm,_,hel⟩
 ·exact⟨[],_,rfl,.inl ⟨rfl,rfl⟩⟩
 ·have W:len≤m:=by rw[hm];split<;>omega
  obtain⟨l,X,C⟩:=R3 (p:=λi x=>a.spot=none∧Pt (λb=>b<w.heap.size) w.heap r (.pointer (some ⟨a.block,a.off+i*r.sz,none⟩)) x) len λi hi=>by
   obtain⟨cs',F,G⟩:=hel i (by omega);obtain⟨y,Y⟩:=A.2 G;obtain⟨_,q,IZ⟩:=World.cells?_some F;rw[A.1] at q IZ;have u:a.spot=none:=by
    obtain⟨v,I,_⟩:=hel 0 (by omega);obtain⟨_,g,c⟩:=World.cells?_some I;rw[A.1] at g c;have h0:=c 0 k;have Z:(a.add (0*r.sz)).add 0=a:=by simp [Addr.add]
    rw[Z] at h0;cases hs:a.spot with
    |none=>rfl
    |some s=>
     have:w.cell? a=none:=by
      unfold World.cell?;split
      ·simp [hs]
      ·rfl
     rw[this] at h0;have:v[0]? =some (v[0]'(by omega)):=Abf (by omega);rw[this] at h0;cases h0
   obtain⟨b,o,s⟩:=a;simp only at u;subst u;have d:∀j,((⟨b,o,none⟩:Addr).add (i*r.sz)).add j=⟨b,o+i*r.sz+j,none⟩:=by
    intro j;have e1:(⟨b,o,none⟩:Addr).add (i*r.sz)=⟨b,o+i*r.sz,none⟩:=by unfold Addr.add;split<;>simp_all
    rw[e1];unfold Addr.add;split<;>simp_all
   have z:b<w.heap.size:=by
    have h0:=IZ 0 k;rw[d] at h0;have:cs'[0]? =some (cs'[0]'(by omega)):=Abf (by omega);rw[this] at h0;exact World.block_lt_of_cell? w _ h0
   refine⟨y,rfl,cs',⟨⟨b,o+i*r.sz,none⟩,rfl,rfl,z,λj hj=>?_⟩,Y⟩;have:=IZ j (by omega);rw[d] at this;exact this
  exact⟨l,_,rfl,.inr ⟨a,cap,by rw[X],by omega,hcm,C⟩⟩
def Dv {P:Program}{t:TypeId}{l:Array Field}(q:P.underlying t=some (.struct l)){H:Type}{enc:TypeId×Value→H}{w:World}{c:Nat}{a:Nat→Bool}{d:Bool}{g:Nat}{cs:List Value}{x:DataW H×List MemPlace}
  (v:DataW.trod enc P w c a d g t cs=some x):cs.length=P.cellsOf t∧∀(j:Nat) (f:Field) {z} (r:A4 z),l[j]? =some f→E8 P f.type r→∃y,r.rd (λb=>b<w.heap.size) w.heap ((cs.drop f.offset).take r.sz) y:=by
 obtain⟨xs,n,_,_,s,i,u⟩:=DataW.trod_struct q v;refine⟨s,λj f z r m o=>?_⟩;have p:=u j f m;have k:j<xs.length:=by rw[i];exact(Ab5.1 m).1
 rw[Abf k,o.1] at p;exact o.2 p
def fS {P:Program}{t:TypeId}{l:Array Field}{α}{r:A4 α}(m:E8 P t r) (i:r.ag=true) (n:P.underlying t=some (.struct l)){H:Type}{enc:TypeId×Value→H}{w:World}{j:Reach}{o c:Nat}{a:Nat→Bool}{g:Bool}{v:Value}{d:DataW H}{p:List MemPlace}
  (q:Value.okWide P w j o t v) (x:DataW.Trod enc P w c a g t v d p):∃y,Rd (λb=>b<w.heap.size) w.heap r v y:=by
 obtain⟨cs,rfl,_⟩:=okWide_struct n q;obtain⟨k,s⟩:=x;obtain⟨y,u⟩:=m.2 s;exact⟨y,cs.toList,by simp [A4.val,i],u⟩
def Zn {v:Value}{c:Value}(b:v.cells.toList=[c]) (a:c.oneCell'=true):v=c∨∃cs,v= .agg cs:=by
 cases v<;>first|(right;exact⟨_,rfl⟩)|(left;simpa [Value.cells] using b)
def Ye {P:Program}{t:TypeId}{α}{r:A4 α}(u:E8 P t r) (m:r.ag=false) (n:r.sz=1){H:Type}{enc:TypeId×Value→H}{w:World}{g:Nat}{a:Nat→Bool}{i:Bool}{v:Value}{d:DataW H}{p:List MemPlace}
  (o:∀cs,v≠ .agg cs) (z:DataW.Trod enc P w g a i t v d p):∃y,Rd (λb=>b<w.heap.size) w.heap r v y:=by
 obtain⟨q,x⟩:=z;obtain⟨y,l⟩:=u.2 x;have s:=r.len l;rw[n] at s
 match j:v.cells.toList,s with
 |[c],_=>
  rw[j] at l;have k:=r.one l c (by simp);rcases Zn j k with rfl|⟨cs,rfl⟩
  ·exact⟨y,[v],by simp [A4.val,m],l⟩
  ·exact absurd rfl (o cs)
def cU {P:Program}{t e:TypeId}(b:P.underlying t=some (.slice e)){w:World}{a:Reach}{c:Nat}{v:Value}(d:Value.okWide P w a c t v):∀cs,v≠ .agg cs:=by
 rintro cs rfl;simp [Value.okWide,b,Cell.okWide,Cell.ok] at d
def pU {P:Program}{t:TypeId}{k:IntKind}(b:P.underlying t=some (.int k)){w:World}{a:Reach}{c:Nat}{v:Value}(d:Value.okWide P w a c t v):∀cs,v≠ .agg cs:=by
 rintro cs rfl;simp [Value.okWide,b,Cell.okWide,Cell.ok] at d
def Py {H:Type}{enc:TypeId×Value→H}{P:Program}(m:laidOutB P=true){W n:World}(o:Below W.heap.size W n):
  ∀{j:List TypeId} {vs:List Value} {k:List (DataW H)} {b:List MemPlace},(∀t∈j,P.readableRec t=true∧t<P.types.size)→DataW.TrodAll enc P W 0 (λ_=>true) true j vs k b→(∀x∈b,x.block<W.heap.size)→
   ∀c:Nat→Bool,(∀x∈b,c x.block=true)→DataW.TrodAll enc P n 0 c true j vs k b
 |[],vs,k,b,_,C,_,c,_=>by
  obtain⟨rfl,rfl,rfl⟩:=trodAll_nil C;exact rfl
 |t::j,vs,k,b,s,C,g,c,i=>by
  obtain⟨v,u,d,w,p,q,rfl,rfl,rfl,y,z⟩:=trodAll_cons C;obtain⟨A,B⟩:=s t (by simp);refine⟨p,q,WideElems.Trod_stays m A B y (λx a=>o.same (g x (by simp [a]))) (λx a=>i x (by simp [a])),?_,rfl⟩;exact Py m o (λt l=>s t (by simp [l])) z (λx a=>g x (by simp [a])) c λx a=>i x (by simp [a])
def dN {H:Type}{enc:TypeId×Value→H}{P:Program}{f:Func}{s:ChangeSpec}{W l:World}{c:Array Value}{d i:List (DataW H)}{a:List MemPlace}{tb:TypeId}
  (q:laidOutB P=true) (j:f.params.toList.all (λt=>P.readableRec t&&decide (t<P.types.size))=true) (k:DataW.Whole enc P f.params.toList s.vars false W c.toList d i a)
  (u:f.resultTypes= #[tb]) (v:P.underlying tb=some .bool) (b:s.vars=[]) (w:(s.fn H (d++i)).results=[.lit (.bool true)]) (y:(s.fn H (d++i)).args=d) (z:(s.fn H (d++i)).vars=[])
  (m:Below W.heap.size W l):s.post enc P f false true false false W c (.bool true) l:=by
 have g:∀p∈a,p.block<W.heap.size:=λp A=>k.lt p A;obtain⟨n,pv,B,o,rfl,F,G⟩:=id k;rw[b] at o;obtain⟨rfl,rfl⟩:=trodVars_none o;simp only[Abx] at*;refine⟨d,[],n,[],n,[],by simpa using k,?_,?_,?_,?_,λI=>by cases I⟩
 ·simp only[Abx];rw[w,u];exact trodAll_mk1 (shut_bool v true)
 ·simp only[Abx];rw[y];refine Py q m (λt C=>?_) B g _ λx D=>by simpa using g x D
  have:=Aa6.1 j t C;simpa using this
 ·simp only[Abx];rw[z,b];exact rfl
 ·exact m.frame _
def Ze {P:Program}{f:FuncId}{a:Array Value}{W:World}{L:(Nat→Prop)→AV→Prop}(k:B3 P f a (λb=>b<W.heap.size) W.heap (λv S' h'=>v= .bool true∧L S' h')):
  Calls P f a W λe d=>e= .returned (.bool true)∧Below W.heap.size W d:=
 (k W W ⟨rfl,rfl,rfl,rfl⟩).mono λe d ⟨v,S',h',i,c,g,j,_⟩=>by
  subst i;subst j;exact⟨rfl,c.os,c.tape,c.out,by rw[c.heap];exact g.siz,λb l=>by rw[c.heap];exact g.same b l⟩
end Go.Proofs.YtedgiljmffngoaaGreat
