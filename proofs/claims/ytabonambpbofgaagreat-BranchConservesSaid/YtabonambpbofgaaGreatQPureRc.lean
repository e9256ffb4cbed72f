import Derived.Test.YtabonambpbofgaaGreatQPureT1
import Derived.Test.YtabonambpbofgaaGreatQPureEx
namespace Go.Proofs.YtabonambpbofgaaGreat
set_option linter.all false
open Go.RowKit
variable {K R out rem y:xq}{H:Int}{M P k o:Nat}{d ms:List AM}{w w':AS}{c n:List AY}{in_:AX}{s t u:AH}{G J U g m o1:List xq}{r:AH×List AM×xq}{Q Z:List FO}{A j:List AH}{ins l:List AX}{kj:List AH->List AM->List xq->Option (List AH×List AM×List xq)}{C φ:xq->Int}
def aP{c:Prop}[Decidable c]{a t b:Int}(g:b≠ -3):∀m∈(if c then [] else [(⟨H,a,t,b,y⟩:AM)]),m.Be≠ -3:=λm d=>by
 split at d
 ·cases d
 ·rw[Aho.1 d];exact g
def eF(p:Nat)(m:AM):Bool:=decide (m.J=(p:Int))&&decide (m.Be= -3)
def Zt{p:Nat}{l:List AM}(b:∀m∈l,m.Be≠ -3):l.filter (eF p)=[]:=List.filter_eq_nil_iff.2 λm a=>by unfold eF;simp[b m a]
def Vf{p q:Nat}(a:q≠p){l:List AM}(c:∀m∈l,m.J=(q:Int)):l.filter (eF p)=[]:=List.filter_eq_nil_iff.2 λm b=>by unfold eF;rw[c m b];simp;omega
def oD{p N:Nat}{b:AF}{a:List FO}{x:xq}:(Vs H p (Nu N b p a) x).filter (eF p)=Vs H p (Nu N b p a) x:=Aj9.2 λm c=>by
 obtain⟨e,d,g,i⟩:=T1 m c;obtain⟨t,_,rfl⟩:=Ahr.1 d;unfold eF;rw[g,i];simp[Zv]
def Wk{p:Nat}:∀{l:List AM}{o:List xq}(c:∀m∈l,m.J=(p:Int)){j:Nat}(a:p≠j),(Ra o l)[j]? =o[j]?
 |[],_,_,_,_=>rfl
 |m::l,o,c,j,a=>by
  show(Ra (upd o m.J (JZ (o.getD m.J.toNat []) m.N)) l)[j]? =_
  rw[Wk (p:=p) (l:=l) (λq b=>c q (.tail _ b)) a,c m (.head _),JA a]
def Vz{N:Nat}(I:18446744073709551616<N){W:Nat}(Y:w.s.B=H)(J:W<=64){p:Nat}(v:p<w.b.A.length)(i:JV w.b w.b.A[p]){o:List xq}{j:List AY}(hM:M<=999999)(z:J4 w.b.A.length W o)(h:mX W out ms j M):
  ∃r l,DW N w (p:Int) w.b.A[p] o out ms j rem=some r/\r.2.1=rem/\XJ w.b H N W p o out ms j r.1 r.2.2.1 r.2.2.2.1 r.2.2.2.2 l/\l.length<=1/\(∀m∈l,m.Be≠ -3)/\∀x,r.1[p]? =some x->x.sum<=(w.b.A[p]).Au:=by
 have k:8000000000000<N:=Ω
 have h1:=h.mv;have h2:=h.sn;have q:=i.cap;unfold KW at q;have C:w.b.A.getD p default=w.b.A[p]:=by simp[Ahc,v]
 unfold DW;obtain⟨x,Z,d,a⟩:=z.ix v;have aa:=a.mv;have ab:=a.sum0;rw[Z,Agm,Agm,a.total k Ω,Agm,D6 (n:=x.sum-(w.b.A[p]).Au) Ω Ω];by_cases u:0<x.sum-(w.b.A[p]).Au
 ·rw[Ag8 u,Ago,IK,Agm];have he:Aa8 w.b W p ⟨(w.b.A[p]).Ao,(w.b.A[p]).S, -2,λy=>AQ N (x.sum-(w.b.A[p]).Au) y⟩:=⟨λy c=>by obtain⟨t,e,h,_⟩:=R6 I J (x.sum-(w.b.A[p]).Au) y c;exact⟨t,e,h⟩,by show(-2:Int)≠ -4;decide,i.down,by show _=Q6 _ _ (-2);unfold Q6;rw[Agn Ω,Agn (by decide),C]⟩
  obtain⟨r,l,x',t,D,G,g,q3,U,V,X⟩:=Wm k (w:=(⟨w.b,w.in_,(⟨w.s.B,o,rem,w.s.F,w.s.Q,w.s.K,out⟩:AH),ms,w.peaks,j⟩:AS)) Y Ω z v he h.out (by show ms.length<=_;omega) (by show j.length<=_;omega);simp only at G g U V;rw[d]at G;cases G;obtain⟨t',e',_,ts⟩:=R6 I J (x.sum-(w.b.A[p]).Au) x a;rw[e']at g;have g:=Agt Prod.fst (Ags g);simp only at g;subst g;rw[D,Agm];refine⟨_,l,rfl,rfl,V,by rw[X];exact Wp,by rw[X];exact aP (by show(-2:Int)≠ -3;decide),λy c=>?_⟩;have c:r.1[p]? =some y:=c;rw[U,HO (Ag0.1 d).1]at c;rw[<-Ags c,(q3.sub a).2.1,ts];omega
 ·rw[Agx u,Agq];refine⟨_,[],rfl,rfl,XJ.nil z h.out,by simp,λm hm=>(by cases hm),λy c=>?_⟩;have c:o[p]? =some y:=c;rw[d]at c;cases c;omega
def Vy{N:Nat}(q:18446744073709551616<N){W:Nat}(u:w.s.B=H)(v:W<=64){p:Nat}(g:p<w.b.A.length)(a:JV w.b w.b.A[p]){o:List xq}(y:Int×Int)(hM:M<=999998)(D:J4 w.b.A.length W o)(h:mX W out ms c M):
  ∃r l,FC N w (p:Int) w.b.A[p] o out ms c y (DW N w (p:Int) w.b.A[p]) rem=some r/\r.2.1=rem/\XJ w.b H N W p o out ms c r.1 r.2.2.1 r.2.2.2.1 r.2.2.2.2 l/\l.length<=2/\(∀m∈l,m.Be≠ -3)/\∀x,r.1[p]? =some x->x.sum<=(w.b.A[p]).Au:=by
 have i:8000000000000<N:=Ω
 have h1:=h.mv;have h2:=h.sn;have j:w.b.A.getD p default=w.b.A[p]:=by simp[Ahc,g]
 unfold FC;rw[IK,Agm];have G:Aa8 w.b W p ⟨(w.b.A[p]).Ao,(w.b.A[p]).S, -1,λx=>AQ N y.1 x⟩:=⟨λz I=>by obtain⟨t,e,h,_⟩:=R6 q v y.1 z I;exact⟨t,e,h⟩,by show(-1:Int)≠ -4;decide,a.down,by show _=Q6 _ _ (-1);unfold Q6;rw[Agn Ω,Agn (by decide),j]⟩
 obtain⟨r,l,x',t,k,q1,q2,q3,q4,n,C⟩:=Wm i (w:=(⟨w.b,w.in_,(⟨w.s.B,o,rem,w.s.F,w.s.Q,w.s.K,out⟩:AH),ms,w.peaks,c⟩:AS)) u Ω D g G h.out (by show ms.length<=_;omega) (by show c.length<=_;omega);have J:l.length<=1:=by rw[C];exact Wp
 have U:=h.next n J;rw[k,Agm];obtain⟨r',V,X,Y,Z,z3,z5,z4⟩:=Vz q u v g a (rem:=rem) (M:=M+1) Ω n.ox U;exact⟨r',l++V,X,Y,n.trans Z,by rw[Ahh];omega,λm d=>(Ahi.1 d).elim (λd=>by rw[C]at d;exact aP (by show(-1:Int)≠ -3;decide) m d) (z5 m),z4⟩
def kB{N:Nat}(V:8000000000000<N){W:Nat}(X:w.s.B=H)(hW:W<=64){p:Nat}(Y:p<w.b.A.length)(Z:J4 w.b.A.length W w.s.D)(h:mX W w.s.O w.moves w.sent M)(hM:M<=900000)(a:List AD)(v:XL w.b W p a)(aa:a.length<=2000)(kj:List xq->xq->List AM->List AY->Option (List xq×xq×xq×List AM×List AY)):
  ∃o out ms c l,XJ w.b H N W p w.s.D w.s.O w.moves w.sent o out ms c l/\l.length<=a.length/\(∀x,w.s.D[p]? =some x->l=Vs H p a x)/\Dm N w (p:Int) a kj N 0 w.s.D w.s.O w.moves w.sent=kj o out ms c:=by
 obtain⟨⟨o,out,ms,c⟩,⟨l,d,y,q⟩,e⟩:=EO a.length (λn i (s:List xq×xq×List AM×List AY)=>Dm N w (p:Int) a kj n i s.1 s.2.1 s.2.2.1 s.2.2.2) (λs=>kj s.1 s.2.1 s.2.2.1 s.2.2.2) (λk s=>∃l,XJ w.b H N W p w.s.D w.s.O w.moves w.sent s.1 s.2.1 s.2.2.1 s.2.2.2 l/\l.length<=k/\∀x,w.s.D[p]? =some x->l=Vs H p (a.take k) x/\s.1[p]? =some (eG (a.take k) x)) (λn k s g=>by
  simp only[Dm];rw[Ek g];rfl) (λn k s hi g=>by
  obtain⟨o,out,ms,c⟩:=s;obtain⟨l,d,y,q⟩:=hi;simp only at q;simp only at d;have G:=h.next d y;have h1:=G.mv;have h2:=G.sn;simp only[Dm];rw[ER g,Ago,BA Ω,BC g,Agm,Agm];obtain⟨r,I,j,t,z,u,J,q3,q4,q5,U⟩:=Wm V (w:=(⟨w.b,w.in_,(⟨w.s.B,o,w.s.P,w.s.F,w.s.Q,w.s.K,out⟩:AH),ms,w.peaks,c⟩:AS)) X Ω d.ox Y (v _ (Agy g)) d.ol (by show ms.length<=_;omega) (by show c.length<=_;omega);have hl:I.length<=1:=by rw[U];exact Wp
  rw[z,Agm];exact⟨(_,_,_,_),⟨l++I,d.trans q5,by rw[Ahh];omega,λx m=>by
   obtain⟨u1,u2⟩:=q x m;have u:o[p]? =some j:=u;have C:eG (a.take k) x=j:=Ags (u2.symm.trans u);rw[Ah8 g,T3,Wl,<-u1,C];have v1:Vs H p [a[k]] j=(if t.sum<=0 then [] else [(⟨H,(p:Int),(a[k]).to_,(a[k]).way,t⟩:AM)]):=by
    simp only[Vs];rw[J];simp
   have v2:eG [a[k]] j=JZ j t:=by
    simp only[eG];rw[J]
   rw[v1,v2];refine⟨by rw[U],?_⟩;show r.1[p]? =_
   rw[q4];exact HO (Ag0.1 u).1 _⟩,rfl⟩) N 0 (w.s.D,w.s.O,w.moves,w.sent) ⟨[],XJ.nil Z h.out,Ag5 _,λx m=>⟨rfl,m⟩⟩ Ω (Agr _)
 exact⟨o,out,ms,c,l,d,y,λx m=>by have:=(q x m).1;rwa [Ahe]at this,e⟩
def kA{N:Nat}(g:18446744073709551616<N){W:Nat}(J:w.s.B=H)(n:W<=64)(hL:w.b.E.length<=900)(ht:w.in_.V.length<=1000)(U:∀l∈w.b.E,LA w.b l)(q:∀p∈w.b.A,JV w.b p)(hg:w.s.Q.length=w.b.E.length)(X:w.peaks.length=w.b.A.length)(d:w.s.P.length=w.b.A.length){p:Nat}(c:p<w.b.A.length)(ho:J4 w.b.A.length W w.s.D)(h:mX W w.s.O w.moves w.sent M)(hM:M<=900000):
  ∃r l,Ho N w (p:Int)=some r/\r.2.1.length=w.b.A.length/\XJ w.b H N W p w.s.D w.s.O w.moves w.sent r.1 r.2.2.1 r.2.2.2.1 r.2.2.2.2 l/\l.length<=w.in_.V.length+w.b.E.length+2/\(∀x,w.s.D[p]? =some x->l.filter (eF p)=Vs H p (Nu N w.b p w.in_.V) x)/\∀x,r.1[p]? =some x->x.sum<=(w.b.A[p]).Au:=by
 have j:8000000000000<N:=Ω
 have k:=q _ (Agy c);have a1:=gZ g (w:=w) ht c;have a2:=Vg N w.b p w.in_.V;have a3:=hJ g (b:=w.b) n p w.in_.V;generalize Y:Nu N w.b p w.in_.V=l1 at a1 a2 a3
 obtain⟨K,b1,b2,b3⟩:=kW g n Ω U hg X c;have Z:XL w.b W p (l1++K):=λe he=>(Ahi.1 he).elim (a3 e) λh=>(b3 e h).1;have ad:(l1++K).length<=w.in_.V.length+w.b.E.length:=by rw[Ahh];omega
 unfold Ho;rw[BC c,Agm,a1,Agm,b1,Agm,dS j _ _ Ω Ω,Agm];obtain⟨o,out,ms,sn,l,i,i2,i3,e⟩:=kB j J n c ho h hM (l1++K) Z Ω (GI N w (p:Int) w.b.A[p]);have hn:=h.next i i2;rw[e];have hf:∀a:List AM,(∀m∈a,m.Be≠ -3)->∀x,w.s.D[p]? =some x->(l++a).filter (eF p)=Vs H p l1 x:=λa aa x hx=>by
  rw[Ai5,Zt aa,Ahz,i3 x hx,T3,Ai5,Zt (l:=Vs H p K _) (λm hm=>by obtain⟨e',ab,h1,_⟩:=T1 m hm;have:=(b3 e' ab).2;omega),Ahz,<-Y,oD]
 unfold GI;cases decide ((w.b.A[p]).T≠0)
 ·obtain⟨r,a,t,u,v,r3,z,C⟩:=Vz g J n c k (rem:=w.s.P) Ω i.ox hn;exact⟨r,l++a,t,by rw[u];exact d,i.trans v,by rw[Ahh];omega,hf a z,C⟩
 ·have F:p<w.peaks.length:=Ω
  have G:p<w.s.P.length:=Ω
  have I:(upd w.s.P (p:Int) 0).length=w.b.A.length:=by rw[Ni];exact d
  obtain⟨x,hx,ae,ac⟩:=i.ox.ix c;obtain⟨y,hy⟩:=iY g w.b.A[p] w.peaks[p] w.s.P[p];rw[Ago,BC F,Agm,Agm,BC G,Agm,Agm,hy,Agm,Agm,Agm,hx,Agm,Agm,ac.total j Ω,Agm];cases decide (y.1<=x.sum)
  ·obtain⟨r,a,t,u,v,r3,z,C⟩:=Vy g J n c k (rem:=upd w.s.P (p:Int) 0) y Ω i.ox hn;exact⟨r,l++a,t,by rw[u];exact I,i.trans v,by rw[Ahh];omega,hf a z,C⟩
  ·rw[Ago,BC (show p<(upd w.s.P (p:Int) 0).length from Ω),Agm,Agm];obtain⟨r,a,t,u,v,r3,z,C⟩:=Vy g J n c k (rem:=upd (upd w.s.P (p:Int) 0) (p:Int) y.2) y Ω i.ox hn;exact⟨r,l++a,t,by rw[u,Ni];exact I,i.trans v,by rw[Ahh];omega,hf a z,C⟩
structure Yg(N:Nat)(b:AF)(s:AH)(ts:List FO)(o1:List xq)(r:AH×List AM×xq)(ns:xq)(o3:List xq)(l:List AM):Prop where
 nl:ns.length=b.A.length
 mlen:r.2.1.length<=100000
 ml2:r.2.1.length<=64+b.A.length*(ts.length+b.E.length+2)
 n0:∀n∈ns,0<=n
 at3:∀(p:Nat) x n,o1[p]? =some x->ns[p]? =some n->o3[p]? =some (Gh (Gh x (v1 b.I.length n)) (SZ b.I.length s.B s.F p))
 ox3:J4 b.A.length b.I.length o3
 os3:Fa o3+GR (Kf s.B s.F)<=1125899906842624
 pk:r.2.2=o3.map List.sum
 lv:Aeb b s.B N b.I.length b.A.length o3 s.O (VM s.B b.I.length 0 ns) r.1.D r.1.O r.2.1 (l.filterMap (MN b s.B)) l
 que:r.1.F=Kf s.B s.F++l.filterMap (MN b s.B)
 hour:r.1.B=BO (s.B+1)
 inn:r.1.K=Gh s.K (v1 b.I.length ns.sum)
 tk:∀p,p<b.A.length->∀x,o3[p]? =some x->l.filter (eF p)=Vs s.B p (Nu N b p ts) x
 cap:∀(p:Nat)(hp:p<b.A.length) x,r.1.D[p]? =some x->x.sum<=(b.A[p]).Au
structure Aeq(N:Nat)(b:AF)(H:Int)(ts:List FO)(o3:List xq)(k:Nat)(o:List xq)(l:List AM):Prop where
 tk:∀p,p<k->∀x,o3[p]? =some x->l.filter (eF p)=Vs H p (Nu N b p ts) x
 hi:∀p,k<=p->l.filter (eF p)=[]/\o[p]? =o3[p]?
 cap:∀(p:Nat)(hp:p<b.A.length),p<k->∀x,o[p]? =some x->x.sum<=(b.A[p]).Au
def Aeq.next{N:Nat}{b:AF}{g:List FO}{u:List xq}{W:Nat}{o i:List xq}{c:xq}{j:List AM}{v:List AY}{l:List AM}(G:Aeq N b H g u k o l)(F:k<b.A.length)(q:XJ b H N W k o out ms v i c j n d)(w:∀x,o[k]? =some x->d.filter (eF k)=Vs H k (Nu N b k g) x)(y:∀x,i[k]? =some x->x.sum<=(b.A[k]).Au):Aeq N b H g u (k+1) i (l++d):=by
 have fr:∀m∈d,m.J=(k:Int):=λm z=>(q.mv m z).fr;refine⟨λp s x a=>?_,λp s=>⟨?_,?_⟩,λp s B x a=>?_⟩
 ·rw[Ai5];by_cases e:p=k
  ·subst e;obtain⟨C,D⟩:=G.hi p (Ag5 _);rw[C,Ag3];exact w x (D.trans a)
  ·rw[Vf (λt=>e t.symm) fr,Ahz];exact G.tk p Ω x a
 ·rw[Ai5,(G.hi p Ω).1,Vf Ω fr];rfl
 ·rw[q.own,Wk fr Ω];exact(G.hi p Ω).2
 ·by_cases e:p=k
  ·subst e;exact y x a
  ·rw[q.own,Wk fr (λt=>e t.symm)]at a;exact G.cap p s Ω x a
def xI(N:Nat)(p:xq)(h0:∀x∈p,0<=x)(i:Int):∃v,Lw N p i=some v/\(0<v->∃j:Nat,i=(j:Int)/\p[j]? =some v):=by
 unfold Lw;cases b:(decide (i<0)||decide ((p.length:Int)<=i))with
 |true=>exact⟨0,rfl,λd=>absurd d (by decide)⟩
 |false=>
  simp only[Ahk,Ahd]at b;obtain⟨j,c,a⟩:=tE (l:=p) (i:=i) Ω Ω;have:=h0 _ (Agy a);rw[Agq,c,BC a,Agm,Agm,Agm,Agx (show ¬p[j]<0 from Ω)];exact⟨p[j],rfl,λ_=>⟨j,rfl,Agw a⟩⟩
def pI{N W:Nat}(I:8000000000000<N)(J:W<=1000){p:xq}(c:PX W p)(fr to n:Int):∃r,NL N p fr to n=some r/\PX W r/\r.sum=p.sum:=by
 have s:=c.len;unfold NL;obtain⟨v,A,t⟩:=xI N p c.nn fr;rw[Lu Ω _ (by decide),A,Agm,Wx];cases y:(((decide (0<min n v)&&decide (0<=to))&&decide (to<(p.length:Int)))&&decide (fr≠to))
 ·exact⟨p,rfl,c,rfl⟩
 ·simp only[Agu,Ahb]at y;obtain⟨⟨⟨K,B⟩,C⟩,M⟩:=y;obtain⟨j,D,d⟩:=t Ω;obtain⟨k,F,a⟩:=tE (l:=p) (i:=to) B C;have g:=(Ag0.1 d).1;have m:=(Ag0.1 d).2;have o:j≠k:=Ω
  have G:=c.mem (Ahx d);have H:=c.mem (Agy a);have b:k<(upd p (j:Int) (v-min n v)).length:=by rw[Ni];exact a
  have u:(upd p (j:Int) (v-min n v))[k]=p[k]:=by
   have:(upd p (j:Int) (v-min n v))[k]? =p[k]? :=JA o _;rw[Agw b,Agw a]at this;exact Ags this
  rw[Ago,D,BC g,m];simp only[Agm];rw[D6 (n:=v-min n v) Ω Ω,F,BC b,u];simp only[Agm];rw[TH N Ω Ω Ω Ω,Agm];have z:(upd (upd p (j:Int) (v-min n v)) (k:Int) (p[k]+min n v)).sum=p.sum:=by
   have w:(p.set j (v-min n v))[k]'(by simpa using a)=p[k]:=List.getElem_set_ne o _;unfold upd;rw[Ahl,Ahl,O8 (by simpa using a),O8 g,w,m];omega
  refine⟨_,rfl,⟨by rw[Ni,Ni];exact s,λx q=>?_,by rw[z];exact c.mv⟩,z⟩;rcases Aj4 q with q|rfl
  ·rcases Aj4 q with q|rfl
   ·exact c.nn x q
   ·omega
  ·omega
def oG{N:Nat}(v:8000000000000<N){W:Nat}(B:W<=1000)(U:w.in_.Ad.length<=1000)(F:J4 w.b.A.length W w.s.D):∃o,ET N w=some o/\J4 w.b.A.length W o/\o.map List.sum=w.s.D.map List.sum:=by
 unfold ET;obtain⟨o,⟨G,H⟩,e⟩:=EO w.in_.Ad.length (λn i l=>Co N w n i l) (λl=>some l) (λ_ l=>J4 w.b.A.length W l/\l.map List.sum=w.s.D.map List.sum) (λn k l d=>by
  simp only[Co];rw[Ek d];rfl) (λn k l a d=>by
  obtain⟨a,c⟩:=a;simp only[Co,HS];rw[ER d,Ago,BC d,BA Ω];simp only[Agm,Oo,HB,Rh];generalize w.in_.Ad[k]=x
  cases g:(((decide (0<=x.Ap)&&decide (x.Ap<(w.b.A.length:Int)))&&(decide (0<=x.J)&&decide (x.J<(w.b.I.length:Int))))&&(decide (0<=x.C)&&decide (x.C<(w.b.I.length:Int))))
  ·exact⟨l,⟨a,c⟩,rfl⟩
  ·simp only[Agu,Ahb]at g;obtain⟨j,K,m⟩:=tE (l:=l) g.1.1.1 (by rw[a.len];exact g.1.1.2);obtain⟨y,M,p,q⟩:=a.ix (k:=j) (by rw[<-a.len];exact m);obtain⟨z,Q,t,u⟩:=pI v B q x.J x.C x.Bd;rw[Ago,K];simp only[M,Agm];rw[Q,Agm];exact⟨_,⟨a.upd _ t,by rw[<-c];exact(show(upd l (j:Int) z).map List.sum=upd (l.map List.sum) (j:Int) y.sum by unfold upd;rw[List.map_set,u]).trans (Xs (by rw[Aig,p];rfl))⟩,rfl⟩) N 0 w.s.D ⟨F,rfl⟩ Ω (Agr _)
 exact⟨o,e,G,H⟩
def Yz(N:Nat)(a:w.b=w'.b)(c:w.in_=w'.in_)(n:Nat):∀(i:Int)(l:List xq),Co N w n i l=Co N w' n i l:=by
 induction n with
 |zero=>intro i l;rfl
 |succ n d=>intro i l;simp only[Co,HS,a,c,d]
def iA{N:Nat}(d:8000000000000<N){b:AF}{W:Nat}(g:W<=1000)(i:in_.Ad.length<=1000)(j:J4 b.A.length W s.D):∃o,(∀a:List A8,ET N (⟨b,in_,({ s with Q:=a}:AH),([]:List AM),(List.replicate ((b.A.length:Int)).toNat (0:Int)),([]:List AY)⟩:AS)=some o)/\J4 b.A.length W o/\Fa o=Fa s.D/\o.map List.sum=s.D.map List.sum:=by
 obtain⟨o,e,k,c⟩:=oG d (w:=(⟨b,in_,s,([]:List AM),[],([]:List AY)⟩:AS)) g i j;refine⟨o,λa=>?_,k,by unfold Fa;rw[c],c⟩;rw[<-e];exact Yz N (w:=(⟨b,in_,({ s with Q:=a}:AH),([]:List AM),(List.replicate ((b.A.length:Int)).toNat (0:Int)),([]:List AY)⟩:AS)) (w':=(⟨b,in_,s,([]:List AM),[],([]:List AY)⟩:AS)) rfl rfl N 0 s.D
def gk(R:xq)(k:Nat):Int:=min (max (R.getD k 0) 0) 1125899906842624
def Yp(R:xq):Nat->Int
 |0=>0
 |k+1=>Yp R k+gk R k
def XI(R l:xq):Prop:=∀(i:Nat) n,l[i]? =some n->n<=gk R i
def XI.snoc{l:xq}(m:XI R l)(b:l.length=k){n:Int}(c:n<=gk R k):XI R (l++[n]):=λi x a=>by
 rcases Ag7 i k with d|d
 ·rw[Aj6 Ω]at a;exact m i x a
 ·have g:=(Ag0.1 a).1;rw[Ahh,List.length_singleton]at g;have j:i=k:=Ω
  subst j;rw[Aj7 Ω,b,Nat.sub_self]at a;cases a;exact c
def XI.take{R l:xq}(g:XI R l):∀d k,k+d<=l.length->Yp R k-(l.take k).sum<=Yp R (k+d)-(l.take (k+d)).sum
 |0,k,_=>Ahq _
 |d+1,k,a=>by
  have b:=XI.take g d k Ω;have c:=g (k+d) _ (Agw (show k+d<l.length from Ω));rw[show k+(d+1)=(k+d)+1 from Ω,LZ (show k+d<l.length from Ω)];simp only[Yp];omega
def XI.sum{l:xq}(a:XI R l):l.sum<=Yp R l.length:=by
 have:=XI.take a l.length 0 Ω;rw[Ahw,Ahe,Ah4]at this;simp only[Yp,List.sum_nil]at this;omega
def Afz{l:xq}(j:XI R l)(g:l.sum=Yp R l.length)(i:Nat)(b:i<l.length):l[i]? =some (gk R i):=by
 have c:=XI.take j i 0 Ω;have a:=XI.take j (l.length-(i+1)) (i+1) Ω;have d:=XI.take j 1 i Ω;rw[Ahw,Ah4]at c;rw[show i+1+(l.length-(i+1))=l.length from Ω,Ahe]at a;rw[LZ b]at a d;simp only[Yp,List.sum_nil]at c a d;rw[Agw b,show l[i]=gk R i from Ω]
def oR{N:Nat}(hN:8000000000000<N){W:Nat}(hW:w.b.I.length=W)(h1:1<=W)(aw:W<=16)(hP:w.b.A.length<=64)(M:J4 w.b.A.length W w.s.D)(hq:w.s.F.length<=4000000000000)(v:QX w.b.A.length W w.s.F)(ht:Fa w.s.D+GR w.s.F<=1125899906842624)(X:w.s.K.length=W)(p:∀x∈w.s.K,0<=x)(ae:w.s.K.sum<=1152921504606846976)(hm:w.moves=[]):
  ∃l r,KG N w=some (r.2.2.2.1,r.2.2.2.2,r.2.2.1)/\Afs w W w.b.A.length l r/\XI w.in_.U l/\(l.sum=Yp w.in_.U w.b.A.length\/r.1=1125899906842624\/r.2.1=1152921504606846976):=by
 have ax:=M.len;have aj:=(FP v 0).2;rw[Ah4,show GR ([]:List AY)=0 from rfl]at aj;unfold KG;obtain⟨s1,i1,e1⟩:=EO w.s.D.length (λn i s=>Ex N w (Ez N w) n s i) (Ez N w) (λk s=>s=Fa (w.s.D.take k)) (λn k s g=>by
  simp only[Ex];rw[Ek g];rfl) (λn k s Y g=>by
  have C:=M.all _ (Agy g);have h2:=Nk M (k+1);rw[No g]at h2;have h3:=C.sum0;have h4:=(Nk M k).1;simp only[Ex];rw[ER g,Ago,BC g,Agm,Agm,C.total hN Ω,Agm,BA Ω,D6 (n:=s+(w.s.D[k]).sum) Ω Ω];exact⟨_,by rw[No g,Y],rfl⟩) N 0 0 rfl Ω (Agr _)
 rw[show Ex N w (Ez N w) N 0 0=Ez N w s1 from e1];rw[Ahe]at i1;have ay:=M.sum0;unfold Ez;obtain⟨s2,i2,e2⟩:=EO w.s.F.length (λn i s=>Ew N w (Ey N w) n s i) (Ey N w) (λk s=>s=Fa w.s.D+GR (w.s.F.take k)) (λn k s g=>by
  simp only[Ew];rw[Ek g];rfl) (λn k s Y g=>by
  have C:=(v _ (Agy g)).1;have h2:=FP v (k+1);rw[Mu g]at h2;have h3:=C.sum0;have h4:=(FP v k).1;simp only[Ew];rw[ER g,Ago,BC g,Agm,C.total hN Ω,Agm,BA Ω,D6 (n:=s+(w.s.F[k]).N.sum) Ω Ω];exact⟨_,by rw[Mu g,Y];omega,rfl⟩) N 0 s1 (by rw[i1,Ah4];simp[GR]) Ω (Agr _)
 rw[show Ew N w (Ey N w) N s1 0=Ey N w s2 from e2];rw[Ahe]at i2;have az:=KX p;unfold Ey;rw[R4 hN Ω p Ω,Agm];obtain⟨s,⟨l,i3,i4⟩,e⟩:=EO w.b.A.length (λn i (s:Int×Int×List AM×List xq×xq)=>DQ N w n s.1 s.2.1 i s.2.2.1 s.2.2.2.1 s.2.2.2.2) (λs=>some (s.2.2.2.1,s.2.2.2.2,s.2.2.1)) (λk s=>∃l,Afs w W k l s/\XI w.in_.U l/\(l.sum=Yp w.in_.U k\/s.1=1125899906842624\/s.2.1=1152921504606846976)) (λn k s g=>by
  simp only[DQ];rw[Ek g];rfl) (λn k s Y g=>by
  obtain⟨a,c,ms,o,j⟩:=s;obtain⟨l,⟨Z,q2,q3,q4,q5,q6,⟨q7,q8⟩,q9,⟨G,af⟩,aa⟩,qp,qm⟩:=Y;simp only at q3 q4 q5 q6 q7 q8 q9 G af aa qm;have a0:=q4.sum0;have ak:=KX q2;obtain⟨x,C,H,q⟩:=q4.ix g;obtain⟨x1,a1,Q,aq⟩:=M.ix g;have al:x=x1:=by rw[q6 k (Ag5 _),Q]at H;exact(Ags H).symm
  have hj:∀m:Int,m<=1125899906842624-a->m<=1152921504606846976-c->(max m 0<=gk w.in_.U k/\(l.sum+max m 0=Yp w.in_.U (k+1)\/a+max m 0=1125899906842624\/c+max m 0=1152921504606846976))->∃s':Int×Int×List AM×List xq×xq,(∃l,Afs w W (k+1) l s'/\XI w.in_.U l/\(l.sum=Yp w.in_.U (k+1)\/s'.1=1125899906842624\/s'.2.1=1152921504606846976))/\Hv N w a c (k:Int) ms o j (Gm N (k:Int) (DQ N w n)) m=DQ N w n s'.1 s'.2.1 ((k+1:Nat):Int) s'.2.2.1 s'.2.2.2.1 s'.2.2.2.2:=λm a2 a3 a4=>by
   unfold Hv Gm;rw[BA Ω];by_cases ag:m<=0
   ·rw[Ag8 ag,Ago];refine⟨(a,c,ms,o,j),⟨l++[0],⟨by simp[Z],λn d=>?_,?_,q4,λi y n hy d=>?_,λi Y=>q6 i Ω,⟨q7,q8⟩,by rw[Ah9];simpa using q9,⟨by rw[Ah9];simpa using G,af⟩,by rw[Ah9];simpa using aa⟩,qp.snoc Z Ω,by show _\/a=_\/c=_;rw[show(l++[(0:Int)]).sum=l.sum by simp];omega⟩,rfl⟩
    ·rcases Ahi.1 d with d|d
     ·exact q2 n d
     ·rw[Aho.1 d];exact Ahq 0
    ·show ms=_
     rw[Ua,Agn Ω,Ahz];exact q3
    ·show o[i]? =_
     by_cases ab:i<k
     ·rw[Aj6 Ω]at d;exact q5 i y n hy d
     ·have t:i=k:=by
       have:=(Ag0.1 d).1;simp at this;omega
      subst t;rw[Aj7 Ω,Z,Nat.sub_self]at d;cases d;rw[Qh,Si (M.all y (Ahx hy)).len,q6 i (Ag5 _),hy]
   ·have a5:=q4.le H;have hv:=fJ h1 (n:=m) Ω Ω;have ah:=RS h1 m;obtain⟨x0,ac⟩:=Df.ix (l:=x) (i:=0) (Ahq _) (by rw[q.len];omega);have ar:=q.mem (Ahx (FQ ac).2);have ai:j.length=W:=by rw[q9];exact LY X (Mr _ _)
    obtain⟨y0,J⟩:=Df.ix (l:=j) (i:=0) (Ahq _) Ω;have u:∀z∈j,0<=z:=by
     rw[q9];refine Qf p λz hz=>?_;rcases Aj4 hz with hz|rfl
     ·rw[(List.mem_replicate.1 hz).2];exact Ahq 0
     ·exact ak
    have am:j.sum=c:=by rw[q9,I9 (by rw[X,Mr]),RS h1,G]
    have au:=IC u _ (Ahx (FQ J).2);have av:=u _ (Ahx (FQ J).2);obtain⟨z0,an⟩:=Df.ix (l:=List.replicate ((w.b.I.length:Int)).toNat (0:Int)) (i:=0) (Ahq _) (by rw[PC];omega);have a6:=Wa w.s.B W l 0;rw[Agx ag,Agq,C,Agm,Agm,ac,Agm,Agm,J,Agm,Agm,Agm,Agm,Lu Ω _ (by decide),an,Agm,Agm,Fu (by rw[q3];simp;omega),D6 (n:=a+m) Ω Ω,D6 (n:=c+m) Ω Ω,D6 (n:=x0+m) Ω Ω,D6 (n:=y0+m) Ω Ω,Zo q.len h1 m x0 ac,Zo ai h1 m y0 J];have ao:PX W (Gh x (v1 W m)):=q.add hv (by rw[ah];omega);have V:Fa (upd o (k:Int) (Gh x (v1 W m)))=Fa o+m:=by
     rw[SF H,I9 (q.len.trans hv.len.symm),ah];omega
    have ap:List.replicate ((w.b.I.length:Int)).toNat (0:Int)=List.replicate W 0:=by rw[hW];rfl
    refine⟨(a+m,c+m,ms++[⟨w.s.B, -1,(k:Int), -4,upd (List.replicate ((w.b.I.length:Int)).toNat (0:Int)) 0 m⟩],upd o (k:Int) (Gh x (v1 W m)),Gh j (v1 W m)),⟨l++[m],⟨by simp[Z],λn d=>?_,?_,q4.upd _ ao,λi y n hy d=>?_,λi Y=>?_,⟨?_,by show a+m<=_;omega⟩,?_,⟨?_,by show c+m<=_;omega⟩,?_⟩,qp.snoc Z Ω,by show _\/a+m=_\/c+m=_;rw[show(l++[m]).sum=l.sum+m by simp];omega⟩,rfl⟩
    ·rcases Ahi.1 d with d|d
     ·exact q2 n d
     ·rw[Aho.1 d];omega
    ·show ms++_=_
     rw[Ua,Agp Ω,q3,ap,Ahw,Z];rfl
    ·show(upd o (k:Int) _)[i]? =_
     by_cases ab:k=i
     ·subst ab;rw[Aj7 Ω,Z,Nat.sub_self]at d;cases d;rw[HO (by rw[q4.len];exact g),al];rw[Q]at hy;cases hy;rfl
     ·have t:i<l.length:=by
       have:=(Ag0.1 d).1;simp at this;omega
      rw[JA ab];rw[Aj6 t]at d;exact q5 i y n hy d
    ·show(upd o (k:Int) _)[i]? =_
     rw[JA Ω];exact q6 i Ω
    ·show a+m=Fa _+_
     rw[V];omega
    ·show Gh j (v1 W m)=_
     rw[q9,Ah9,UI];rw[fK h1];simp
    ·show c+m=_
     rw[Ah9,G];simp;omega
    ·show Fa _=_
     rw[V,aa,Ah9];simp;omega
  simp only[DQ];rw[ER g,Ago];cases hr:decide ((k:Int)<(w.in_.U.length:Int))
  ·have hr:=Akb hr;have ad:w.in_.U.getD k 0=0:=by rw[Ahc,Ahj Ω];rfl
   exact hj 0 Ω Ω (by simp only[Yp,gk,ad];omega)
  ·have hr:=Aie hr;have a7:0<=c:=Ω
   rw[Ago,BC (show k<w.in_.U.length from Ω),Agm,D6 (n:=1125899906842624-a) Ω Ω,D6 (n:=1152921504606846976-c) Ω Ω];have ad:w.in_.U.getD k 0=w.in_.U[k]:=by simp[Ahc,show k<w.in_.U.length from Ω]
   exact hj _ Ω Ω (by simp only[Yp,gk,ad];omega)) N 0 (s2,w.s.K.sum,w.moves,w.s.D,w.s.K) ⟨[],⟨rfl,λn d=>(by cases d),hm,M,λi x n _ d=>(by cases d),λi _=>rfl,⟨by show s2=_;rw[i2],by show s2<=_;omega⟩,by
    show w.s.K=Gh _ (v1 W 0)
    rw[Qh,Si X],⟨by show w.s.K.sum=_;simp,ae⟩,by simp⟩,(λi x C=>by cases C),.inl rfl⟩ Ω (Agr _)
 exact⟨l,s,e,i3,i4⟩
structure Af0(N:Nat)(b:AF)(s:AH)(in_:AX)(o1:List xq)(gs:List A8)(o2:List xq)(inn:xq)(ms:List AM)(z:List xq×List AY×List A8×xq)(ns:xq):Prop where
 eg:Hn N (⟨b,in_,s,([]:List AM),(List.replicate ((b.A.length:Int)).toNat (0:Int)),([]:List AY)⟩:AS)=some gs
 ez:GJ N (⟨b,in_,(⟨s.B,o2,s.P,s.F,gs,inn,s.O⟩:AH),ms,(List.replicate ((b.A.length:Int)).toNat (0:Int)),([]:List AY)⟩:AS)=some z
 nl:ns.length=b.A.length
 n0:∀n∈ns,0<=n
 ms_:ms=VM s.B b.I.length 0 ns
 at3:∀(p:Nat) x n,o1[p]? =some x->ns[p]? =some n->z.1[p]? =some (Gh (Gh x (v1 b.I.length n)) (SZ b.I.length s.B s.F p))
 own:J4 b.A.length b.I.length z.1
 rest:z.2.1=Kf s.B s.F
 pk:z.2.2.2=z.1.map List.sum
 gl:z.2.2.1.length=b.E.length
 inn_:inn=Gh s.K (v1 b.I.length ns.sum)
 tot:Fa z.1+GR (Kf s.B s.F)=Fa s.D+GR s.F+ns.sum
 tot2:Fa s.D+GR s.F+ns.sum<=1125899906842624
 pw:XI in_.U ns
 max_:ns.sum=Yp in_.U b.A.length\/Fa s.D+GR s.F+ns.sum=1125899906842624\/s.K.sum+ns.sum=1152921504606846976
 ins:s.K.sum+ns.sum<=1152921504606846976
def iC{N:Nat}(hN:18446744073709551616<N){b:AF}(C:Ii b)(G:∀l∈b.E,LA b l)(ae:∀p∈b.A,JV b p)(d:Afq b s)(hq:s.F.length<=4000000000000)(h1:in_.Ab.length<=1000)(h2:in_.Ac.length<=1000)(h3:in_.V.length<=1000){q:List xq}(h4:∀j:List A8,ET N (⟨b,in_,({ s with Q:=j}:AH),([]:List AM),(List.replicate ((b.A.length:Int)).toNat (0:Int)),([]:List AY)⟩:AS)=some q)(H:J4 b.A.length b.I.length q)(J:Fa q=Fa s.D):
  ∃j m g ms z M,Hy N b s in_=Fb N b in_ s (m,g,ms) z (Fd N s (m,g,ms) z) N 0 z.1 s.P s.O ms ([]:List AY)/\Af0 N b s in_ q j m g ms z M:=by
 have hP:=C.pl;have hL:=C.li;have hW:=C.own;have U:=C.own1;have i:8000000000000<N:=Ω
 unfold Hy;rw[WD i (by have:=d.own.len;omega) (λx X=>by have:=(d.own.all x X).len;omega) (by have:=d.rem;omega) (by have:=d.gates;omega) (by have:=d.inn;omega) (by have:=d.out;omega),Agm,Lu Ω _ (by decide)];have Y:cH b.E.length s.Q (Agb s):=⟨d.gates,λk hk=>by
  have:k<s.Q.length:=by rw[d.gates];exact hk
  simp[Agb,Ahc,this]⟩
 obtain⟨j,eg,hg⟩:=jX i (w:=(⟨b,in_,s,([]:List AM),(List.replicate ((b.A.length:Int)).toNat (0:Int)),([]:List AY)⟩:AS)) rfl (show b.E.length<=1000 from Ω) h1 h2 Y;rw[eg,Agm];have Z:=h4 j;rw[Z,Agm];obtain⟨M,⟨a,c,ms,m,g⟩,ey,⟨q1,q2,q3,q4,q5,q6,⟨q7,q8⟩,q9,⟨aa,ab⟩,ac⟩,qp,qm⟩:=oR i (w:=(⟨b,in_,(⟨s.B,q,s.P,s.F,j,s.K,s.O⟩:AH),([]:List AM),(List.replicate ((b.A.length:Int)).toNat (0:Int)),([]:List AY)⟩:AS)) (W:=b.I.length) rfl U hW hP H hq d.que (by show Fa q+GR s.F<=_;rw[J];exact d.tot) d.inn d.inn0 d.inns rfl;simp only at q1 q2 q3 q4 q5 q6 q7 q8 q9 aa ab ac qm ey;rw[ey,Agm];obtain⟨z,ez,⟨t,u,o,v,ad⟩,y⟩:=zZ i (w:=(⟨b,in_,(⟨s.B,m,s.P,s.F,j,g,s.O⟩:AH),ms,(List.replicate ((b.A.length:Int)).toNat (0:Int)),([]:List AY)⟩:AS)) (W:=b.I.length) rfl hW hP hL G q4 hq d.que (by show Fa m+GR s.F<=_;omega) (PC _ _) hg.1;simp only at t u o v ad y;rw[ez,Agm];exact⟨j,m,g,ms,z,M,rfl,⟨eg,ez,q1,q2,q3,λp x n X hn=>u p _ (q5 p x n X hn),t,o,v,y,q9,by rw[<-o];omega,Ω,qp,Ω,Ω⟩⟩
def oJ{N:Nat}(hN:18446744073709551616<N){b:AF}(y:Ii b)(C:∀l∈b.E,LA b l)(g:∀p∈b.A,JV b p)(Z:Afq b s)(hq:s.F.length<=4000000000000)(h1:in_.Ab.length<=1000)(h2:in_.Ac.length<=1000)(h3:in_.V.length<=1000)(h4:∀gs:List A8,ET N (⟨b,in_,({ s with Q:=gs}:AH),([]:List AM),(List.replicate ((b.A.length:Int)).toNat (0:Int)),([]:List AY)⟩:AS)=some o1)(aa:J4 b.A.length b.I.length o1)(ab:Fa o1=Fa s.D):
  ∃r d o3 l,Hy N b s in_=some r/\Yg N b s in_.V o1 r d o3 l/\Fa o3+GR (Kf s.B s.F)=Fa s.D+GR s.F+d.sum/\XI in_.U d/\(d.sum=Yp in_.U b.A.length\/Fa s.D+GR s.F+d.sum=1125899906842624\/s.K.sum+d.sum=1152921504606846976)/\s.K.sum+d.sum<=1152921504606846976:=by
 have hP:=y.pl;have hL:=y.li;have hW:=y.own;have ad:=y.own1;have ae:8000000000000<N:=Ω
 obtain⟨gs,v,a,ms,z,d,eS,h⟩:=iC hN y C g Z hq h1 h2 h3 h4 aa ab;have q1:=h.nl;have q2:=h.n0;have q3:=h.ms_;have q:=h.own;have G:=h.rest;have J:=h.pk;have ac:=h.gl;have k1:=h.tot;have k2:=h.tot2;have af:=Wa s.B b.I.length d 0;obtain⟨⟨o,rm,out,c,sn⟩,⟨l,i1,j,u,M⟩,e⟩:=EO b.A.length (λn i (t:List xq×xq×xq×List AM×List AY)=>Fb N b in_ s (v,a,ms) z (Fd N s (v,a,ms) z) n i t.1 t.2.1 t.2.2.1 t.2.2.2.1 t.2.2.2.2) (λt=>Fd N s (v,a,ms) z t.1 t.2.1 t.2.2.1 t.2.2.2.1 t.2.2.2.2) (λk t=>∃l,t.2.1.length=b.A.length/\Aeb b s.B N b.I.length k z.1 s.O ms t.1 t.2.2.1 t.2.2.2.1 t.2.2.2.2 l/\mX b.I.length t.2.2.1 t.2.2.2.1 t.2.2.2.2 (64+k*(in_.V.length+b.E.length+2))/\Aeq N b s.B in_.V z.1 k t.1 l) (λn k t X=>by
  simp only[Fb];rw[Ek X];rfl) (λn k t hi X=>by
  obtain⟨o,rm,out,c,sn⟩:=t;obtain⟨l,i1,j,u,M⟩:=hi;simp only at i1 j u M;simp only[Fb];have Y:k*(in_.V.length+b.E.length+2)<=64*(1000+96+2):=Ajm Ω Ω;obtain⟨r,l',er,r1,r2,r3,r5,r4⟩:=kA hN (w:=(⟨b,in_,(⟨s.B,o,rm,z.2.1,z.2.2.1,a,out⟩:AH),c,z.2.2.2,sn⟩:AS)) (H:=s.B) (W:=b.I.length) rfl Ω (by show b.E.length<=_;omega) h3 C g ac (by show z.2.2.2.length=_;rw[J,Ajt];exact q.len) i1 X j.ox u Ω;rw[ER X,Ago,er,Agm,BA Ω];have hM:64+(k+1)*(in_.V.length+b.E.length+2)=64+k*(in_.V.length+b.E.length+2)+(in_.V.length+b.E.length+2):=by rw[Aij];omega
  exact⟨(_,_,_,_,_),⟨l++l',r1,j.next r2,by rw[hM];exact u.next r2 r3,M.next X r2 r5 r4⟩,rfl⟩) N 0 (z.1,s.P,s.O,ms,[]) ⟨[],Z.rem,⟨λm hm=>(by cases hm),.nil,by simp,rfl,rfl,rfl,trivial,q,Z.out,by simp[Lv]⟩,⟨Z.out,by show ms.length<=_;rw[q3];omega,by simp⟩,⟨λp hp=>Ω,λp _=>⟨rfl,rfl⟩,λp _ hp=>Ω⟩⟩ Ω (Agr _)
 rw[eS,show Fb N b in_ s (v,a,ms) z (Fd N s (v,a,ms) z) N 0 z.1 s.P s.O ms ([]:List AY)=Fd N s (v,a,ms) z o rm out c sn from e];simp only at j u;have Y:b.A.length*(in_.V.length+b.E.length+2)<=64*(1000+96+2):=Ajm hP Ω;have ag:=u.sn;have ah:=u.mv;have ai:z.2.1.length<=s.F.length:=by rw[G];exact List.length_filter_le _ _
 unfold Fd;rw[Fu Ω];refine⟨_,d,z.1,l,rfl,⟨q1,by show c.length<=_;omega,by show c.length<=_;omega,q2,h.at3,q,Ω,J,?_,?_,rfl,h.inn_,M.tk,λp hp x hx=>M.cap p hp hp x hx⟩,h.tot,h.pw,h.max_,h.ins⟩
 ·rw[<-j.sn_,<-q3];exact j
 ·show z.2.1++sn=_
  rw[G,j.sn_]
def Sb.at_:∀{l:List AM}{o:List xq},Sb l o->∀(j:Nat)(b:j<l.length),∃x,(Ra o (l.take j))[(l[j]).J.toNat]? =some x/\Yq (l[j]).N x
 |m::l,o,b,0,_=>b.1
 |m::l,o,b,j+1,a=>Sb.at_ (l:=l) b.2 j (by simpa using a)
def Z7{H:Int}{W:Nat}:∀{l:xq}{i:Nat}{m:AM},m∈VM H W i l->∃(k:Nat)(n:Int),n∈l/\0<n/\m=⟨H, -1,(k:Int), -4,v1 W n⟩
 |[],_,m,g=>by cases g
 |a::l,i,m,g=>by
  rw[VM]at g;rcases Ahi.1 g with g|g
  ·split at g
   ·rename_i h0;exact⟨i,a,Ahf ..,h0,Aho.1 g⟩
   ·cases g
  ·obtain⟨k,n,b,c,d⟩:=Z7 g;exact⟨k,n,Aht _ b,c,d⟩
def bG{P W:Nat}{t:Int}{q:List AY}(a:QX P W q){p:Nat}:∀k,k<=q.length->(SZ W t (q.take k) p).length=W/\∀x∈SZ W t (q.take k) p,0<=x
 |0,_=>⟨by simp[SZ],λx g=>(PX.zero W).nn x g⟩
 |k+1,i=>by
  obtain⟨b,c⟩:=bG a k Ω;rw[TG Ω];split
  ·have d:=(a _ (Agy (show k<q.length from Ω))).1;exact⟨LY b d.len,Qf c d.nn⟩
  ·exact⟨b,c⟩
def Re(o:Nat)(ms:List AM):Int:=(ms.map λm=>m.N.getD o 0).sum
def Vc{W:Nat}{x:xq}(c:x.length=W)(d:y.length=W)(g:o<W):(JZ x y).getD o 0=x.getD o 0-y.getD o 0:=by
 have a:o<x.length:=Ω
 have b:o<y.length:=Ω
 unfold JZ;simp[Ahc,Aiv,a,b]
def Qg{W:Nat}{x:xq}(c:x.length=W)(d:y.length=W)(g:o<W):(Gh x y).getD o 0=x.getD o 0+y.getD o 0:=by
 have a:o<x.length:=Ω
 have b:o<y.length:=Ω
 unfold Gh;simp[Ahc,Aiv,a,b]
def TB(o:Nat)(w:List xq):Int:=(w.map λx=>x.getD o 0).sum
def Ri(o:Nat)(q:List AY):Int:=(q.map λl=>l.N.getD o 0).sum
def dU{w:List xq}(a:k<w.length):TB o (w.take (k+1))=TB o (w.take k)+(w[k]).getD o 0:=MB (f:=λx:xq=>x.getD o 0) a
def dT{q:List AY}(a:k<q.length):Ri o (q.take (k+1))=Ri o (q.take k)+(q[k]).N.getD o 0:=MB (f:=λl:AY=>l.N.getD o 0) a
def lS(o:Nat)(a b:List AY):Ri o (a++b)=Ri o a+Ri o b:=by unfold Ri;rw[Ah5,Ah9]
def lT{w:List xq}{x:xq}(a:w[k]? =some x):TB o (upd w (k:Int) y)=TB o w-x.getD o 0+y.getD o 0:=by
 have b:=(Ag0.1 a).1;have c:=(Ag0.1 a).2;unfold TB upd;rw[Ahl,List.map_set,O8 (by simpa using b),List.getElem_map,c]
def Zs{N W:Nat}(w:8000000000000<N)(y:W<=1000){p q:xq}(z:p.length=W)(A:q.length=W)(u:∀x∈p, -2305843009213693952<=x/\x<=2305843009213693952)(v:∀x∈q, -2305843009213693952<=x/\x<=2305843009213693952):KH N p q=some (Gh p q):=by
 unfold KH;have o:min (p.length:Int) (q.length:Int)=(q.length:Int):=Ω
 obtain⟨s,⟨t,j,l⟩,e⟩:=EO q.length (λn i s=>Gs N q p n i s) (λs=>some s) (λk s=>s.length=p.length/\(∀i,k<=i->s[i]? =p[i]?)/\∀i,i<k->s[i]? =(Gh p q)[i]?) (λn k s c=>by
  simp only[Gs];rw[o,Ek c];rfl) (λn k s g c=>by
  obtain⟨t,j,l⟩:=g;simp only[Gs];have a:k<s.length:=Ω
  have b:k<p.length:=Ω
  have m:s[k]=p[k]:=by
   have:=j k (Ag5 _);rw[Agw a,Agw b]at this;exact Ags this
  have B:=u _ (Agy b);have C:=v _ (Agy c);rw[o,ER c,Ago,BC a,Agm,Agm,BC c,Agm,m,TH N Ω Ω Ω Ω,Agm,Agm,Agm,BA Ω];refine⟨_,⟨by rw[Ni];exact t,λi g=>by rw[JA Ω];exact j i Ω,λi g=>?_⟩,rfl⟩;by_cases d:k=i
  ·subst d;rw[HO a,Gh,Aiv,Agw b,Agw c]
  ·rw[JA d];exact l i Ω) N 0 p ⟨rfl,λi _=>rfl,λi g=>Ω⟩ Ω (Agr _)
 have:s=Gh p q:=Ah1 λi=>by
  rcases Ag7 i q.length with D|D
  ·exact l i D
  ·rw[Ahj Ω,Ahj (by simp[Gh];omega)]
 subst this;exact e
def PX.bd{W:Nat}{p:xq}(b:PX W p):∀x∈p, -2305843009213693952<=x/\x<=2305843009213693952:=λx a=>by
 have:=b.mem a;omega
def oC{N W:Nat}(x:8000000000000<N)(y:W<=1000)(b:J4 P W s.D)(M:P<=1000)(Q:s.F.length<=4000000000000)(j:QX P W s.F)(p:s.K.length=W)(U:Fa s.D+GR s.F<=1125899906842624):∃v,MS N s=some v/\PX W v/\v.sum=Fa s.D+GR s.F/\∀o,o<W->v.getD o 0=TB o s.D+Ri o s.F:=by
 have B:=b.len;have C:=b.sum0;have q:=(FP j 0).2;rw[Ah4,show GR ([]:List AY)=0 from rfl]at q;have G:List.replicate ((s.K.length:Int)).toNat (0:Int)=List.replicate W 0:=by rw[p];rfl
 have t:∀o,o<W->(List.replicate W (0:Int)).getD o 0=0:=λo b=>by rw[Ahc,Aiy,Agp b];rfl
 unfold MS;rw[Lu Ω _ (by decide),G];obtain⟨a,⟨d,l,m⟩,H⟩:=EO s.D.length (λn i a=>HG N s (HH N s) n i a) (HH N s) (λk a=>PX W a/\a.sum=Fa (s.D.take k)/\∀o,o<W->a.getD o 0=TB o (s.D.take k)) (λn k a c=>by
  simp only[HG];rw[Ek c];rfl) (λn k a u c=>by
  obtain⟨d,l,m⟩:=u;have g:=b.all _ (Agy c);have w:=Nk b (k+1);rw[No c]at w ⊢;simp only[HG];rw[ER c,Ago,BC c,Agm,Zs x y d.len g.len d.bd g.bd,Agm,BA Ω];refine⟨_,⟨d.add g Ω,by rw[I9 (d.len.trans g.len.symm),l],λo b=>?_⟩,rfl⟩;rw[Qg d.len g.len b,dU c,m o b]) N 0 (List.replicate W 0) ⟨PX.zero W,by simp[Fa],λo b=>by rw[t o b];rfl⟩ Ω (Agr _)
 rw[show HG N s (HH N s) N 0 (List.replicate W 0)=HH N s a from H];rw[Ahe]at l m;unfold HH;obtain⟨v,⟨I,z,A⟩,J⟩:=EO s.F.length (λn i a=>Hx N s (Jn N) n i a) (Jn N) (λk a=>PX W a/\a.sum=Fa s.D+GR (s.F.take k)/\∀o,o<W->a.getD o 0=TB o s.D+Ri o (s.F.take k)) (λn k a c=>by
  simp only[Hx];rw[Ek c];rfl) (λn k a u c=>by
  obtain⟨d,l,m⟩:=u;have g:=(j _ (Agy c)).1;have w:=FP j (k+1);rw[Mu c]at w ⊢;simp only[Hx];rw[ER c,Ago,BC c,Agm,Zs x y d.len g.len d.bd g.bd,Agm,BA Ω];refine⟨_,⟨d.add g Ω,by rw[I9 (d.len.trans g.len.symm),l];omega,λo b=>?_⟩,rfl⟩;rw[Qg d.len g.len b,dT c,m o b];omega) N 0 a ⟨d,by rw[l];simp[GR],λo b=>by rw[m o b];simp[Ri]⟩ Ω (Agr _)
 rw[Ahe]at z A;exact⟨v,J,I,z,A⟩
def dC(m:AM):Bool:=decide (m.C<0)
def UV(b:AF)(H:Int)(o:Nat):∀(l:List AM),Ri o (l.filterMap (MN b H))+Re o (l.filter dC)=Re o l/\GR (l.filterMap (MN b H))+Lv (l.filter dC)=Lv l
 |[]=>⟨rfl,rfl⟩
 |m::l=>by
  obtain⟨i,j⟩:=UV b H o l;have g:∀l,Re o (m::l)=m.N.getD o 0+Re o l:=λl=>by unfold Re;rw[Ag9,Ahs]
  have a:∀l,Lv (m::l)=m.N.sum+Lv l:=λl=>by unfold Lv;rw[Ag9,Ahs]
  by_cases k:m.C<0
  ·rw[List.filterMap_cons_none (by unfold MN;rw[Agp k]),Akj (by unfold dC;simpa using k),g,g,a,a];omega
  ·rw[List.filterMap_cons_some (b:=(⟨BO (BO (H+1)+Q6 b m.J.toNat m.Be),m.C,m.N⟩:AY)) (by unfold MN;rw[Agn k]),Akf (by unfold dC;simpa using k),g,a];have c:∀(x:AY) l,Ri o (x::l)=x.N.getD o 0+Ri o l:=λx l=>by unfold Ri;rw[Ag9,Ahs]
   have d:∀(x:AY) l,GR (x::l)=x.N.sum+GR l:=λx l=>by unfold GR;rw[Ag9,Ahs]
   rw[c,d];simp only;omega
def Wn{W:Nat}{l:List AM}(b:∀m∈l,PX W m.N):0<=Lv l:=by
 unfold Lv;exact T4 (f:=λm:AM=>m.N.sum) λm a=>(b m a).sum0
def ZD{N W:Nat}(d:8000000000000<N)(j:W<=1000):∀{l:List AM}{out:xq},(∀m∈l,PX W m.N)->out.length=W->(∀x∈out,0<=x)->out.sum+Lv l<=2305843009213693952->(Sx N out l).length=W/\(∀x∈Sx N out l,0<=x)/\(Sx N out l).sum=out.sum+Lv (l.filter dC)/\∀o,o<W->(Sx N out l).getD o 0=out.getD o 0+Re o (l.filter dC)
 |[],out,_,b,h0,_=>⟨b,h0,by show out.sum=out.sum+0;omega,λo _=>by show out.getD o 0=out.getD o 0+0;omega⟩
 |m::l,out,c,b,h0,q=>by
  have a:=c m (.head _);have s:=Wn (l:=l) λm a=>c m (.tail _ a);have k:∀l,Lv (m::l)=m.N.sum+Lv l:=λl=>by unfold Lv;rw[Ag9,Ahs]
  have g:∀o l,Re o (m::l)=m.N.getD o 0+Re o l:=λo l=>by unfold Re;rw[Ag9,Ahs]
  rw[k]at q;have t:=a.sum0;rw[show Sx N out (m::l)=Sx N (if m.C<0 then(Hs N out m.N).getD [] else out) l from rfl];by_cases z:m.C<0
  ·rw[Agp z,Wi d Ω (by rw[a.len,b]) (λx n=>by have:=IC h0 x n;have:=h0 x n;omega) a.bd,Aic,Akj (by unfold dC;simpa using z)];have i:(Gh out m.N).sum=out.sum+m.N.sum:=I9 (b.trans a.len.symm);obtain⟨u,v,w,y⟩:=ZD d j (l:=l) (out:=Gh out m.N) (λm a=>c m (.tail _ a)) (LY b a.len) (Qf h0 a.nn) Ω;exact⟨u,v,by rw[w,i,k];omega,λo p=>by rw[y o p,Qg b a.len p,g];omega⟩
  ·rw[Agn z,Akf (by unfold dC;simpa using z)];exact ZD d j (l:=l) (λm a=>c m (.tail _ a)) b h0 Ω
def X5{b:AF}{H:Int}{W o:Nat}(a:o<W):∀{l:List AM}{w:List xq},J4 b.A.length W w->Sb l w->(∀m∈l,∃p,p<b.A.length/\Aea b H W p m)->TB o (Ra w l)+Re o l=TB o w
 |[],w,_,_,_=>by show TB o w+0=_;omega
 |m::l,w,t,y,u=>by
  obtain⟨⟨x,k,n⟩,c⟩:=y;obtain⟨p,B,q⟩:=u m (.head _);have d:=t.all x (Ahx k);have i:=n.sub d;have j:w.getD m.J.toNat []=x:=by rw[Ahc,k];rfl
  have g:∀o l,Re o (m::l)=m.N.getD o 0+Re o l:=λo l=>by unfold Re;rw[Ag9,Ahs]
  have v:upd w m.J (JZ x m.N)=upd w ((m.J.toNat:Nat):Int) (JZ x m.N):=by rw[q.fr,Ahl]
  rw[j]at c;have z:=X5 a (l:=l) (w:=upd w m.J (JZ x m.N)) (t.upd _ i.1) c λm s=>u m (.tail _ s);rw[show Ra w (m::l)=Ra (upd w m.J (JZ (w.getD m.J.toNat []) m.N)) l from rfl,j,g];rw[v,lT k,Vc d.len i.2.2.len a]at z;rw[v];omega
def Acg(N:Nat)(l:BG):Prop:=(0<=l.W/\l.W<=64)/\0<=l.Ag/\l.Ag<=l.W
def Abe.pos{N:Nat}{b:AF}{l:BG}(c:Abe N b l):Acg N l:=by
 by_cases h0:l.H=0
 ·have:=c.gate h0;exact⟨this.2.2.1,this.2.2.2.1⟩
 ·by_cases a:l.H=2
  ·have:=c.pump a;exact⟨⟨Ω,this.2.1.2⟩,this.2.2⟩
  ·have:=c.none_ h0 a;exact⟨Ω,Ω⟩
structure AfX(b:AF)(s:AH)(ts:List FO)(r:AH×List AM×xq)(o3:List xq)(l:List AM):Prop where
 own:J4 b.A.length b.I.length r.1.D
 que:QX b.A.length b.I.length r.1.F
 tot:Fa r.1.D+GR r.1.F+Lv (l.filter dC)=Fa o3+GR (Kf s.B s.F)
 ol:r.1.O.length=b.I.length
 o0:∀x∈r.1.O,0<=x
 os:r.1.O.sum=s.O.sum+Lv (l.filter dC)
 oc:∀o,o<b.I.length->r.1.O.getD o 0=s.O.getD o 0+Re o (l.filter dC)
 col:∀o,o<b.I.length->TB o r.1.D+Ri o r.1.F+Re o (l.filter dC)=TB o o3+Ri o (Kf s.B s.F)
 ql:r.1.F.length<=s.F.length+(64+b.A.length*(ts.length+b.E.length+2))
 l0:0<=Lv (l.filter dC)
def W6{N:Nat}(X:18446744073709551616<N){b:AF}(H:Ii b)(c:Agf b s){u:List FO}{v:List xq}{l:List AM}(h:Yg N b s u J r K v l):AfX b s u r v l:=by
 have Y:=H.own;have g:∀m∈l,PX b.I.length m.N:=λm i=>by obtain⟨p,_,j⟩:=h.lv.mv m i;exact j.px
 have a:QX b.A.length b.I.length (Kf s.B s.F):=λl M=>c.x.que l (Ah7.1 M).1;have d:QX b.A.length b.I.length (l.filterMap (MN b s.B)):=λx k=>by
  obtain⟨m,i,e⟩:=Ajx.1 k;obtain⟨p,_,j⟩:=h.lv.mv m i;unfold MN at e;split at e
  ·cases e
  ·cases e;have:=j.to;exact⟨j.px,by show 0<=m.C;omega,by show m.C<_;omega⟩
 have n:=(FP a 0).2;rw[Ah4,show GR ([]:List AY)=0 from rfl]at n;have q:=(FP c.x.que 0).2;rw[Ah4,show GR ([]:List AY)=0 from rfl]at q;have Q:=c.x.own.sum0;have U:=h.lv.ox.sum0;have Z:=h.lv.tot;have h3:=h.os3;have h4:=c.outs;have h5:=c.x.inns;obtain⟨w,y,z,D⟩:=ZD (N:=N) Ω Ω g c.x.out c.out0 Ω;rw[<-h.lv.out_]at w y z D;have t:=h.ml2;rw[h.lv.ms_,Ahh]at t;refine⟨h.lv.ox,?_,?_,w,y,z,D,λo V=>?_,?_,Wn λm i=>g m (Ah7.1 i).1⟩
 ·rw[h.que];exact λx k=>(Ahi.1 k).elim (a x) (d x)
 ·have:=(UV b s.B 0 l).2;rw[h.que,X3];omega
 ·have W:=(UV b s.B o l).1;have G:=X5 V h.ox3 h.lv.val h.lv.mv;rw[<-h.lv.own]at G;rw[h.que,lS];omega
 ·rw[h.que,Ahh];have W:(Kf s.B s.F).length<=s.F.length:=List.length_filter_le _ _;have G:=List.length_filterMap_le (MN b s.B) l;omega
def TE{N:Nat}(D:18446744073709551616<N){b:AF}(Z:HA N b=some true):Kw b/\VA b/\Hw N b=some true/\FY N b=some true:=by
 obtain⟨v,e,k⟩:=Xy D b;rw[Z]at e;cases e;have k:=k rfl;unfold HA at Z;obtain⟨Y,_,Z⟩:=bd Z;obtain⟨G,I,Z⟩:=bd Z;obtain⟨J,i,Z⟩:=bd Z;obtain⟨K,j,Z⟩:=bd Z;obtain⟨M,m,Z⟩:=bd Z;obtain⟨Q,n,Z⟩:=bd Z;obtain⟨U,o,Z⟩:=bd Z;obtain⟨V,p,Z⟩:=bd Z;obtain⟨W,q,Z⟩:=bd Z;have a:∀{c:Bool}{x:Option Bool}{d:Bool},cond c (x.bind λy=>some y) (some false)=some d->d=true->c=true/\x=some true:=by
  intro c x d s hd;subst hd;cases c
  ·cases s
  ·cases x with
   |none=>cases s
   |some y=>exact⟨rfl,s⟩
 have t:=Ags Z;have u:=a q t;have w:=a p u.1;have z:=a o w.1;have A:=a n z.1;have B:=a m A.1;have g:=a j B.1;refine⟨k,λl X=>?_,(a i g.1).2,g.2⟩;have C:=dI D k.head k.links g.2 l X;by_cases h0:l.H=0
 ·have:=C.gate h0;exact⟨this.2.2.1,this.2.2.2.1⟩
 ·by_cases F:l.H=2
  ·have:=C.pump F;exact⟨⟨Ω,this.2.1.2⟩,this.2.2⟩
  ·have:=C.none_ h0 F;exact⟨Ω,Ω⟩
def qC{b:AF}(c:Kw b){p:Nat}(d:p<b.A.length)(a:Int):0<=Q6 b p a/\Q6 b p a<=240:=by
 unfold Q6;split
 ·rename_i g;rw[Um (show a.toNat<b.E.length from Ω)];exact(c.links _ (Agy _)).delay
 ·split
  ·exact⟨by decide,by decide⟩
  ·have e:b.A.getD p default=b.A[p]:=by simp[Ahc,d]
   rw[e];exact(c.places _ (Agy _)).delay
def Y0{N:Nat}(C:18446744073709551616<N){b:AF}(i:Kw b)(M:VA b)(c:Yi b s)(hH:s.B<16777216)(V:Hy N b s in_=some r){u:xq}{l:List AM}(h:Yg N b s Q U r u G l)(k1:Fa G+GR (Kf s.B s.F)=Fa s.D+GR s.F+u.sum)(k4:s.K.sum+u.sum<=1152921504606846976):Yi b r.1/\r.1.B=s.B+1:=by
 have j:=i.head.own1;have a:=W6 C i.head c.rg h;obtain⟨H,v⟩:=oH C i.head i.places M c V;have z:=KX h.n0;have hh:=c.rg.hour;have o:r.1.B=s.B+1:=by rw[h.hour,D6 Ω Ω]
 have W:r.1.K.sum=s.K.sum+u.sum:=by rw[h.inn,I9 (by rw[c.rg.x.inn,Mr]),RS j]
 have X:=a.tot;have h3:=h.os3;have Y:=a.l0;have Z:=a.os;have aa:=c.rg.outs;have ab:=KX c.rg.x.inn0;refine⟨⟨⟨⟨a.own,a.que,Ω,H.1,v.1,by rw[h.inn];exact LY c.rg.x.inn (Mr _ _),?_,Ω,a.ol⟩,Ω,λk l g w y=>⟨(v.2 k l g w y).pos,(v.2 k l g w y).tgt⟩,λq d=>?_,a.o0,Ω⟩,H.2,λk l g w y=>(v.2 k l g w y).opn⟩,o⟩
 ·rw[h.inn];refine Qf c.rg.x.inn0 (fJ j z ?_).nn;have ac:=c.rg.x.own.sum0;have A:=(FP c.rg.x.que 0).2;rw[Ah4,show GR ([]:List AY)=0 from rfl]at A;omega
 ·rw[o];rw[h.que]at d;rcases Ahi.1 d with d|d
  ·obtain⟨q1,I⟩:=Ah7.1 d;have I:=Aie I;exact⟨Ω,(c.rg.at_ q q1).2⟩
  ·obtain⟨m,hm,e⟩:=Ajx.1 d;obtain⟨p,hp,t⟩:=h.lv.mv m hm;unfold MN at e;split at e
   ·cases e
   ·cases e;have hd:=qC i hp m.Be;have hf:=t.fr;rw[show p=m.J.toNat from Ω]at hd;refine⟨?_,t.pos⟩;show s.B+1<=BO (BO (s.B+1)+Q6 b m.J.toNat m.Be)
    rw[D6 (n:=s.B+1) Ω Ω,D6 Ω Ω];omega
structure eO(i:AX):Prop where
 rain:i.U.length<=20
 faults:i.Ab.length<=20
 cmds:i.Ac.length<=20
 takes:i.V.length<=20
 swaps:i.Ad.length<=20
structure Vb(b:AF):Prop where
 r:Kw b
 pos:VA b
 p6:b.A.length<=6
 l6:b.E.length<=6
structure Aa0(N:Nat)(b:AF)(s:AH)(i:AX)(y:AH×List AM×xq):Prop where
 er:Hy N b s i=some y
 rg0:Yi b s
 rg:Yi b y.1
 hour:y.1.B=s.B+1
 h0:s.B<16777216
 ml:y.2.1.length<=232
 ql:y.1.F.length<=s.F.length+232
 pl:y.2.2.length=b.A.length
 ex:∃o1 ns o3 l,(∀gs:List A8,ET N (⟨b,i,({ s with Q:=gs}:AH),([]:List AM),(List.replicate ((b.A.length:Int)).toNat (0:Int)),([]:List AY)⟩:AS)=some o1)/\J4 b.A.length b.I.length o1/\o1.map List.sum=s.D.map List.sum/\Yg N b s i.V o1 y ns o3 l/\Fa o3+GR (Kf s.B s.F)=Fa s.D+GR s.F+ns.sum/\s.K.sum+ns.sum<=1152921504606846976
def jL{N:Nat}(g:18446744073709551616<N){b:AF}(c:Vb b)(d:Yi b s)(q:s.B<16777216)(Q:s.F.length<=4000000000000){i:AX}(t:eO i):∃y,Aa0 N b s i y:=by
 obtain⟨U,X,Y,Z,h5⟩:=t;have j:=c.p6;have u:=c.l6;have v:=c.r.head.own;obtain⟨w,k,m,z,C⟩:=iA (N:=N) Ω (b:=b) (s:=s) (in_:=i) (W:=b.I.length) Ω Ω d.rg.x.own;obtain⟨r,D,G,l,n,h,o,_,_,p⟩:=oJ g c.r.head c.r.links c.r.places d.rg.x Ω (in_:=i) Ω Ω Ω k m z;obtain⟨H,J⟩:=Y0 g c.r c.pos d Ω n h o p;have a:=W6 g c.r.head d.rg h;have hm:b.A.length*(i.V.length+b.E.length+2)<=6*28:=Ajm j Ω;have K:=a.ql;have M:=h.ml2;exact⟨r,n,d,H,J,q,Ω,Ω,by rw[h.pk,Ajt,h.ox3.len],w,D,G,l,k,m,C,h,o,p⟩
inductive UD(N:Nat)(b:AF):AH->List AX->List AH->List AM->List xq->AH->Prop
 |nil (s:AH):UD N b s [] [] [] [] s
 |cons {s:AH} {i:AX} {y:AH×List AM×xq} {l:List AX} {ss:List AH} {ms:List AM} {ps:List xq} {t:AH}:Aa0 N b s i y->UD N b y.1 l ss ms ps t->UD N b s (i::l) (y.1::ss) (y.2.1++ms) (y.2.2::ps) t
def UD.app{N:Nat}{b:AF}{i:List AX}{a:List AH}(p:UD N b s l j ms m t)(k:UD N b t i a d g u):UD N b s (l++i) (j++a) (ms++d) (m++g) u:=by
 induction p with
 |nil s=>exact k
 |cons o c n=>rw[Ah0];exact .cons o (n k)
def UD.len{N:Nat}{b:AF}{a:List AH}{d:List xq}(j:UD N b s l a ms d t):a.length=l.length/\d.length=l.length/\ms.length<=232*l.length:=by
 induction j with
 |nil s=>exact⟨rfl,rfl,Agr _⟩
 |cons o c g=>
  have i:=o.ml;simp only[Ain,Ahh];omega
def UD.at{N:Nat}{b:AF}{a:List AH}(v:UD N b s l a ms g t):∀(k:Nat) u,a[k]? =some u->Yi b u/\u.B=s.B+k+1/\u.F.length<=s.F.length+232*l.length:=by
 induction v with
 |nil s=>intro k u v;cases v
 |cons o c i=>
  intro k u d;have m:=o.hour;have n:=o.ql;rw[Ain];cases k with
  |zero=>cases d;exact⟨o.rg,Ω,Ω⟩
  |succ k=>obtain⟨j,p,q⟩:=i k u d;exact⟨j,Ω,Ω⟩
def UD.pk{N:Nat}{b:AF}{g:List AH}{d:List xq}(j:UD N b s l g ms d t):∀p∈d,p.length=b.A.length:=by
 induction j with
 |nil s=>intro p a;cases a
 |cons o c i=>
  intro p a;rcases Agv.1 a with rfl|a
  ·exact o.pl
  ·exact i p a
def qA{α}{l r:List α}{x:α}(d:l.drop k=x::r):∃b:k<l.length,l[k]=x/\l.drop (k+1)=r:=by
 have b:k<l.length:=by
  rcases Ag7 k l.length with a|a
  ·exact a
  ·rw[Ais a]at d;cases d
 rw[Ai2 b]at d;injection d with a c
 exact⟨b,a,c⟩
def lL{α}{l:List α}(a:l.drop k=[]):l.length<=k:=by
 simpa using a
def ZM{N:Nat}{b:AF}{p:List xq}(I:UD N b s l j ms p t):∀(k n:Nat)(a:List AH)(d:List AM)(g:List xq),ins.drop k=l->l.length<n->k+l.length<=100000->a.length+l.length<=100000->d.length+232*l.length<=100000->g.length+l.length<=100000->Hz N b ins kj n a d g (k:Int) s.B s.D s.P s.F s.Q s.K s.O=kj (a++j) (d++ms) (g++p):=by
 induction I with
 |nil s=>
  intro k n a d g hd q _ _ _ _;obtain⟨m,rfl⟩:∃m,n=m+1:=⟨n-1,by simp at q;omega⟩
  simp only[Hz];rw[Ek (lL hd),Agq,Ahz,Ahz,Ahz]
 | @cons s i y l j ms p t o c v=>
  intro k n a d g hd q h0 w x z;rw[Ain]at q h0 w x z;obtain⟨m,rfl⟩:∃m,n=m+1:=⟨n-1,Ω⟩
  obtain⟨u,A,C⟩:=qA hd;have G:Hy N b (⟨s.B,s.D,s.P,s.F,s.Q,s.K,s.O⟩:AH) i=some y:=o.er;have H:=o.ml;simp only[Hz];rw[ER u,Ago,BC u,Agm,A,G,Agm,Fu Ω,Fu Ω,Fu Ω,BA Ω];rw[v (k+1) m (a++[y.1]) (d++y.2.1) (g++[y.2.2]) C Ω Ω (by simp;omega) (by simp;omega) (by simp;omega)];simp
structure eN(W:Nat)(φ:xq->Int):Prop where
 add:∀{a b:xq},a.length=W->b.length=W->φ (Gh a b)=φ a+φ b
 sub:∀{a b:xq},a.length=W->b.length=W->φ (JZ a b)=φ a-φ b
def eN.zero{W:Nat}{d:xq->Int}(g:eN W d):d (List.replicate W 0)=0:=by
 have c:=g.add (a:=List.replicate W 0) (b:=List.replicate W 0) Aju Aju;rw[Si Aju]at c;omega
def pC{W:Nat}(c:o<W):eN W λx=>x.getD o 0:=⟨λa b=>Qg a b c,λa b=>Vc a b c⟩
def pB(W:Nat):eN W List.sum:=⟨λa b=>I9 (a.trans b.symm),λa b=>UG (a.trans b.symm)⟩
def Y9(a:xq->Int)(p:Int)(q:List AY):Int:=(q.map λl=>if l.C=p then a l.N else 0).sum
def X9(a:xq->Int)(p:Int)(q:List AM):Int:=(q.map λl=>if l.C=p then a l.N else 0).sum
def YA(a:xq->Int)(p:Int)(q:List AM):Int:=(q.map λl=>if l.J=p then a l.N else 0).sum
def aE(a:xq->Int)(p:Int)(l:AY)(q:List AY):Y9 a p (l::q)=(if l.C=p then a l.N else 0)+Y9 a p q:=by unfold Y9;rw[Ag9,Ahs]
def Uj(a:xq->Int)(p:Int)(l:AM)(q:List AM):X9 a p (l::q)=(if l.C=p then a l.N else 0)+X9 a p q:=by unfold X9;rw[Ag9,Ahs]
def Uk(a:xq->Int)(p:Int)(l:AM)(q:List AM):YA a p (l::q)=(if l.J=p then a l.N else 0)+YA a p q:=by unfold YA;rw[Ag9,Ahs]
def oU(c:xq->Int)(p:Int)(a b:List AY):Y9 c p (a++b)=Y9 c p a+Y9 c p b:=by unfold Y9;rw[Ah5,Ah9]
def Qk(c:xq->Int)(p:Int)(a b:List AM):X9 c p (a++b)=X9 c p a+X9 c p b:=by unfold X9;rw[Ah5,Ah9]
def PE(c:xq->Int)(p:Int)(a b:List AM):YA c p (a++b)=YA c p a+YA c p b:=by unfold YA;rw[Ah5,Ah9]
def W5{W:Nat}{u:xq->Int}(d:eN W u)(t:Int)(p:Nat):∀(q:List AY)(a:xq),a.length=W->(∀l∈q,l.N.length=W)->((q.filter λl=>decide (l.Av<=t)&&decide (l.C=(p:Int))).foldl (λa l=>Gh a l.N) a).length=W/\u ((q.filter λl=>decide (l.Av<=t)&&decide (l.C=(p:Int))).foldl (λa l=>Gh a l.N) a)+Y9 u p (Kf t q)=u a+Y9 u p q
 |[],a,b,_=>⟨b,rfl⟩
 |l::q,a,b,m=>by
  have n:=m l (.head _);have i:∀x∈q,x.N.length=W:=λx s=>m x (.tail _ s);rw[aE];by_cases o:l.Av<=t
  ·have j:Kf t (l::q)=Kf t q:=by
    unfold Kf;rw[Akf (by simp;omega)]
   rw[j];by_cases g:l.C=(p:Int)
   ·rw[Akj (by simp[o,g]),List.foldl_cons,Agp g];obtain⟨c,k⟩:=W5 d t p q (Gh a l.N) (LY b n) i;exact⟨c,by rw[k,d.add b n];omega⟩
   ·rw[Akf (by simp[g]),Agn g];obtain⟨c,k⟩:=W5 d t p q a b i;exact⟨c,Ω⟩
  ·have j:Kf t (l::q)=l::Kf t q:=by
    unfold Kf;rw[Akj (by simp;omega)]
   rw[j,aE,Akf (by simp[o])];obtain⟨c,k⟩:=W5 d t p q a b i;exact⟨c,Ω⟩
def jK{b:AF}{H:Int}{W:Nat}{C:xq->Int}(u:eN W C)(p:Nat):∀{l:List AM}{w:List xq},J4 b.A.length W w->Sb l w->(∀m∈l,∃p,p<b.A.length/\Aea b H W p m)->C ((Ra w l).getD p [])+YA C p l=C (w.getD p [])
 |[],w,_,_,_=>by show C (w.getD p [])+0=_;omega
 |m::l,w,v,z,y=>by
  obtain⟨⟨x,k,n⟩,d⟩:=z;obtain⟨q,B,o⟩:=y m (.head _);have g:=v.all x (Ahx k);have i:=n.sub g;have a:w.getD m.J.toNat []=x:=by rw[Ahc,k];rfl
  rw[a]at d;have j:=jK u p (l:=l) (w:=upd w m.J (JZ x m.N)) (v.upd _ i.1) d λm s=>y m (.tail _ s);rw[show Ra w (m::l)=Ra (upd w m.J (JZ (w.getD m.J.toNat []) m.N)) l from rfl,a,Uk];have t:=o.fr;have c:=(Ag0.1 k).1;have e:(upd w m.J (JZ x m.N)).getD p []=if m.J=(p:Int) then JZ x m.N else w.getD p []:=by
   rw[t]at c ⊢;rw[Ahl]at c;rw[Ahc,Ahc];by_cases e:q=p
   ·subst e;rw[Agp rfl,HO c];rfl
   ·rw[Agn Ω,JA e]
  rw[e]at j;by_cases D:m.J=(p:Int)
  ·rw[Agp D]at j ⊢;have:w.getD p []=x:=by rw[<-a,D,Ahl]
   rw[this];rw[u.sub g.len i.2.2.len]at j;omega
  ·rw[Agn D]at j ⊢;omega
def Z5(a:xq->Int)(b:AF)(H:Int)(p:Nat):∀(l:List AM),Y9 a p (l.filterMap (MN b H))=X9 a p l
 |[]=>rfl
 |m::l=>by
  rw[Uj,<-Z5 a b H p l];by_cases c:m.C<0
  ·rw[List.filterMap_cons_none (by unfold MN;rw[Agp c]),Agn Ω];omega
  ·rw[List.filterMap_cons_some (b:=(⟨BO (BO (H+1)+Q6 b m.J.toNat m.Be),m.C,m.N⟩:AY)) (by unfold MN;rw[Agn c]),aE]
def aA{W:Nat}{k:xq->Int}(b:eN W k)(H:Int)(p:Nat):∀(l:xq)(i:Nat),(∀n∈l,0<=n)->X9 k p (VM H W i l)=if i<=p then k (v1 W (l.getD (p-i) 0)) else 0
 |[],i,_=>by
  show(0:Int)=_
  split
  ·show _=k (v1 W 0);rw[Qh,b.zero]
  ·rfl
 |a::l,i,m=>by
  have j:=m a (.head _);rw[VM,Qk,aA b H p l (i+1) λn g=>m n (.tail _ g)];have e:X9 k p (if 0<a then [(⟨H, -1,(i:Int), -4,v1 W a⟩:AM)] else [])=if i=p then k (v1 W a) else 0:=by
   by_cases h0:0<a
   ·rw[Agp h0,Uj];show(if(i:Int)=(p:Int) then k (v1 W a) else 0)+0=_
    by_cases e:i=p
    ·rw[Agp e,Agp Ω];omega
    ·rw[Agn e,Agn Ω];rfl
   ·rw[Agn h0];show(0:Int)=_
    split
    ·rw[show a=0 from Ω,Qh,b.zero]
    ·rfl
  rw[e];by_cases c:i=p
  ·subst c;rw[Agp rfl,Agn Ω,Agp (Ag5 _),Nat.sub_self];show _=k (v1 W a)
   omega
  ·rw[Agn c];by_cases d:i<=p
   ·rw[Agp Ω,Agp d,show p-i=(p-(i+1))+1 from Ω,List.getD_cons_succ];omega
   ·rw[Agn Ω,Agn d];rfl
def aC{W:Nat}{o:xq->Int}(b:eN W o)(c:1<=W)(H:Int):∀(l:xq)(i:Nat),(∀n∈l,0<=n)->YA o (-1) (VM H W i l)=o (v1 W l.sum)/\(∀p:Nat,YA o p (VM H W i l)=0)/\X9 o (-1) (VM H W i l)=0
 |[],i,_=>⟨by show(0:Int)=o (v1 W 0);rw[Qh,b.zero],λ_=>rfl,rfl⟩
 |a::l,i,q=>by
  have m:=q a (.head _);obtain⟨g,d,j⟩:=aC b c H l (i+1) λn k=>q n (.tail _ k);rw[VM,PE,Qk,g,j,Ahs,<-fK c,b.add (Mr _ _) (Mr _ _)];by_cases h0:0<a
  ·rw[Agp h0];refine⟨?_,λp=>?_,?_⟩
   ·rw[Uk,Agp rfl];show o (v1 W a)+(0:Int)+_=_
    omega
   ·rw[PE,d,Uk,Agn (by show ¬(-1:Int)=(p:Int);omega)];rfl
   ·rw[Uj,Agn (by show ¬(i:Int)= -1;omega)];rfl
  ·rw[Agn h0,show a=0 from Ω,Qh,b.zero];exact⟨by show(0:Int)+_=_;omega,λp=>by rw[PE,d];rfl,rfl⟩
def ZC{N W:Nat}(d:8000000000000<N)(i:W<=1000){t:xq->Int}(g:eN W t):∀{l:List AM}{out:xq},(∀m∈l,PX W m.N/\ -1<=m.C)->out.length=W->(∀x∈out,0<=x)->out.sum+Lv l<=2305843009213693952->t (Sx N out l)=t out+X9 t (-1) l
 |[],out,_,b,h0,_=>by show t out=t out+0;omega
 |m::l,out,c,b,h0,k=>by
  obtain⟨a,n⟩:=c m (.head _);have o:=Wn (W:=W) (l:=l) λm a=>(c m (.tail _ a)).1;have p:Lv (m::l)=m.N.sum+Lv l:=by unfold Lv;rw[Ag9,Ahs]
  rw[p]at k;have q:=a.sum0;rw[show Sx N out (m::l)=Sx N (if m.C<0 then(Hs N out m.N).getD [] else out) l from rfl,Uj];by_cases u:m.C<0
  ·rw[Agp u,Wi d Ω (by rw[a.len,b]) (λx j=>by have:=IC h0 x j;have:=h0 x j;omega) a.bd,Aic,Agp Ω];have s:(Gh out m.N).sum=out.sum+m.N.sum:=I9 (b.trans a.len.symm);rw[ZC d i g (l:=l) (out:=Gh out m.N) (λm a=>c m (.tail _ a)) (LY b a.len) (Qf h0 a.nn) Ω,g.add b a.len];omega
  ·rw[Agn u,Agn Ω,ZC d i g (l:=l) (λm a=>c m (.tail _ a)) b h0 Ω];omega
def Ad4(a:xq->Int)(p:Nat)(s:AH):Int:=a (s.D.getD p [])+Y9 a p s.F
structure VD(P:Nat)(φ:xq->Int)(s:AH)(ms:List AM)(t:AH):Prop where
 at_:∀p,p<P->Ad4 φ p t=Ad4 φ p s+X9 φ p ms-YA φ p ms
 inn:φ t.K=φ s.K+YA φ (-1) ms
 out:φ t.O=φ s.O+X9 φ (-1) ms
def VD.nil(P:Nat)(a:xq->Int)(s:AH):VD P a s [] s:=⟨λp _=>by show _=_+0-0;omega,by show _=_+0;omega,by show _=_+0;omega⟩
def VD.app{d:xq->Int}{a c:List AM}(g:VD P d s a t)(k:VD P d t c u):VD P d s (a++c) u:=
 ⟨λp b=>by rw[k.at_ p b,g.at_ p b,Qk,PE];omega,by rw[k.inn,g.inn,PE];omega,by rw[k.out,g.out,Qk];omega⟩
def X8{N:Nat}(hN:18446744073709551616<N){b:AF}(Q:Vb b)(d:eN b.I.length φ){v:List xq}(w:Yi b s)(x1:J4 b.A.length b.I.length v)(hO:∀p,p<b.A.length->φ (v.getD p [])=φ (s.D.getD p [])){y:AH×List AM×xq}{i:xq}{l:List AM}(h:Yg N b s Z v y i U l):VD b.A.length φ s y.2.1 y.1:=by
 have hW:=Q.r.head.own;have z:=Q.r.head.own1;have j:=w.rg.x;have c:=h.lv;have G:∀l∈s.F,l.N.length=b.I.length:=λl n=>(j.que l n).1.len;obtain⟨r1,r2,r3⟩:=aC d z s.B i 0 h.n0;have H:YA φ (-1) l=0:=by
  have:∀l:List AM,(∀m∈l,m.J≠ -1)->YA φ (-1) l=0:=λl n=>by
   induction l with
   |nil=>rfl
   |cons m l ih=>rw[Uk,Agn (n m (.head _)),ih λm o=>n m (.tail _ o)];rfl
  exact this l λm o=>by obtain⟨p,_,g⟩:=c.mv m o;have:=g.fr;omega
 refine⟨λp g=>?_,?_,?_⟩
 ·obtain⟨x,_,q,t⟩:=x1.ix g;have u:p<i.length:=by rw[h.nl];exact g
  have V:=h.at3 p x _ q (Agw u);have g1:U.getD p []=Gh (Gh x (v1 b.I.length i[p])) (SZ b.I.length s.B s.F p):=by rw[Ahc,V];rfl
  have g2:v.getD p []=x:=by rw[Ahc,q];rfl
  have g3:i.getD p 0=i[p]:=by simp[Ahc,u]
  obtain⟨W,X⟩:=W5 d s.B p s.F (List.replicate b.I.length 0) Aju G;have a3:(s.F.filter λl=>decide (l.Av<=s.B)&&decide (l.C=(p:Int))).foldl (λa l=>Gh a l.N) (List.replicate b.I.length 0)=SZ b.I.length s.B s.F p:=rfl;rw[a3]at W X;rw[d.zero]at X;have e1:=jK d p h.ox3 c.val c.mv;rw[<-c.own,g1,d.add (LY t.len (Mr _ _)) W,d.add t.len (Mr _ _)]at e1;have e2:=hO p g;rw[g2]at e2;have Y:=aA d s.B p i 0 h.n0;rw[Agp (Agr _),Nat.sub_zero,g3]at Y;have e4:=Z5 φ b s.B p l;unfold Ad4;rw[c.ms_,Qk,PE,r2 p,Y,h.que,oU,e4];omega
 ·rw[h.inn,d.add j.inn (Mr _ _),c.ms_,PE,r1,H];omega
 ·have V:=h.os3;have h4:=w.rg.outs;have h5:=j.inns;have ht:=c.tot;have aa:=c.ox.sum0;have ab:=j.own.sum0;have K:=(FP j.que 0).2;rw[Ah4,show GR ([]:List AY)=0 from rfl]at K;have k:QX b.A.length b.I.length (Kf s.B s.F):=λl n=>j.que l (Ah7.1 n).1;have M:=(FP k 0).2;rw[Ah4,show GR ([]:List AY)=0 from rfl]at M;rw[c.out_,ZC (N:=N) Ω Ω d (λm o=>by obtain⟨p,_,g⟩:=c.mv m o;have:=g.to;exact⟨g.px,Ω⟩) j.out w.rg.out0 Ω,c.ms_,Qk,r3];omega
def UD.keep{N:Nat}(g:18446744073709551616<N){b:AF}(i:Vb b){k:List xq}(B:UD N b s l j ms k t):VD b.A.length List.sum s ms t:=by
 induction B with
 |nil s=>exact .nil _ _ _
 |cons o c m=>
  obtain⟨n,w,y,l,_,a,q,B,_,_⟩:=o.ex;refine(X8 g i (pB _) o.rg0 a (λp d=>?_) B).app m;have:=Agt (λz:xq=>z.getD p 0) q;simp only[Ahc,Aig]at this ⊢;have u:p<n.length:=by rw[a.len];exact d
  have v:=o.rg0.rg.x.own.len;rw[Agw u,Agw (by rw[v];exact d)]at this ⊢;exact this
def wW{N:Nat}(d:8000000000000<N){b:AF}(a:in_.Ad=[])(c:List A8):ET N (⟨b,in_,({ s with Q:=c}:AH),([]:List AM),(List.replicate ((b.A.length:Int)).toNat (0:Int)),([]:List AY)⟩:AS)=some s.D:=by
 obtain⟨n,rfl⟩:∃n,N=n+1:=⟨N-1,Ω⟩
 unfold ET;simp only[Co,a];rfl
def UD.keepS{N:Nat}(d:18446744073709551616<N){b:AF}(g:Vb b)(j:eN b.I.length C){k:List AH}(D:UD N b s l k ms m t):(∀i∈l,i.Ad=[])->VD b.A.length C s ms t:=by
 induction D with
 |nil s=>exact λ_=> .nil _ _ _
 |cons o c n=>
  intro a;obtain⟨w,x,y,l,q,u,z,D,_,_⟩:=o.ex;have e:=q [];rw[wW Ω (a _ (.head _))]at e;cases e;exact(X8 d g j o.rg0 u (λp B=>rfl) D).app (n λi v=>a i (.tail _ v))
structure Af2(b:AF)(m:AM):Prop where
 px:PX b.I.length m.N
 pos:0<m.N.sum
 fr:m.J= -1\/(0<=m.J/\m.J<b.A.length)
 to:m.C= -1\/(0<=m.C/\m.C<b.A.length)
 ne:m.J= -1->m.C≠ -1
def jA{H:Int}{W:Nat}:∀{l:xq}{i:Nat}{m:AM},m∈VM H W i l->m.J= -1/\(i:Int)<=m.C/\m.C<((i+l.length:Nat):Int)
 |[],_,m,g=>by cases g
 |a::l,i,m,g=>by
  rw[VM]at g;rcases Ahi.1 g with g|g
  ·split at g
   ·rw[Aho.1 g];exact⟨rfl,Ahq _,by simp;omega⟩
   ·cases g
  ·obtain⟨b,c,d⟩:=jA g;exact⟨b,Ω,by rw[Ain];omega⟩
def UD.mvk{N:Nat}{b:AF}(H:Ii b){C:List xq}(h:UD N b s l A ms C t):∀m∈ms,Af2 b m:=by
 have d:=H.own1
 induction h with
 |nil s=>intro m a;cases a
 | @cons s i y Z A ms C t o c J=>
  intro m a;rcases Ahi.1 a with a|a
  ·obtain⟨o1,K,o3,l,_,M,_,h,_,_⟩:=o.ex;have Q:=o.rg0.rg.x;have u:∀n∈K,0<=n/\n<=1125899906842624:=λn D=>by
    refine⟨h.n0 n D,?_⟩;obtain⟨i,G⟩:=Aio.1 D;have v:=(Ag0.1 G).1;obtain⟨x,_,w,g⟩:=M.ix (k:=i) (by rw[<-h.nl];exact v);have z:=h.at3 i x n w G;have U:=(h.ox3.all _ (Ahx z)).mv;have j:=bG Q.que (t:=s.B) (p:=i) s.F.length (Ag5 _);rw[Ahe]at j;rw[I9 (by rw[LY g.len (Mr _ _),j.1]),I9 (by rw[g.len,Mr]),RS d]at U;have:=g.sum0;have:=KX j.2;omega
   rw[h.lv.ms_]at a;rcases Ahi.1 a with a|a
   ·obtain⟨V,k2,k3⟩:=jA a;obtain⟨k,n,W,X,z⟩:=Z7 a;have Y:=h.nl;have e:m.N=v1 b.I.length n:=by rw[z]
    exact⟨by rw[e];exact fJ d Ω (u n W).2,by rw[e,RS d];exact X,.inl V,.inr ⟨Ω,Ω⟩,λ_=>Ω⟩
   ·obtain⟨p,hp,q⟩:=h.lv.mv m a;have:=q.fr;exact⟨q.px,q.pos,.inr ⟨Ω,Ω⟩,q.to,λ_=>Ω⟩
  ·exact J m a
end Go.Proofs.YtabonambpbofgaaGreat
