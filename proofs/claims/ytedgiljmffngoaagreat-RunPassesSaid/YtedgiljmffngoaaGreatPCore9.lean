import Derived.Test.YtedgiljmffngoaaGreatPPureRo
import Derived.Test.YtedgiljmffngoaaGreatPPureRs
import Derived.Test.YtedgiljmffngoaaGreatPCore10
import Derived.ProofKit
import Derived.OpenShut
import Derived.JoinedCond
import Derived.Deep.Slices
namespace Go.Proofs.YtedgiljmffngoaaGreat
set_option linter.all false
open Go.RowKit
def ws (f:AI→Bool) (ms:List AI):Int:=(ms.map λm=>if f m then m.K.sum else 0).sum
def Z5 (f:AI→Bool) (m:AI) (ms:List AI):ws f (m::ms)=(if f m then m.K.sum else 0)+ws f ms:=by unfold ws;rw[Aaz,Aba]
def Qa {f:AI→Bool}{ms:List AI}{k:Nat}(a:k<ms.length):ws f (ms.take (k+1))=ws f (ms.take k)+if f ms[k] then (ms[k]).K.sum else 0:=MM (f:=λm:AI=>if f m then m.K.sum else 0) a
def Pw {b:AE}(f:AI→Bool):∀{ms:List AI},(∀m∈ms,Zk b m)→0≤ws f ms∧ws f ms≤1125899906842624*ms.length
 |[],_=>⟨Aa6 _,by simp [ws]⟩
 |m::ms,i=>by
  have c:=Pw f (ms:=ms) λx a=>i x (.tail _ a);have d:=(i m (.head _)).px.sum0;have g:=(i m (.head _)).px.mv;rw[Z5,Abm];split<;>omega
def Z4 {f g:AI→Bool}{ms:List AI}(b:∀m∈ms,f m=g m):ws f ms=ws g ms:=by
 unfold ws;congr 1;exact Adp λm a=>by rw[b m a]
def lH {f:AI→Bool}{ms:List AI}(c:∀m∈ms,f m=false):ws f ms=0:=by
 induction ms with
 |nil=>rfl
 |cons m ms a=>rw[Z5,c m (.head _),a λx b=>c x (.tail _ b)];rfl
def Rj (b:AE) (o:Int) (m:AI):Bool:=decide (0≤m.D)&&decide (0≤m.B)&& !decide (Jk b m.D=o)&&decide (Jk b m.B=o)
def LO (b:AE) (o:Int) (m:AI):Bool:=decide (0≤m.D)&&decide (Jk b m.D=o)&& !(decide (0≤m.B)&&decide (Jk b m.B=o))&&decide (m.Ap≠ -3)
def ND (b:AE) (o:Int) (m:AI):Bool:=decide (m.D= -1)&&decide (Jk b m.B=o)
def Qy (b:AE) (o:Int) (m:AI):Bool:=decide (0≤m.D)&&decide (m.B= -1)&&decide (Jk b m.D=o)&&decide (m.Ap= -3)
def Ka (b:AE) (o:Int) (m:AI):Bool:=decide (0≤m.D)&&decide (m.B= -1)&&decide (Jk b m.D=o)&&decide (m.Ap≠ -3)
def vR (b:AE) (o:Int) (m:AI):Bool:=decide (0≤m.B)&&decide (Jk b m.B=o)
def WR (b:AE) (o:Int) (m:AI):Bool:=decide (0≤m.D)&&decide (Jk b m.D=o)
def cI {b:AE}(a:Nj b) {p:Int}(h0:0≤p) (c:p<b.A.length):0≤Jk b p∧Jk b p≤2:=by
 obtain⟨k,rfl⟩:∃k:Nat,p=(k:Int):=⟨p.toNat,by omega⟩
 unfold Jk;rw[Abh,Aa5,Aao (by omega)];exact a.off _ (Aap _)
def dB {b:AE}(l:Nj b) {m:AI}(s:Zk b m) {o:Int}(h0:1≤o) (n:o≤2):Rj b o m=LO b (o-1) m:=by
 have p:=s.fr;have q:=s.to;rw[Bool.eq_iff_iff];unfold Rj LO;simp only[Aaa,Aau,Aam,Aat,Ady];constructor
 ·rintro⟨⟨⟨d,j⟩,k⟩,i⟩;rcases s.nx d with ⟨c,a⟩|⟨c,a⟩
  ·rcases a with a|a<;>omega
  ·rcases a with ⟨a,g⟩|⟨a,g,q4⟩<;>omega
 ·rintro⟨⟨⟨d,j⟩,k⟩,i⟩;rcases s.nx d with ⟨c,a⟩|⟨c,a⟩
  ·exact absurd c i
  ·rcases a with ⟨a,g⟩|⟨a,g,q4⟩<;>omega
def yH {b:AE}(g:Nj b) {m:AI}(s:Zk b m):Rj b 0 m=false:=by
 have l:=s.fr;have n:=s.to;cases c:Rj b 0 m with
 |false=>rfl
 |true=>
  unfold Rj at c;simp only[Aaa,Aau,Aam,Aat] at c;obtain⟨⟨⟨d,o⟩,p⟩,q⟩:=c;have k:=cI g d (by omega);rcases s.nx d with ⟨i,a⟩|⟨i,a⟩
  ·rcases a with a|a<;>omega
  ·rcases a with ⟨a,j⟩|⟨a,j,q4⟩<;>omega
def iN {b:AE}(n:Nj b) {m:AI}(q:Zk b m):Ka b 2 m=LO b 2 m:=by
 have o:=q.fr;have p:=q.to;rw[Bool.eq_iff_iff];unfold Ka LO;simp only[Aaa,Aau,Aam,Aat,Ady];constructor
 ·rintro⟨⟨⟨c,g⟩,i⟩,d⟩;exact⟨⟨⟨c,i⟩,.inl (by omega)⟩,d⟩
 ·rintro⟨⟨⟨c,g⟩,i⟩,d⟩;rcases q.nx c with ⟨j,a⟩|⟨j,a⟩
  ·exact absurd j d
  ·rcases a with ⟨a,l⟩|⟨a,l,q4⟩
   ·exact⟨⟨⟨c,a⟩,g⟩,d⟩
   ·have k:=cI n a l;omega
def cM {b:AE}{m:AI}(p:Zk b m) {o:Int}(k:o<2):Ka b o m=false:=by
 cases c:Ka b o m with
 |false=>rfl
 |true=>
  unfold Ka at c;simp only[Aaa,Aam] at c;obtain⟨⟨⟨g,l⟩,n⟩,i⟩:=c;rcases p.nx g with ⟨d,a⟩|⟨d,a⟩
  ·exact absurd d i
  ·rcases a with ⟨a,j⟩|⟨a,j,q4⟩<;>omega
def Z3 {b:AE}(k:Nj b) (o:Int):∀{ms:List AI},(∀m∈ms,Zk b m)→ws (vR b o) ms-ws (WR b o) ms=ws (Rj b o) ms-ws (LO b o) ms+ws (ND b o) ms-ws (Qy b o) ms
 |[],_=>rfl
 |m::ms,j=>by
  have v:=Z3 k o (ms:=ms) λx l=>j x (.tail _ l);have y:=j m (.head _);have n:=y.fr;have p:=y.to;have a:=y.ne;simp only[Z5];have s:(if vR b o m then m.K.sum else 0)-(if WR b o m then m.K.sum else 0)=(if Rj b o m then m.K.sum else 0)-(if LO b o m then m.K.sum else 0)+(if ND b o m then m.K.sum else 0)-(if Qy b o m then m.K.sum else 0):=by
   unfold vR WR Rj LO ND Qy;rcases n with e|⟨e1,e2⟩
   ·have:=a e;have u:0≤m.B:=by omega
    by_cases c:Jk b m.B=o<;>simp [e,c,u]
   ·have g:¬m.D= -1:=by omega
    rcases p with t|⟨t1,t2⟩
    ·by_cases c:Jk b m.D=o<;>by_cases w:m.Ap= -3<;>simp [e1,g,t,c,w]
    ·have i:¬m.B= -1:=by omega
     rcases y.nx e1 with ⟨w,q⟩|⟨w,q⟩
     ·have q:=q.resolve_left i;by_cases c:Jk b m.D=o<;>simp [e1,g,t1,i,c,w,q]
     ·by_cases c:Jk b m.D=o<;>by_cases d:Jk b m.B=o<;>simp [e1,g,t1,i,c,d,w]
  omega
def Qp (b:AE) (o:Int) (f:Nat→Int):Int:=sm (λp=>if Jk b p=o then f p else 0) b.A.length
def ML {b:AE}{o:Int}{f g:Nat→Int}(c:∀p,p<b.A.length→f p=g p):Qp b o f=Qp b o g:=by
 unfold Qp;exact Ol λp a=>by rw[c p a]
def PZ (b:AE) (o:Int) (f g:Nat→Int):Qp b o (λp=>f p+g p)=Qp b o f+Qp b o g:=by
 unfold Qp;rw[←bG];exact Ol λp _=>by split<;>rfl
def Ux (b:AE) (o:Int) {t:Int}(h0:0≤t) (a:t<b.A.length) (c:Int):Qp b o (λp=>if t=(p:Int) then c else 0)=if Jk b t=o then c else 0:=by
 obtain⟨j,rfl⟩:∃j:Nat,t=(j:Int):=⟨t.toNat,by omega⟩
 unfold Qp;rw[Ol (g:=λp=>if p=j then (if Jk b (j:Int)=o then c else 0) else 0) λp _=>by
  by_cases e:p=j
  ·subst e;simp
  ·show(if Jk b (p:Int)=o then (if (j:Int)=(p:Int) then c else 0) else 0)=_
   rw[zY e,zY (show ¬(j:Int)=(p:Int) by omega)];split<;>rfl]
 rw[bF,Aab (by omega)]
def O1 (b:AE) (o:Int):Qp b o (λ_=>0)=0:=by
 unfold Qp;exact(Ol (g:=λ_=>0) λp _=>by split<;>rfl).trans (Xo _)
def wq (b:AE) (o:Int) (q:List AO):Int:=(q.map λl=>if Jk b l.B=o then l.K.sum else 0).sum
def X3 {b:AE}{o:Int}:∀{q:List AO},(∀l∈q,0≤l.B∧l.B<b.A.length)→Qp b o (λp=>X1 List.sum p q)=wq b o q
 |[],_=>O1 b o
 |l::q,d=>by
  have e:Qp b o (λp=>X1 List.sum (p:Int) (l::q))=Qp b o (λp=>(if l.B=(p:Int) then l.K.sum else 0)+X1 List.sum p q):=ML λp _=>X0 _ _ _ _;have a:=d l (.head _);rw[e,PZ,Ux b o a.1 a.2,X3 λx c=>d x (.tail _ c)];unfold wq;rw[Aaz,Aba]
def X4 {b:AE}{o:Int}:∀{ms:List AI},(∀m∈ms,Zk b m)→Qp b o (λp=>VY List.sum p ms)=ws (vR b o) ms
 |[],_=>O1 b o
 |m::ms,d=>by
  have e:Qp b o (λp=>VY List.sum (p:Int) (m::ms))=Qp b o (λp=>(if m.B=(p:Int) then m.K.sum else 0)+VY List.sum p ms):=ML λp _=>WA _ _ _ _;rw[e,PZ,X4 λx a=>d x (.tail _ a),Z5];congr 1;unfold vR;rcases (d m (.head _)).to with t|⟨t1,t2⟩
  ·have:Qp b o (λp=>if m.B=(p:Int) then m.K.sum else 0)=Qp b o (λ_=>0):=ML λp _=>zY (by omega);rw[this,O1,Aan (show ¬0≤m.B by omega)];rfl
  ·rw[Ux b o t1 t2,Aaq t1,Ack];by_cases c:Jk b m.B=o<;>simp [c]
def X5 {b:AE}{o:Int}:∀{ms:List AI},(∀m∈ms,Zk b m)→Qp b o (λp=>VZ List.sum p ms)=ws (WR b o) ms
 |[],_=>O1 b o
 |m::ms,d=>by
  have e:Qp b o (λp=>VZ List.sum (p:Int) (m::ms))=Qp b o (λp=>(if m.D=(p:Int) then m.K.sum else 0)+VZ List.sum p ms):=ML λp _=>WC _ _ _ _;rw[e,PZ,X5 λx a=>d x (.tail _ a),Z5];congr 1;unfold WR;rcases (d m (.head _)).fr with t|⟨t1,t2⟩
  ·have:Qp b o (λp=>if m.D=(p:Int) then m.K.sum else 0)=Qp b o (λ_=>0):=ML λp _=>zY (by omega);rw[this,O1,Aan (show ¬0≤m.D by omega)];rfl
  ·rw[Ux b o t1 t2,Aaq t1,Ack];by_cases c:Jk b m.D=o<;>simp [c]
def Z8 (b:AE) (s:AF) (o:Int):Int:=wq b o s.H+Qp b o (λp=>(s.E.getD p []).sum)
def Z7 {b:AE}(c:Nj b) {s t:AF}(d:Va b s) (g:Va b t) {ms:List AI}(a:∀m∈ms,Zk b m) (n:T0 b.A.length List.sum s ms t) (o:Int):Z8 b t o-Z8 b s o=ws (Rj b o) ms-ws (LO b o) ms+ws (ND b o) ms-ws (Qy b o) ms:=by
 rw[←Z3 c o a,←X4 a,←X5 a];have w:∀u:AF,Va b u→Z8 b u o=Qp b o (λp=>tE List.sum p u):=λu i=>by
  unfold Z8;rw[←X3 λl j=>(i.rg.x.que l j).2,Int.add_comm,←PZ];rfl
 rw[w s d,w t g];have e:Qp b o (λp=>tE List.sum p t+VZ List.sum p ms)=Qp b o (λp=>tE List.sum p s+VY List.sum p ms):=by
  exact ML λp k=>by
   have:=n.at_ p k;omega
 rw[PZ,PZ] at e;omega
def Rg {b:AE}{p:Int}(h0:0≤p) (c:p<b.A.length):∃x,ix b.A p=some x∧x.Ac=Jk b p:=by
 obtain⟨x,a⟩:=Df.ix (l:=b.A) h0 (by omega);exact⟨x,a,(QB a).2.2.symm⟩
def ZO {N:Nat}(F:1000000<N) {b:AE}(V:b.I.length≤16) {ms:List AI}(j:∀m∈ms,Zk b m) (W:ms.length≤4000) (o:Int):Jn N b ms o=some (ws (Rj b o) ms,ws (LO b o) ms):=by
 unfold Jn;obtain⟨t,w,e⟩:=EI ms.length (λn i (t:Int×Int)=>DE N b ms o (E0 N) n t.1 t.2 i) (λt=>E0 N t.1 t.2) (λk t=>t=(ws (Rj b o) (ms.take k),ws (LO b o) (ms.take k))) (λn k t a=>by
  simp only[DE];rw[E5 a];rfl) (λn k t G a=>by
  subst G;have h:=j _ (Aap a);have X:=Pw (Rj b o) (ms:=ms.take k) λm c=>j m (Aca c);have Y:=Pw (LO b o) (ms:=ms.take k) λm c=>j m (Aca c);have Z:(ms.take k).length≤4000:=by rw[Abl];omega
  have H:=h.px.sum0;have J:=h.px.mv;refine⟨_,rfl,?_⟩;simp only;rw[Qa a,Qa a];simp only[DE,F7,Hk];rw[Ef a,zV,BM a,zU,zU,BK (by omega)];generalize ms[k]=m at h H J
  have z:=h.to;rcases h.fr with e|⟨e1,e2⟩
  ·have l:Rj b o m=false:=by unfold Rj;rw[Aan (show ¬0≤m.D by omega)];rfl
   have p:LO b o m=false:=by unfold LO;rw[Aan (show ¬0≤m.D by omega)];rfl
   rw[l,p,Aan (show ¬0≤m.D by omega)];simp
  ·obtain⟨x,c,d⟩:=Rg e1 e2;have M:(cond (decide (m.B≠ -1)) ((ix b.A m.B).bind λq=>some (decide (q.Ac=o))) (some false))=some (decide (0≤m.B)&&decide (Jk b m.B=o)):=by
    rcases z with t|⟨t1,t2⟩
    ·rw[t];rfl
    ·obtain⟨y,Q,s⟩:=Rg t1 t2;rw[Aaq (show m.B≠ -1 by omega),zV,Q,zU,s,Aaq t1,Ack]
   have U:(cond (!(true&&true)) (some true) ((cond (decide (m.B≠ -1)) ((some (decide (0≤m.B)&&decide (m.B<(b.A.length:Int)))).bind λu=>some (!u)) (some false)).bind λv=>some v))=some false:=by
    rcases z with t|⟨t1,t2⟩
    ·rw[t];rfl
    ·rw[Aaq (show m.B≠ -1 by omega),Aaq t1,Aaq t2];rfl
   rw[Aaq e1,Aaq e2,U,zU,zX,c,zU,M,zU,d];have l:Rj b o m=(!(decide (Jk b m.D=o))&&(decide (0≤m.B)&&decide (Jk b m.B=o))):=by
    unfold Rj;rw[Aaq e1,Ack];cases decide (0≤m.B)<;>cases decide (Jk b m.D=o)<;>cases decide (Jk b m.B=o)<;>rfl
   have p:LO b o m=((decide (Jk b m.D=o)&& !(decide (0≤m.B)&&decide (Jk b m.B=o)))&&decide (m.Ap≠ -3)):=by
    unfold LO;rw[Aaq e1,Ack]
   have g:=h.px.total F (by omega);have C:∀i,IJ N o (ws (LO b o) (ms.take k)) m x (decide (0≤m.B)&&decide (Jk b m.B=o)) (F7 N (k:Int) (DE N b ms o (E0 N) n)) i=DE N b ms o (E0 N) n i (ws (LO b o) (ms.take k)+if LO b o m=true then m.K.sum else 0) ((k+1:Nat):Int):=λi=>by
    unfold IJ F7;rw[d,←p,BK (by omega)];cases LO b o m
    ·simp
    ·rw[zV,g,zU,QR N (by omega) (by omega) (by omega) (by omega),zU];rfl
   rw[←l];cases Rj b o m
   ·rw[zX,C];simp
   ·rw[zV,g,zU,QR N (by omega) (by omega) (by omega) (by omega),zU,C];rfl) N 0 (0,0) rfl (by omega) (Aad _)
 rw[Aa9] at w;subst w;exact e
def Z6 {b:AE}{o:Int}:∀{q:List AO},QX b.A.length b.I.length q→0≤wq b o q∧wq b o q≤1125899906842624*q.length
 |[],_=>⟨Aa6 _,by simp [wq]⟩
 |l::q,i=>by
  have c:=Z6 (o:=o) (q:=q) λx a=>i x (.tail _ a);have d:=(i l (.head _)).1.sum0;have g:=(i l (.head _)).1.mv;have e:wq b o (l::q)=(if Jk b l.B=o then l.K.sum else 0)+wq b o q:=by unfold wq;rw[Aaz,Aba]
  rw[e,Abm];split<;>omega
def aH {N:Nat}(u:1000000<N) {b:AE}(w:b.I.length≤16) {q:List AO}(j:QX b.A.length b.I.length q) (y:q.length≤4000) (o:Int):KD N q b o=some (wq b o q):=by
 unfold KD;obtain⟨t,p,e⟩:=EI q.length (λn i t=>EK N q b o (G5 N) n t i) (G5 N) (λk t=>t=wq b o (q.take k)) (λn k t a=>by
  simp only[EK];rw[E5 a];rfl) (λn k t v a=>by
  subst v;obtain⟨G,s,t2⟩:=j _ (Aap a);have z:=Z6 (b:=b) (o:=o) (q:=q.take k) λm d=>j m (Aca d);have C:(q.take k).length≤4000:=by rw[Abl];omega
  have D:=G.sum0;have F:=G.mv;have et:wq b o (q.take (k+1))=wq b o (q.take k)+if Jk b (q[k]).B=o then (q[k]).K.sum else 0:=MM (f:=λl:AO=>if Jk b l.B=o then l.K.sum else 0) a
  refine⟨_,rfl,?_⟩;rw[et];simp only[EK,Io];rw[Ef a,zV,BM a,zU,BK (by omega)];obtain⟨x,d,g⟩:=Rg s t2;rw[O2.2 ⟨s,t2⟩,zV,d,zU,zU,g];by_cases c:Jk b (q[k]).B=o
  ·rw[Aaq c,Aab c,zV,G.total u (by omega),zU,QR N (by omega) (by omega) (by omega) (by omega),zU]
  ·rw[Aan c,zY c,zX,Int.add_zero]) N 0 0 rfl (by omega) (Aad _)
 rw[Aa9] at p;subst p;exact e
def Mx (b:AE) (o:Int):Nat→List Int
 |0=>[]
 |k+1=>Mx b o k++if Jk b (k:Int)=o then [(k:Int)] else []
def RZ {b:AE}{o:Int}:∀k,(Mx b o k).length≤k∧(∀x∈Mx b o k,0≤x∧x<k)∧∀f:Nat→Int,((Mx b o k).map λx=>f x.toNat).sum=sm (λp=>if Jk b p=o then f p else 0) k
 |0=>⟨Aal _,λx a=>(by cases a),λ_=>rfl⟩
 |k+1=>by
  obtain⟨g,c,d⟩:=RZ (b:=b) (o:=o) k;unfold Mx;refine⟨?_,λx a=>?_,λf=>?_⟩
  ·rw[Aas];split<;>simp<;>omega
  ·rcases Aa0.1 a with a|a
   ·have:=c x a;omega
   ·split at a
    ·rw[Abi.1 a];omega
    ·cases a
  ·rw[Abt,Abq,d f,sm];split
   ·simp
   ·simp
def ZS {N:Nat}(s:1000000<N) {b:AE}(t:b.A.length≤64) (o:Int):Jf N b o=some (Mx b o b.A.length):=by
 unfold Jf;obtain⟨l,j,e⟩:=EI b.A.length (λn i l=>D0 N b o (Gk N) n l i) (Gk N) (λk l=>l=Mx b o k) (λn k l a=>by
  simp only[D0];rw[E5 a];rfl) (λn k l m a=>by
  subst m;have g:=(RZ (b:=b) (o:=o) k).1;obtain⟨x,q,d⟩:=Rg (b:=b) (p:=(k:Int)) (by omega) (by omega);refine⟨_,rfl,?_⟩;simp only[D0,IX];rw[Ef a,zV,q,zU,d,BK (by omega),Mx];by_cases c:Jk b (k:Int)=o
  ·rw[Aaq c,Aab c,zV,JY (by omega)]
  ·rw[Aan c,zY c,zX,Aa3]) N 0 [] rfl (by omega) (Aad _)
 subst j;exact e
def T1 {N:Nat}(u:1000000<N) {b:AE}(J:b.I.length≤16) (K:b.A.length≤64) {s:AF}(M:Va b s) (Q:s.H.length≤4000) (o:Int):GR N b s o=some (Z8 b s o)∧0≤Z8 b s o∧Z8 b s o≤5000000000000000000:=by
 have d:=M.rg.x;have hl:=d.own.len;have b1:=Z6 (o:=o) d.que;obtain⟨s1,B,U⟩:=RZ (b:=b) (o:=o) b.A.length;have C:∀x∈Mx b o b.A.length,0≤(s.E.getD x.toNat []).sum∧(s.E.getD x.toNat []).sum≤1125899906842624∧∃y,ix s.E x=some y∧y.sum=(s.E.getD x.toNat []).sum∧Cr N y=some y.sum:=λx v=>by
  obtain⟨h0,V⟩:=B x v;obtain⟨j,rfl⟩:∃j:Nat,x=(j:Int):=⟨x.toNat,by omega⟩
  obtain⟨y,w,z,c⟩:=d.own.ix (k:=j) (by omega);rw[Abh,Aa5,z];exact⟨c.sum0,c.mv,y,w,rfl,c.total u (by omega)⟩
 unfold GR;rw[aH u J d.que Q,zU,ZS u K,zU];have W:=U (λp=>(s.E.getD p []).sum);have q:∀k,0≤(((Mx b o b.A.length).take k).map λx=>(s.E.getD x.toNat []).sum).sum∧(((Mx b o b.A.length).take k).map λx=>(s.E.getD x.toNat []).sum).sum≤1125899906842624*(Mx b o b.A.length).length:=λk=>by
  have g:∀l:List Int,(∀x∈l,x∈Mx b o b.A.length)→0≤(l.map λx=>(s.E.getD x.toNat []).sum).sum∧(l.map λx=>(s.E.getD x.toNat []).sum).sum≤1125899906842624*l.length:=λl=>by
   induction l with
   |nil=>intro _;exact⟨Aa6 _,by simp⟩
   |cons x l X=>
    intro h;have Y:=X λy w=>h y (.tail _ w);obtain⟨Z,D,_⟩:=C x (h x (.head _));rw[Aaz,Aba,Abm];omega
  have:=g ((Mx b o b.A.length).take k) λx d=>Aca d;have h2:((Mx b o b.A.length).take k).length≤(Mx b o b.A.length).length:=by rw[Abl];omega
  omega
 obtain⟨t,F,e⟩:=EI (Mx b o b.A.length).length (λn i t=>Cn N s (Mx b o b.A.length) (Dr N) n t i) (Dr N) (λk t=>t=wq b o s.H+(((Mx b o b.A.length).take k).map λx=>(s.E.getD x.toNat []).sum).sum) (λn k t m=>by
  simp only[Cn];rw[E5 m];rfl) (λn k t hi m=>by
  subst hi;have a:=Aap m;obtain⟨h0,V⟩:=B _ a;obtain⟨Y,Z,y,D,a4,a5⟩:=C _ a;have G:=q k;refine⟨_,rfl,?_⟩;rw[MM (f:=λx:Int=>(s.E.getD x.toNat []).sum) m];simp only[Cn,GQ];rw[Ef m,zV,BM m];simp only[zU];rw[Aaq h0,zV,zU,Aaq (show(Mx b o b.A.length)[k]<(s.E.length:Int) by omega),zV,D,zU,a5,zU,a4,BK (by omega),C7 (by omega) (by omega),Int.add_assoc]) N 0 (wq b o s.H) (by rw[Abv];simp) (by omega) (Aad _)
 have G:=q (Mx b o b.A.length).length;rw[Aa9] at F G;have ew:Z8 b s o=wq b o s.H+((Mx b o b.A.length).map λx=>(s.E.getD x.toNat []).sum).sum:=by
  unfold Z8 Qp;rw[W]
 rw[ew];subst F;exact⟨e,by omega,by omega⟩
def WG {N:Nat}{b:AE}{s:AF}{ins:List Cs}(k:FO N b s ins=some true):Fm N b=some true:=by
 unfold FO at k;have l1:∀(n:Nat) (i:Int),Ch N ins (CT N b s) n i=some true→CT N b s=some true:=by
  intro n
  induction n with
  |zero=>intro i k;cases k
  |succ n a=>
   intro i k;simp only[Ch] at k;cases c:decide (i<(ins.length:Int))<;>rw[c] at k
   ·exact k
   ·rw[zV] at k;obtain⟨x,_,k⟩:=bd k;cases d:((((decide (20<(x.Aa.length:Int))||decide (20<(x.Ah.length:Int)))||decide (20<(x.Aj.length:Int)))||decide (20<(x.Z.length:Int)))||decide (20<(x.Aq.length:Int)))<;>rw[d] at k
    ·exact a _ k
    ·cases k
 cases c:((((decide (6<(b.A.length:Int))||decide (6<(b.F.length:Int)))||decide (20<(s.H.length:Int)))||decide (12<(ins.length:Int)))||decide (16777196<s.C))<;>rw[c] at k
 ·have k:=l1 _ _ k;unfold CT at k;obtain⟨y,g,k⟩:=bd k;obtain⟨z,j,k⟩:=bd k;cases y
  ·cases j;cases k
  ·exact g
 ·cases k
def uG {N:Nat}(z:1000000<N) {b:AE}(W:b.I.length≤16) {ss:List AF}{ps:List (List Int)}{ms:List AI}(q:∀m∈ms,Zk b m) (X:ms.length≤4000) (o:Int) (kj:Int→Int→Int→Option Bool):BW N b (ss,ms,ps) o kj N 0 0 0 0=kj (ws (ND b o) ms) (ws (Qy b o) ms) (ws (Ka b o) ms):=by
 obtain⟨t,v,e⟩:=EI ms.length (λn i (t:Int×Int×Int)=>BW N b (ss,ms,ps) o kj n t.1 t.2.1 t.2.2 i) (λt=>kj t.1 t.2.1 t.2.2) (λk t=>t=(ws (ND b o) (ms.take k),ws (Qy b o) (ms.take k),ws (Ka b o) (ms.take k))) (λn k t a=>by
  simp only[BW];rw[E5 a];rfl) (λn k t C a=>by
  subst C;have h:=q _ (Aap a);have Y:=Pw (ND b o) (ms:=ms.take k) λm d=>q m (Aca d);have Z:=Pw (Qy b o) (ms:=ms.take k) λm d=>q m (Aca d);have b4:=Pw (Ka b o) (ms:=ms.take k) λm d=>q m (Aca d);have b3:(ms.take k).length≤4000:=by rw[Abl];omega
  have F:=h.px.sum0;have G:=h.px.mv;refine⟨_,rfl,?_⟩;simp only;rw[Qa a,Qa a,Qa a];simp only[BW];rw[Ef a,zV,BM a];simp only[zU];have g:=h.px.total z (by omega);generalize ms[k]=m at h F G g
  have H:=h.fr;have ht:=h.to;have s:=h.ne;have J:((((decide (m.D< -1)||decide (m.B< -1))||decide ((b.A.length:Int)≤m.D))||decide ((b.A.length:Int)≤m.B))||(decide (m.D= -1)&&decide (m.B= -1)))=false:=by
   simp only[Aa2,Ady,Aat];omega
  have x:∀i,Dt N b o (ws (Qy b o) (ms.take k)) (ws (Ka b o) (ms.take k)) m m.K.sum (DF N (k:Int) (BW N b (ss,ms,ps) o kj n)) i=BW N b (ss,ms,ps) o kj n i (ws (Qy b o) (ms.take k)+if Qy b o m=true then m.K.sum else 0) (ws (Ka b o) (ms.take k)+if Ka b o m=true then m.K.sum else 0) ((k+1:Nat):Int):=λi=>by
   have M:(cond (decide (0≤m.D)&&decide (m.B= -1)) ((ix b.A m.D).bind λj=>some (decide (j.Ac=o))) (some false))=some ((decide (0≤m.D)&&decide (m.B= -1))&&decide (Jk b m.D=o)):=by
    rcases H with e|⟨e1,e2⟩
    ·rw[Aan (show ¬0≤m.D by omega)];rfl
    ·obtain⟨y,u,c⟩:=Rg e1 e2;rw[u,zU,c];cases (decide (0≤m.D)&&decide (m.B= -1))<;>rfl
   unfold Dt DF;rw[M,zU,BK (by omega),C7 (n:=ws (Qy b o) (ms.take k)+m.K.sum) (by omega) (by omega),C7 (n:=ws (Ka b o) (ms.take k)+m.K.sum) (by omega) (by omega)];have Q:Qy b o m=(((decide (0≤m.D)&&decide (m.B= -1))&&decide (Jk b m.D=o))&&decide (m.Ap= -3)):=rfl;have U:Ka b o m=(((decide (0≤m.D)&&decide (m.B= -1))&&decide (Jk b m.D=o))&&decide (m.Ap≠ -3)):=rfl;rw[Q,U];cases ((decide (0≤m.D)&&decide (m.B= -1))&&decide (Jk b m.D=o))
   ·simp
   ·by_cases w:m.Ap= -3<;>simp [w]
  have V:(cond (decide (m.D= -1)) ((ix b.A m.B).bind λl=>some (decide (l.Ac=o))) (some false))=some (ND b o m):=by
   unfold ND;by_cases e:m.D= -1
   ·have:=s e;obtain⟨y,u,c⟩:=Rg (b:=b) (p:=m.B) (by omega) (by omega);rw[Aaq e,zV,u,zU,c,Ack]
   ·rw[Aan e];rfl
  rw[g,zU,J,zX,V,zU];cases ND b o m
  ·rw[zX,x];simp
  ·rw[zV,C7 (n:=ws (ND b o) (ms.take k)+m.K.sum) (by omega) (by omega),x];rfl) N 0 (0,0,0) rfl (by omega) (Aad _)
 rw[Aa9] at v;subst v;exact e
def Sz {N:Nat}(c:1000000<N) {b:AE}(j:Xc b) (k:Nj b) {s t:AF}(l:Va b s) (p:Va b t) (u:s.H.length≤4000) (g:t.H.length≤4000) {ss:List AF}{ps:List (List Int)}{ms:List AI}(a:∀m∈ms,Zk b m) (q:ms.length≤4000) (v:T0 b.A.length List.sum s ms t) (kj:Option Bool) (n:Nat) {o:Int}(B:0≤o) (C:o≤2):B3 N b s (ss,ms,ps) t kj (n+1) (ws (Rj b o) ms) o=B3 N b s (ss,ms,ps) t kj n (ws (LO b o) ms) (o+1):=by
 have d:=j.r.head.own;have D:=j.p6;obtain⟨w,F,G⟩:=T1 c d (by omega) l u o;obtain⟨x,I,J⟩:=T1 c d (by omega) p g o;have y:=Z7 k l p a v o;have K:=Pw (Rj b o) a;have M:=Pw (LO b o) a;have Q:=Pw (ND b o) a;have U:=Pw (Qy b o) a;simp only[B3];rw[Aaq (show o<3 by omega),zV,ZO c d a q,zU,uG c d a q];unfold DG;simp only;rw[Aan (show ¬ws (Rj b o) ms≠ws (Rj b o) ms by simp),zX,x,zU,w,zU,C7 (n:=Z8 b t o-Z8 b s o) (by omega) (by omega),C7 (n:=ws (Rj b o) ms-ws (LO b o) ms) (by omega) (by omega),C7 (n:=ws (Rj b o) ms-ws (LO b o) ms+ws (ND b o) ms) (by omega) (by omega),C7 (n:=ws (Rj b o) ms-ws (LO b o) ms+ws (ND b o) ms-ws (Qy b o) ms) (by omega) (by omega),y,Aan (by simp),zU,Aci];have z:((decide (o=2)&&decide (ws (LO b o) ms≠ws (Ka b o) ms))||(decide (o<2)&&decide (ws (Ka b o) ms≠0)))=false:=by
  by_cases e:o=2
  ·subst e;rw[Z4 λm i=>iN k (a m i)];simp
  ·rw[lH λm i=>cM (a m i) (by omega)];simp [e]
 rw[z,zX,C7 (n:=o+1) (by omega) (by omega)]
def Ul {N:Nat}(p:18446744073709551616<N) (u:ER N=some true) (b:AE) (s:AF) (ins:List Cs):GS N b s ins=some true:=by
 unfold GS;rw[u,zU];obtain⟨v,y,kv⟩:=cS p b s ins;rw[y,zU];cases v with
 |false=>rfl
 |true=>
  obtain⟨d,l,I,z,J,A⟩:=kv rfl;have g:=eV d.r.head.pl (by have:=d.l6;omega) (WG y);have a:1000000<N:=by omega
  have K:=l.rg.hour;obtain⟨ss,ms,ps,t,c,w,M,Q⟩:=dU p d ins l (by omega) (by omega) A;obtain⟨U,V,W⟩:=c.len;have k:=c.mok p d g λi j=>by have:=(A i j).takes;omega
  have x:=c.keep p d;rw[Abo,zX,Ze a c z,zU,iY a c z,zU];obtain⟨n,rfl⟩:∃n,N=n+4:=⟨N-4,by omega⟩
  have C:ws (Rj b 0) ms=0:=lH λm j=>yH g (k m j);have D:ws (LO b 0) ms=ws (Rj b (0+1)) ms:=Z4 λm j=>by
   have q:=(dB g (k m j) (o:=0+1) (by decide) (by decide)).symm;rw[show (0:Int)+1-1=0 from rfl] at q;exact q
  have F:ws (LO b (0+1)) ms=ws (Rj b (0+1+1)) ms:=Z4 λm j=>by
   have q:=(dB g (k m j) (o:=0+1+1) (by decide) (by decide)).symm;rw[show (0:Int)+1+1-1=0+1 from rfl] at q;exact q
  have B:=Sz a d g l w (by omega) (by omega) (ss:=ss) (ps:=ps) k (by omega) x (CF (n+4) true) (n+3) (o:=0) (by decide) (by decide);have G:=Sz a d g l w (by omega) (by omega) (ss:=ss) (ps:=ps) k (by omega) x (CF (n+4) true) (n+2) (o:=0+1) (by decide) (by decide);have H:=Sz a d g l w (by omega) (by omega) (ss:=ss) (ps:=ps) k (by omega) x (CF (n+4) true) (n+1) (o:=0+1+1) (by decide) (by decide);rw[C] at B;rw[B,D,G,F,H];rfl
def SJ (b:AE) (s:AF) (ins:List Cs):GS BN b s ins=some true:=Ul wW Xn b s ins
open Go.ChangeShapes Go.WideShapes Go.ChangeAt Go.RowKit Go.Deep
def Ex {α}(P:Program) (t:TypeId) (r:A6 α):Prop:=
 P.cellsOf t=r.sz∧∀{H:Type} {enc:TypeId×Value→H} {w:World} {c:Nat} {a:Nat→Bool} {d:Bool} {g:Nat} {cs:List Value} {x:DataW H×List MemPlace},
  DataW.trod enc P w c a d g t cs=some x→∃y,r.rd (λb=>b<w.heap.size) w.heap cs y
def iO {n:Int}(a:(Lit.int .i64 n).wf=true):AA n:=by
 simpa [Lit.wf,IntKind.min,IntKind.max,IntKind.signed,IntKind.bits,AA] using a
def ZR {P:Program}{t:TypeId}(i:P.cellsOf t=1) (j:P.underlying t=some (.int .i64)):Ex P t AB:=by
 refine⟨i,λ{H enc w d b g a cs x} o=>?_⟩;cases a with
 |zero=>simp [DataW.trod] at o
 |succ n=>
  unfold DataW.trod at o;simp only[j] at o;split at o<;>simp_all;rename_i k l m;obtain⟨⟨rfl,c⟩,_⟩:=o;subst m;exact⟨l,rfl,iO c⟩
def XA {P:Program}{t:TypeId}(g:P.cellsOf t=1) (i:P.underlying t=some .bool):Ex P t A6.bool:=by
 refine⟨g,λ{H enc w c b d a cs x} j=>?_⟩;cases a with
 |zero=>simp [DataW.trod] at j
 |succ n=>
  unfold DataW.trod at j;simp only[i] at j;split at j<;>first|(exact ⟨_,rfl⟩)|simp_all
def ZQ {P:Program}{t:TypeId}(g:P.cellsOf t=1) (i:P.underlying t=some .string):Ex P t A6.str:=by
 refine⟨g,λ{H enc w c b d a cs x} j=>?_⟩;cases a with
 |zero=>simp [DataW.trod] at j
 |succ n=>
  unfold DataW.trod at j;simp only[i] at j;split at j<;>simp_all;exact⟨_,rfl,j.1⟩
def R3 {α}{p:Nat→α→Prop}:∀n,(∀i,i<n→∃x,p i x)→∃l:List α,l.length=n∧∀i x,l[i]? =some x→p i x
 |0,_=>⟨[],rfl,λi x j=>by simp at j⟩
 |n+1,j=>by
  obtain⟨l,b,c⟩:=R3 n λi d=>j i (by omega);obtain⟨x,g⟩:=j n (by omega);refine⟨l++[x],by simp [b],λi y a=>?_⟩;rw[List.getElem?_append] at a;split at a
  ·exact c i y a
  ·rename_i d;have:i-l.length=0:=by
    have:=(Aai.1 a).1;simp at this;omega
   rw[this] at a;simp at a;subst a;have:i=n:=by omega
   subst this;exact g
def G1 {P:Program}{t e:TypeId}{α}{r:A6 α}(Q:P.cellsOf t=1) (U:P.underlying t=some (.slice e)) (A:Ex P e r) (V:Nat.blt 0 r.sz=true):Ex P t (A6.sl r):=by
 refine⟨Q,λ{H enc w J B K M cs x} h=>?_⟩;have k:0<r.sz:=(by simpa [Nat.blt] using V:1≤r.sz)
 rcases open_slice U h with ⟨rfl,_⟩|⟨a,len,cap,m,n,D,Pl,rfl,hb,hlc,hcm,hm,_,hel⟩
 ·exact⟨[],_,rfl,.inl ⟨rfl,rfl⟩⟩
 ·have W:len≤m:=by rw[hm];split<;>omega
  obtain⟨l,X,C⟩:=R3 (p:=λi x=>a.spot=none∧Pt (λb=>b<w.heap.size) w.heap r (.pointer (some ⟨a.block,a.off+i*r.sz,none⟩)) x) len λi hi=>by
   obtain⟨cs',F,G⟩:=hel i (by omega);obtain⟨y,Y⟩:=A.2 G;obtain⟨_,q,IQ⟩:=World.cells?_some F;rw[A.1] at q IQ;have u:a.spot=none:=by
    obtain⟨v,I,_⟩:=hel 0 (by omega);obtain⟨_,g,c⟩:=World.cells?_some I;rw[A.1] at g c;have h0:=c 0 k;have Z:(a.add (0*r.sz)).add 0=a:=by simp [Addr.add]
    rw[Z] at h0;cases hs:a.spot with
    |none=>rfl
    |some s=>
     have:w.cell? a=none:=by
      unfold World.cell?;split
      ·simp [hs]
      ·rfl
     rw[this] at h0;have:v[0]? =some (v[0]'(by omega)):=Aao (by omega);rw[this] at h0;cases h0
   obtain⟨b,o,s⟩:=a;simp only at u;subst u;have d:∀j,((⟨b,o,none⟩:Addr).add (i*r.sz)).add j=⟨b,o+i*r.sz+j,none⟩:=by
    intro j;have e1:(⟨b,o,none⟩:Addr).add (i*r.sz)=⟨b,o+i*r.sz,none⟩:=by unfold Addr.add;split<;>simp_all
    rw[e1];unfold Addr.add;split<;>simp_all
   have z:b<w.heap.size:=by
    have h0:=IQ 0 k;rw[d] at h0;have:cs'[0]? =some (cs'[0]'(by omega)):=Aao (by omega);rw[this] at h0;exact World.block_lt_of_cell? w _ h0
   refine⟨y,rfl,cs',⟨⟨b,o+i*r.sz,none⟩,rfl,rfl,z,λj hj=>?_⟩,Y⟩;have:=IQ j (by omega);rw[d] at this;exact this
  exact⟨l,_,rfl,.inr ⟨a,cap,by rw[X],by omega,hcm,C⟩⟩
def Dk {P:Program}{t:TypeId}{l:Array Field}(q:P.underlying t=some (.struct l)) {H:Type}{enc:TypeId×Value→H}{w:World}{c:Nat}{a:Nat→Bool}{d:Bool}{g:Nat}{cs:List Value}{x:DataW H×List MemPlace}
  (v:DataW.trod enc P w c a d g t cs=some x):cs.length=P.cellsOf t∧∀(j:Nat) (f:Field) {z} (r:A6 z),l[j]? =some f→Ex P f.type r→∃y,r.rd (λb=>b<w.heap.size) w.heap ((cs.drop f.offset).take r.sz) y:=by
 obtain⟨xs,n,_,_,s,i,u⟩:=DataW.trod_struct q v;refine⟨s,λj f z r m o=>?_⟩;have p:=u j f m;have k:j<xs.length:=by rw[i];exact(Abb.1 m).1
 rw[Aao k,o.1] at p;exact o.2 p
def eW {P:Program}{t:TypeId}{l:Array Field}{α}{r:A6 α}(m:Ex P t r) (i:r.ag=true) (n:P.underlying t=some (.struct l)) {H:Type}{enc:TypeId×Value→H}{w:World}{j:Reach}{o c:Nat}{a:Nat→Bool}{g:Bool}{v:Value}{d:DataW H}{p:List MemPlace}
  (q:Value.okWide P w j o t v) (x:DataW.Trod enc P w c a g t v d p):∃y,Rd (λb=>b<w.heap.size) w.heap r v y:=by
 obtain⟨cs,rfl,_⟩:=okWide_struct n q;obtain⟨k,s⟩:=x;obtain⟨y,u⟩:=m.2 s;exact⟨y,cs.toList,by simp [A6.val,i],u⟩
def Zf {v:Value}{c:Value}(b:v.cells.toList=[c]) (a:c.oneCell'=true):v=c∨∃cs,v= .agg cs:=by
 cases v<;>first|(right;exact⟨_,rfl⟩)|(left;simpa [Value.cells] using b)
def jP {P:Program}{t:TypeId}{α}{r:A6 α}(u:Ex P t r) (m:r.ag=false) (n:r.sz=1) {H:Type}{enc:TypeId×Value→H}{w:World}{g:Nat}{a:Nat→Bool}{i:Bool}{v:Value}{d:DataW H}{p:List MemPlace}
  (o:∀cs,v≠ .agg cs) (z:DataW.Trod enc P w g a i t v d p):∃y,Rd (λb=>b<w.heap.size) w.heap r v y:=by
 obtain⟨q,x⟩:=z;obtain⟨y,l⟩:=u.2 x;have s:=r.len l;rw[n] at s
 match j:v.cells.toList,s with
 |[c],_=>
  rw[j] at l;have k:=r.one l c (by simp);rcases Zf j k with rfl|⟨cs,rfl⟩
  ·exact⟨y,[v],by simp [A6.val,m],l⟩
  ·exact absurd rfl (o cs)
def cK {P:Program}{t e:TypeId}(b:P.underlying t=some (.slice e)) {w:World}{a:Reach}{c:Nat}{v:Value}(d:Value.okWide P w a c t v):∀cs,v≠ .agg cs:=by
 rintro cs rfl;simp [Value.okWide,b,Cell.okWide,Cell.ok] at d
def Px {H:Type}{enc:TypeId×Value→H}{P:Program}(l:laidOutB P=true) {W m:World}(n:Below W.heap.size W m):
  ∀{i:List TypeId} {vs:List Value} {j:List (DataW H)} {ps:List MemPlace},(∀t∈i,P.readableRec t=true∧t<P.types.size)→DataW.TrodAll enc P W 0 (λ_=>true) true i vs j ps→(∀x∈ps,x.block<W.heap.size)→
   ∀b:Nat→Bool,(∀x∈ps,b x.block=true)→DataW.TrodAll enc P m 0 b true i vs j ps
 |[],vs,j,ps,_,B,_,b,_=>by
  obtain⟨rfl,rfl,rfl⟩:=trodAll_nil B;exact rfl
 |t::i,vs,j,ps,o,B,c,b,g=>by
  obtain⟨v,s,d,u,p,q,rfl,rfl,rfl,w,y⟩:=trodAll_cons B;obtain⟨z,A⟩:=o t (by simp);refine⟨p,q,WideElems.Trod_stays l z A w (λx a=>n.same (c x (by simp [a]))) (λx a=>g x (by simp [a])),?_,rfl⟩;exact Px l n (λt k=>o t (by simp [k])) y (λx a=>c x (by simp [a])) b λx a=>g x (by simp [a])
def cW {H:Type}{enc:TypeId×Value→H}{P:Program}{f:Func}{s:ChangeSpec}{W l:World}{c:Array Value}{d i:List (DataW H)}{a:List MemPlace}{tb:TypeId}
  (q:laidOutB P=true) (j:f.params.toList.all (λt=>P.readableRec t&&decide (t<P.types.size))=true) (k:DataW.Whole enc P f.params.toList s.vars false W c.toList d i a)
  (u:f.resultTypes= #[tb]) (v:P.underlying tb=some .bool) (b:s.vars=[]) (w:(s.fn H (d++i)).results=[.lit (.bool true)]) (y:(s.fn H (d++i)).args=d) (z:(s.fn H (d++i)).vars=[])
  (m:Below W.heap.size W l):s.post enc P f false true false false W c (.bool true) l:=by
 have g:∀p∈a,p.block<W.heap.size:=λp A=>k.lt p A;obtain⟨n,pv,B,o,rfl,F,G⟩:=id k;rw[b] at o;obtain⟨rfl,rfl⟩:=trodVars_none o;simp only[Aa3] at*;refine⟨d,[],n,[],n,[],by simpa using k,?_,?_,?_,?_,λI=>by cases I⟩
 ·simp only[Aa3];rw[w,u];exact trodAll_mk1 (shut_bool v true)
 ·simp only[Aa3];rw[y];refine Px q m (λt C=>?_) B g _ λx D=>by simpa using g x D
  have:=Aaf.1 j t C;simpa using this
 ·simp only[Aa3];rw[z,b];exact rfl
 ·exact m.frame _
def ZX {P:Program}{f:FuncId}{a:Array Value}{W:World}{L:(Nat→Prop)→AS→Prop}(k:B6 P f a (λb=>b<W.heap.size) W.heap (λv S' h'=>v= .bool true∧L S' h')):
  Calls P f a W λe d=>e= .returned (.bool true)∧Below W.heap.size W d:=
 (k W W ⟨rfl,rfl,rfl,rfl⟩).mono λe d ⟨v,S',h',i,c,g,j,_⟩=>by
  subst i;subst j;exact⟨rfl,c.os,c.tape,c.out,by rw[c.heap];exact g.siz,λb l=>by rw[c.heap];exact g.same b l⟩
end Go.Proofs.YtedgiljmffngoaaGreat
