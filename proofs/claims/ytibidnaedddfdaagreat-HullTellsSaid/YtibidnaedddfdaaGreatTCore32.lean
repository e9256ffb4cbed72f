import Derived.Test.YtibidnaedddfdaaGreatTRefJ
import Derived.Test.YtibidnaedddfdaaGreatTPureHStep
import Derived.Test.YtibidnaedddfdaaGreatTCore10
import Derived.ProofKit
import Derived.OpenShut
import Derived.JoinedCond
import Derived.Deep.Slices
import Derived.SizedLaws
namespace Go.Proofs.YtibidnaedddfdaaGreat
set_option linter.all false
open Go.RowKit
def TL (a b:AB):AB:=⟨Ib (a.B+b.B),Ib (a.A+b.A)⟩
def TX (N:Nat) {a b:AB}(c:TB a) (d:TB b):HV N a b=some (TL a b):=by
 obtain⟨g,i,j⟩:=c;obtain⟨k,l,m⟩:=d;unfold HV;rw[Uc N (by unfold AA;omega) (by unfold AA;omega),wC,Uc N (by unfold AA;omega) (by unfold AA;omega),wC];rfl
def aD {a b:AB}(c:TB a) (d:TB b):TB (TL a b):=by
 obtain⟨g,i,j⟩:=c;obtain⟨k,l,m⟩:=d;refine⟨?_,?_,?_⟩
 ·show 0≤Ib _;unfold Ib;omega
 ·show Ib _≤Ib _;unfold Ib;omega
 ·show Ib _≤_;unfold Ib;omega
def Nx (H p:Int):List AY→AB→AB
 |[],v=>v
 |x::r,v=>Nx H p r (if x.C=p∧x.K≤H then TL v x.G else v)
def Sk (H p:Int) (x:AY):∀(l:List AY) (v:AB),Nx H p (l++[x]) v=if x.C=p∧x.K≤H then TL (Nx H p l v) x.G else Nx H p l v
 |[],v=>rfl
 |y::l,v=>by rw[yY,Nx,Nx,Sk H p x l]
def UI (H p:Int):∀(l:List AY) (v:AB),(∀x∈l,IK x.G)→TB v→TB (Nx H p l v)
 |[],v,_,h=>h
 |x::r,v,a,h=>by
  rw[Nx];refine UI H p r _ (λy b=>a y (xP _ b)) ?_;split
  ·exact aD h (a x xL).n
  ·exact h
def ZZ (a:List AB) (i:Nat) (v:AB):AB:=match a[i]? with
 |some r=>if r.B≤r.A∧0≤r.B then TL v r else v
 |none=>v
def tG {a:List AB}(c:∀s∈a,AA s.B∧AA s.A) (i:Nat) {v:AB}(b:TB v):TB (ZZ a i v):=by
 unfold ZZ;split
 ·rename_i r e;split
  ·rename_i h;exact aD b ⟨h.2,h.1,(c r (yJ e)).2.2⟩
  ·exact b
 ·exact b
def SP (h:AX) (a:List AB) (i:Nat):AB:=ZZ a i (h.G.getD i ⟨0,0⟩)
def iD (h:AX) (a:List AB) (i:Nat):AB:=ZJ (Nx h.H (i:Int) h.E (SP h a i))
def W7 (h:AX) (a:List AB):List AB:=(List.range h.G.length).map (iD h a)
def gY (h:AX):List AY:=h.E.filter λx=>decide (h.H<x.K)
def Tz {l:List AB}{k:Nat}(h:k<l.length):l.getD k ⟨0,0⟩=l[k]:=by
 rw[xW,wR h,xJ]
def YW {h:AX}(b:∀v∈h.G,IK v) {a:List AB}(d:∀s∈a,AA s.B∧AA s.A) {i:Nat}(c:i<h.G.length):TB (SP h a i):=by
 unfold SP;rw[Tz c];exact tG d i (b _ (wT c)).n
def fL {s:AB}(h:TB s):IK (ZJ s):=by
 obtain⟨a,b,c⟩:=h;exact⟨by show 0≤min _ _;omega,by show min _ _≤min _ _;omega,by show min _ _≤_;omega⟩
def kR {h:AX}(b:∀v∈h.G,IK v) (d:∀e∈h.E,IK e.G) {a:List AB}(g:∀s∈a,AA s.B∧AA s.A):L9 IK h.G.length (W7 h a):=by
 refine⟨by unfold W7;rw[xH,List.length_range],λx c=>?_⟩;unfold W7 at c;obtain⟨i,j,rfl⟩:=xR.1 c;exact fL (UI _ _ _ _ d (YW b g (xG.1 j)))
def fA {h:AX}{a:List AB}{i:Nat}(b:i<h.G.length):(W7 h a)[i]? =some (iD h a i):=by
 unfold W7;rw[zQ,Abb b];rfl
def Kz {α}{l:List α}{k:Nat}(h:k<l.length):l.take (k+1)=l.take k++[l[k]]:=yM h
set_option maxHeartbeats 1000000 in
def nF {N:Nat}(hN:18446744073709551616<N) {w:B0}{P:Nat}(hP:P≤64) (hv:w.h.G.length=P) (I:∀v∈w.h.G,IK v) {t:Int}(hq:PQ P t w.h.E) (ad:w.h.E.length≤4398048311104) (hp:w.peaks.length=P) {b:List AB}(hr:∀s∈b,AA s.B∧AA s.A):
  Eu N w b=CU N w (gY w.h) (W7 w.h b) N 0 w.h.D:=by
 unfold Eu;obtain⟨p1,⟨i1,j1⟩,e1⟩:=F4 w.h.G.length (λn i l=>BS N w b (BT N w) n i l) (BT N w) (λk l=>l.length=P∧∀i,i<k→l[i]? =some (SP w.h b i)) (λn k l j=>by
  simp only[BS];rw[Dk j];rfl) (λn k l o j=>by
  have p:k<l.length:=by rw[o.1];omega
  have hV:=I _ (wT j);have aa:∀a c:Int,EE N (k:Int) l (BS N w b (BT N w) n) a c=BS N w b (BT N w) n ((k+1:Nat):Int) (l.set k ⟨a,c⟩):=λa c=>by
   unfold EE;rw[BC p];simp only[wC,BF (show k<4611686018427387904 by omega),SR]
  have u:∀x:AB,x=SP w.h b k→(l.set k x).length=P∧∀i,i<k+1→(l.set k x)[i]? =some (SP w.h b i):=λx X=>by
   refine⟨by rw[Aae];exact o.1,λi h=>?_⟩;by_cases e:k=i
   ·subst e;rw[Aax p,X]
   ·rw[Aai e];exact o.2 i (by omega)
  have d:SP w.h b k=ZZ b k w.h.G[k]:=by unfold SP;rw[Tz j]
  simp only[BS];rw[D2 j,wD,BC j];simp only[wC,aa];generalize w.h.G[k]=v at hV d
  by_cases h:k<b.length
  ·rw[D2 h,wD,BC h];simp only[wC,Ei];have hR:=hr _ (wT h);have q:ZZ b k v=if (b[k]).B≤(b[k]).A∧0≤(b[k]).B then TL v b[k] else v:=by
    unfold ZZ;rw[wR h]
   rw[q] at d;generalize b[k]=r at hR d
   obtain⟨⟨r1,r2⟩,r3,r4⟩:=hR;by_cases J:r.B≤r.A∧0≤r.B
   ·rw[wJ J.1,wJ J.2];simp only[wD,wC];rw[wG J] at d;rw[TX N hV.n (show TB r from⟨J.2,J.1,r4⟩),wC];exact⟨_,u _ d.symm,rfl⟩
   ·rw[wF J] at d;by_cases c2:r.B≤r.A
    ·rw[wJ c2,wM (λc3=>J ⟨c2,c3⟩)];exact⟨_,u _ d.symm,rfl⟩
    ·rw[wM c2];exact⟨_,u _ d.symm,rfl⟩
  ·rw[Dk (by omega)];have q:ZZ b k v=v:=by
    unfold ZZ;rw[zM (by omega)]
   rw[q] at d;exact⟨_,u _ d.symm,rfl⟩) N 0 w.peaks ⟨hp,λi h=>by omega⟩ (by omega) (wL _)
 rw[show BS N w b (BT N w) N 0 w.peaks=BT N w p1 from e1];unfold BT;have hn:∀i,i<P→∀k,TB (Nx w.h.H (i:Int) (w.h.E.take k) (SP w.h b i)):=λi h k=>UI _ _ _ _ (λx X=>(hq.el x (zA X)).1) (YW I hr (by omega));obtain⟨⟨q2,y⟩,⟨a1,a2,a3⟩,e2⟩:=F4 w.h.E.length (λn i (s:List AY×List AB)=>B8 N w (B9 N w) n s.1 i s.2) (λs=>B9 N w s.1 s.2) (λk s=>s.1=(w.h.E.take k).filter (λx=>decide (w.h.H<x.K))∧s.2.length=P∧∀i,i<P→s.2[i]? =some (Nx w.h.H (i:Int) (w.h.E.take k) (SP w.h b i))) (λn k s j=>by
  simp only[B8];rw[Dk j];rfl) (λn k s o j=>by
  obtain⟨M,z⟩:=s;obtain⟨V,W,F⟩:=o;have V:M=(w.h.E.take k).filter (λx=>decide (w.h.H<x.K)):=V;have W:z.length=P:=W;have F:∀i,i<P→z[i]? =some (Nx w.h.H (i:Int) (w.h.E.take k) (SP w.h b i)):=F;obtain⟨v1,v2,v3,v4,v5⟩:=hq.el _ (wT j);have ac:M.length≤k:=by
   rw[V];exact yI (List.length_filter_le _ _) (by rw[xT];omega)
  have Q:(w.h.E.take (k+1)).filter (λx=>decide (w.h.H<x.K))=M++[w.h.E[k]].filter (λx=>decide (w.h.H<x.K)):=by
   rw[Kz j,List.filter_append,V]
  have U:∀i:Nat,Nx w.h.H (i:Int) (w.h.E.take (k+1)) (SP w.h b i)=if (w.h.E[k]).C=(i:Int)∧(w.h.E[k]).K≤w.h.H then TL (Nx w.h.H (i:Int) (w.h.E.take k) (SP w.h b i)) (w.h.E[k]).G else Nx w.h.H (i:Int) (w.h.E.take k) (SP w.h b i):=λi=>by
   rw[Kz j,Sk]
  simp only[B8];rw[D2 j,wD,BC j];simp only[wC,GJ,BF (show k<4611686018427387904 by omega)];generalize w.h.E[k]=x at v1 v2 v3 v4 v5 Q U
  by_cases Z:x.K≤w.h.H
  ·obtain⟨m,hm⟩:∃m:Nat,x.C=m:=⟨x.C.toNat,by omega⟩
   have Y:m<P:=by omega
   have g:=F m Y;rw[wJ Z,hm,BC (show m<z.length by omega)];have g2:z[m]=Nx w.h.H (m:Int) (w.h.E.take k) (SP w.h b m):=wP (by rw[←g,wR]);simp only[wD,wC];rw[g2,TX N (hn m Y k) v1.n];simp only[wC,SR];refine⟨(M,z.set m (TL (Nx w.h.H (m:Int) (w.h.E.take k) (SP w.h b m)) x.G)),⟨?_,?_,λi o=>?_⟩,rfl⟩
   ·show M=_
    rw[Q,List.filter_cons_of_neg (by simp;omega),List.filter_nil,xK]
   ·show(z.set _ _).length=P
    rw[Aae];exact W
   ·show(z.set _ _)[i]? =_
    rw[U i,hm];by_cases e:m=i
    ·subst e;rw[Aax (by omega),wG ⟨rfl,Z⟩]
    ·rw[Aai e,wF (λhh=>e (by omega))];exact F i o
  ·rw[wM Z,wE,Ou (by omega) (by decide)];refine⟨(M++[x],z),⟨?_,W,λi o=>?_⟩,rfl⟩
   ·show M++[x]=_
    rw[Q,List.filter_cons_of_pos (by simp;omega),List.filter_nil]
   ·rw[U i,wF (λhh=>Z hh.2)];exact F i o) N 0 ([],p1) ⟨by simp,i1,λi h=>by rw[List.take_zero];exact j1 i (by omega)⟩ (by omega) (wL _)
 rw[show B8 N w (B9 N w) N [] 0 p1=B9 N w q2 y from e2];rw[xU] at a1;have A2:y.length=P:=a2;have A3:∀i,i<P→y[i]? =some (Nx w.h.H (i:Int) w.h.E (SP w.h b i)):=λi h=>by have:=a3 i h;rw[xU] at this;exact this
 have A1:q2=gY w.h:=a1;clear a1 a2 a3 e2;subst A1;unfold B9;have ae:∀i,i<P→TB (Nx w.h.H (i:Int) w.h.E (SP w.h b i)):=λi h=>UI _ _ _ _ (λx X=>(hq.el x X).1) (YW I hr (by omega));obtain⟨p3,⟨b1,b2,b3⟩,e3⟩:=F4 y.length (λn i l=>CV N y (CW N w (gY w.h)) n i l) (CW N w (gY w.h)) (λk l=>l.length=P∧(∀i,i<k→l[i]? =some (iD w.h b i))∧∀i,k≤i→i<P→l[i]? =y[i]?) (λn k l j=>by
  simp only[CV];rw[Dk j];rfl) (λn k l o j=>by
  obtain⟨V,W,F⟩:=o;have p:k<l.length:=by omega
  have g:=(F k (wV _) (by omega)).trans (A3 k (by omega));have g2:l[k]=Nx w.h.H (k:Int) w.h.E (SP w.h b k):=wP (by rw[←g,wR]);simp only[CV];rw[D2 j,wD,BC p];simp only[wC,Na,BF (show k<4611686018427387904 by omega),SR];refine⟨_,⟨?_,λi o=>?_,λi o ab=>?_⟩,rfl⟩
  ·rw[Aae];exact V
  ·by_cases e:k=i
   ·subst e;rw[Aax p,g2];rfl
   ·rw[Aai e];exact W i (by omega)
  ·rw[Aai (by omega)];exact F i (by omega) ab) N 0 y ⟨A2,λi h=>by omega,λi _ _=>rfl⟩ (by omega) (wL _)
 rw[show CV N y (CW N w (gY w.h)) N 0 y=CW N w (gY w.h) p3 from e3];have:p3=W7 w.h b:=by
  refine List.ext_getElem? λi=>?_;by_cases o:i<P
  ·rw[b2 i (by omega),fA (by omega)]
  ·rw[zM (by omega),zM (by unfold W7;rw[xH,List.length_range];omega)]
 rw[this];rfl
def lJ {α}(p:α→Bool) (l:List α) (k:Nat):((l.take k).filter p).length≤k:=yI (List.length_filter_le _ _) (by rw[xT];omega)
set_option maxHeartbeats 1000000 in
def aN {N:Nat}(hN:18446744073709551616<N) {w:AK}{P:Nat}(hP:P≤64) (u:w.J.F.length=P) (hv:w.L.G.length=P) (y:∀v∈w.L.G,IK v) {t:Int}(hq:PQ P t w.L.E) (ad:w.L.E.length≤4398048311104) (hp:w.Ai=[]) {a:List AB}(hr:∀s∈a,AA s.B∧AA s.A):
  Ff N w a=Cc N w (W7 w.L a) (gY w.L) N 0 w.L.D:=by
 unfold Ff;obtain⟨V,W,e1⟩:=F4 P (λn i l=>BJ N w a (BO N w) n i l) (BO N w) (λk l=>l=(List.range k).map (iD w.L a)) (λn k l d=>by
  simp only[BJ];rw[u,Dk d];rfl) (λn k l z d=>by
  have g:k<w.L.G.length:=by omega
  have hV:=y _ (wT g);have X:SP w.L a k=ZZ a k w.L.G[k]:=by unfold SP;rw[Tz g]
  have Y:DN N w (k:Int) l (BJ N w a (BO N w) n) (SP w.L a k).B (SP w.L a k).A=BJ N w a (BO N w) n ((k+1:Nat):Int) (l++[iD w.L a k]):=by
   unfold DN;obtain⟨s,I,es⟩:=F4 w.L.E.length (λm i (s:AB)=>CN N w (k:Int) (C4 N (k:Int) l (BJ N w a (BO N w) n)) m i s.B s.A) (λs=>C4 N (k:Int) l (BJ N w a (BO N w) n) s.B s.A) (λj s=>s=Nx w.L.H (k:Int) (w.L.E.take j) (SP w.L a k)) (λm j s p=>by
    simp only[CN];rw[Dk p];rfl) (λm j s I p=>by
    obtain⟨v1,v2,v3,v4,v5⟩:=hq.el _ (wT p);have M:Nx w.L.H (k:Int) (w.L.E.take (j+1)) (SP w.L a k)=if (w.L.E[j]).C=(k:Int)∧(w.L.E[j]).K≤w.L.H then TL s (w.L.E[j]).G else s:=by
     rw[Kz p,Sk,I]
    have Z:TB s:=by
     rw[I];exact UI _ _ _ _ (λx hx=>(hq.el x (zA hx)).1) (YW y hr g)
    simp only[CN];rw[D2 p,wD,BC p];simp only[wC,F7,BF (show j<4611686018427387904 by omega)];generalize w.L.E[j]=x at v1 M
    refine⟨_,M.symm,?_⟩;by_cases c:x.C=(k:Int)∧x.K≤w.L.H
    ·rw[wG c,wJ c.1,wJ c.2];simp only[zG,wD];rw[show G5 N (⟨s.B,s.A⟩:AB) x.G=some (TL s x.G) from TX N Z v1.n,wC]
    ·rw[wF c,show(decide (x.C=(k:Int))&&decide (x.K≤w.L.H))=false by
      rw[←yN];simp only[wI,wW];exact c,wE]) N 0 (SP w.L a k) rfl (by omega) (wL _)
   rw[xU] at I;rw[show CN N w (k:Int) (C4 N (k:Int) l (BJ N w a (BO N w) n)) N 0 (SP w.L a k).B (SP w.L a k).A=_ from es,I];have hl:l.length=k:=by rw[z,xH,List.length_range]
   unfold C4;rw[kE];simp only[Na,wC,BF (show k<4611686018427387904 by omega)];rw[Ou (by simp;omega) (by decide)];rfl
  have aa:l++[iD w.L a k]=(List.range (k+1)).map (iD w.L a):=by
   rw[List.range_succ,yP,z];rfl
  simp only[BJ];rw[u,D2 d,wD,BC g];simp only[wC,F8];refine⟨_,aa,?_⟩;rw[←Y,X];generalize w.L.G[k]=v at hV
  by_cases h:k<a.length
  ·rw[D2 h,wD,BC h];simp only[wC];have hR:=hr _ (wT h);have b:ZZ a k v=if (a[k]).B≤(a[k]).A∧0≤(a[k]).B then TL v a[k] else v:=by
    unfold ZZ;rw[wR h]
   rw[b];generalize a[k]=r at hR
   obtain⟨⟨r1,r2⟩,r3,r4⟩:=hR;by_cases Q:0≤r.B
   ·rw[wJ Q];simp only[wD,wC];by_cases U:r.B≤r.A
    ·rw[wJ U,wG ⟨U,Q⟩,wD,show G5 N v r=some (TL v r) from TX N hV.n (show TB r from⟨Q,U,r4⟩),wC]
    ·rw[wM U,wF (λhh=>U hh.1),wE]
   ·rw[wM Q,wF (λhh=>Q hh.2)];rfl
  ·rw[Dk (by omega)];have b:ZZ a k v=v:=by
    unfold ZZ;rw[zM (by omega)]
   rw[b];rfl) N 0 [] rfl (by omega) (wL _)
 rw[hp,show BJ N w a (BO N w) N 0 []=BO N w V from e1];have:V=W7 w.L a:=by
  have W:V=(List.range P).map (iD w.L a):=W;rw[W];unfold W7;rw[hv]
 subst this;unfold BO;obtain⟨q,o,e2⟩:=F4 w.L.E.length (λn i l=>CM N w (C3 N w (W7 w.L a)) n l i) (C3 N w (W7 w.L a)) (λk l=>l=(w.L.E.take k).filter (λx=>decide (w.L.H<x.K))) (λn k l d=>by
  simp only[CM];rw[Dk d];rfl) (λn k l z d=>by
  have ac:l.length≤k:=by rw[z];exact lJ _ _ _
  have ab:(w.L.E.take (k+1)).filter (λx=>decide (w.L.H<x.K))=l++[w.L.E[k]].filter (λx=>decide (w.L.H<x.K)):=by
   rw[Kz d,List.filter_append,z]
  refine⟨_,ab.symm,?_⟩;simp only[CM];rw[D2 d,wD,BC d];simp only[wC,F6,BF (show k<4611686018427387904 by omega)];generalize w.L.E[k]=x
  by_cases c:w.L.H<x.K
  ·rw[wJ c,wD,Ou (by omega) (by decide),List.filter_cons_of_pos (by simp;omega),List.filter_nil]
  ·rw[wM c,wE,List.filter_cons_of_neg (by simp;omega),List.filter_nil,xK]) N 0 [] (by simp) (by omega) (wL _)
 rw[show CM N w (C3 N w (W7 w.L a)) N [] 0=C3 N w (W7 w.L a) q from e2];rw[xU] at o;have o:q=gY w.L:=o;rw[o];rfl
def VH {N:Nat}(u:18446744073709551616<N) {b:AH}(c:Ol N b) {h:AX}{x z:List AB}{q:List AY}{p:List AB}(j:L9 IK b.F.length p):∀n (k:Nat) l,MQ b l→k≤b.D.length→Cc N ⟨b,h,x⟩ p q n (k:Int) l=CU N ⟨b,h,z⟩ q p n (k:Int) l
 |0,k,l,_,_=>rfl
 |n+1,k,l,m,a=>by
  simp only[Cc,CU];rcases xB k b.D.length with a|a
  ·have A:=c.head.li;have d:k<l.length:=by rw[m.1];exact a
   have v:=c.links _ (wT a);have lk:=c.lk _ (wT a);have w:=m.2 k _ _ (wR a) (wR d);rw[D2 a,wD,wD,BC a];simp only[wC,FY,GI,BF (show k<4611686018427387904 by omega)];by_cases o:(b.D[k]).I=3
   ·obtain⟨y,B,s⟩:=XC (l:=p) (i:=(b.D[k]).V) v.fr.1 (by rw[j.1];exact v.fr.2);obtain⟨H,C,t⟩:=WR (N:=N) (by omega) _ w y;have G:=j.2 y (yJ s);have J:=lk.siph o;rw[wJ o,wD,wD,BC d];simp only[B,wC];rw[kC (by omega) _ o _ y G.2.1 (by rcases w.opn with e|⟨_,e|e⟩<;>simp [e]) (by omega) (by omega),C];simp only[wC,SR];exact VH u c j n (k+1) _ (m.set λK g=>by rw[wR a] at g;cases g;exact t) (by omega)
   ·rw[wM o,wE,wE];exact VH u c j n (k+1) _ m (by omega)
  ·rw[Dk a,wE,wE]
def kB {N:Nat}(g:18446744073709551616<N) {b:AH}(l:Ol N b) {h:AX}(i:h.G.length=b.F.length) (c:∀v∈h.G,IK v) {t:Int}(j:PQ b.F.length t h.E) (d:h.E.length≤4398048311104) (n:MQ b h.D) {z:List AB}(o:z.length=b.F.length) {a:List AB}(k:∀s∈a,AA s.B∧AA s.A):
  Ff N ⟨b,h,[]⟩ a=Eu N ⟨b,h,z⟩ a:=by
 have p:=l.head.pl;rw[aN g (w:=⟨b,h,[]⟩) (P:=b.F.length) (by omega) rfl i c j d rfl k,nF g (w:=⟨b,h,z⟩) (P:=b.F.length) (by omega) i c j d o k];have m:=kR (h:=h) c (λe q=>(j.el e q).1) k;rw[i] at m;exact VH g l m N 0 h.D n (wL _)
def P8 {σ q u v:Type}(L:Nat) (f:Nat→Int→σ→Option u) (kj:σ→Option u) (w:Nat→Int→q→Option v) (c:q→Option v) (I:Nat→σ→q→Prop) (d:∀n (k:Nat) s,L≤k→f (n+1) (k:Int) s=kj s) (i:∀n (k:Nat) s,L≤k→w (n+1) (k:Int) s=c s)
  (a:∀n (k:Nat) s t,I k s t→k<L→∃s' t',I (k+1) s' t'∧f (n+1) (k:Int) s=f n ((k+1:Nat):Int) s'∧w (n+1) (k:Int) t=w n ((k+1:Nat):Int) t'):
  ∀n (k:Nat) s t,I k s t→L<n+k→k≤L→∃s' t',I L s' t'∧f n (k:Int) s=kj s'∧w n (k:Int) t=c t'
 |0,k,s,t,_,h,l=>by omega
 |n+1,k,s,t,j,h,l=>by
  rcases xB k L with b|b
  ·obtain⟨s',t',m,o,p⟩:=a n k s t j b;rw[o,p];exact P8 L f kj w c I d i a n (k+1) s' t' m (by omega) b
  ·have:k=L:=by omega
   subst this;exact⟨s,t,j,d n k s b,i n k t b⟩
structure ER (N:Nat) (b:AH) (lks:List AF) (pk:List AB) (p:Nat) (e:AL) (x:AD):Prop where
 to:e.to_=x.C
 dl:e.delay=x.Y
 sk:ID N x=some e.slack
 ask:∀v:Int,0≤v→v≤1125899906842624→∀(t:Int) (vol:List AB) (q:List AY),Cd N ⟨b,⟨t,vol,q,lks⟩,pk⟩ (p:Int) x v=e.asks v
def fT {N:Nat}{b:AH}{lks:List AF}{a:List AB}{p:Nat}{t:Jb}(h:0<t.Al):ER N b lks a p ⟨t.C,0,0,λx=>DJ N t x⟩ ⟨t.Al,0,t.C,0⟩:=by
 refine⟨rfl,rfl,?_,λv _ _ c vol q=>?_⟩
 ·unfold ID;rw[wJ (show 0<(⟨t.Al,0,t.C,0⟩:AD).Bf from h)];rfl
 ·unfold Cd DJ;rw[wJ (show 0<(⟨t.Al,0,t.C,0⟩:AD).Bf from h)];rfl
def bN {N:Nat}(a:18446744073709551616<N) {b:AH}{lks:List AF}{c:List AB}{p:Nat}(d:p<b.F.length):ER N b lks c p ⟨(b.F[p]).Ao,(b.F[p]).Y,2,λx=>DI N b.F[p] x⟩ ⟨0, -1,(b.F[p]).Ao,(b.F[p]).Y⟩:=by
 refine⟨rfl,rfl,rfl,λv _ _ g vol q=>?_⟩;unfold Cd DI;rw[show decide (0<(⟨0, -1,(b.F[p]).Ao,(b.F[p]).Y⟩:AD).Bf)=false from rfl,show decide ((⟨0, -1,(b.F[p]).Ao,(b.F[p]).Y⟩:AD).Aa<0)=true from rfl,wE,wD,BC d,wC];simp only[jY a]
def UH {N:Nat}{b:AH}{lks:List AF}{a:List AB}{p:Nat}{k:Nat}(c:k<b.D.length) (to d v:Int) (t:Int) (vol:List AB) (q:List AY):Cd N ⟨b,⟨t,vol,q,lks⟩,a⟩ (p:Int) ⟨0,(k:Int),to,d⟩ v=
  cond (decide ((b.D[k]).I≠4)) (cond (decide (0≤(b.D[k]).C)) ((ix a (b.D[k]).C).bind λx=>(ix lks (k:Int)).bind λy=>GX N b.D[k] y ⟨v,v⟩ ⟨x.B,x.A⟩) ((ix lks (k:Int)).bind λy=>GX N b.D[k] y ⟨v,v⟩ ⟨0,0⟩))
  (cond (decide ((b.D[k]).V=(p:Int))) ((ix a (b.D[k]).C).bind λx=>(Ez N b.D[k] ⟨v,v⟩ x).bind λy=>DV N y)
   ((ix a (b.D[k]).V).bind λx=>(Ez N b.D[k] x ⟨v,v⟩).bind λy=>(Cy N 0 y.A).bind λu=>(Cy N 0 y.B).bind λw=>DV N ⟨u,w⟩)):=by
 unfold Cd;rw[show decide (0<(⟨0,(k:Int),to,d⟩:AD).Bf)=false from rfl,show decide ((⟨0,(k:Int),to,d⟩:AD).Aa<0)=false from wM (by show ¬(k:Int)<0;omega),wE,wE,show ix b.D (⟨0,(k:Int),to,d⟩:AD).Aa=some b.D[k] from BC c,wC];unfold Gt;simp only[Cx,wC,Aay];generalize b.D[k]=l
 congr 1
 ·congr 1
  ·cases ix a l.C<;>simp only[Option.bind_none,wC]<;>cases ix lks (k:Int)<;>rfl
  ·cases ix lks (k:Int)<;>rfl
 ·congr 1
  ·cases ix a l.C<;>rfl
  ·cases ix a l.V<;>rfl
def YM {N:Nat}(i:18446744073709551616<N) {b:AH}(o:Ol N b) {lks:List AF}{j:List AB}{p:Nat}{k:Nat}(l:k<b.D.length) (d:k<lks.length) (s:(b.D[k]).I≠4) {to:AB}(t:((b.D[k]).C= -1∧to=⟨0,0⟩)∨(0≤(b.D[k]).C∧ix j (b.D[k]).C=some to)) (m n:Int):ER N b lks j p ⟨m,n,2,λx=>DT N b.D[k] lks[k] ⟨to.B,to.A⟩ x⟩ ⟨0,(k:Int),m,n⟩:=by
 refine⟨rfl,rfl,rfl,λv c a u vol q=>?_⟩;rw[UH l,wJ s,wD,BC d];have lk:=o.lk _ (wT l);show _=DT N b.D[k] lks[k] ⟨to.B,to.A⟩ v
 unfold DT;simp only[DO,wC,Aay];rcases t with ⟨g,rfl⟩|⟨g,h2⟩
 ·rw[g,show decide ((0:Int)≤ -1)=false from rfl,wE];exact WK i lk _ _ ⟨c,a⟩ ⟨c,a⟩
 ·rw[wJ g,wD,h2,wC];exact WK i lk _ _ ⟨c,a⟩ ⟨c,a⟩
def bM {N:Nat}(g:18446744073709551616<N) {b:AH}{lks:List AF}{a:List AB}{p:Nat}{k:Nat}(i:k<b.D.length) (j:(b.D[k]).I=4) (l:(b.D[k]).V=(p:Int)) {to:AB}(m:ix a (b.D[k]).C=some to) (c d:Int):ER N b lks a p ⟨c,d,2,λx=>DQ N b.D[k] to x⟩ ⟨0,(k:Int),c,d⟩:=by
 refine⟨rfl,rfl,rfl,λv o n s vol q=>?_⟩;rw[UH i,show decide ((b.D[k]).I≠4)=false by simp [j],wE,wJ l,wD,m,wC];show _=DQ N b.D[k] to v
 unfold DQ;simp only[DO,wC,Aay,WI g];congr 1;funext y;exact eY N y
def bL {N:Nat}(g:18446744073709551616<N) {b:AH}{lks:List AF}{a:List AB}{p:Nat}{k:Nat}(i:k<b.D.length) (j:(b.D[k]).I=4) (l:(b.D[k]).V≠(p:Int)) {to:AB}(m:ix a (b.D[k]).V=some to) (c d:Int):ER N b lks a p ⟨c,d,2,λx=>DP N b.D[k] to x⟩ ⟨0,(k:Int),c,d⟩:=by
 refine⟨rfl,rfl,rfl,λv t n z vol q=>?_⟩;rw[UH i,show decide ((b.D[k]).I≠4)=false by simp [j],wE,wM l,wE,m,wC];show _=DP N b.D[k] to v
 unfold DP;simp only[DO,wC,Aay,WI g,Nf,Y7];congr 1;funext y;obtain⟨u,o⟩:=Tj N 0 y.A;obtain⟨w,s⟩:=Tj N 0 y.B;rw[o,s];simp only[wC];exact eY N _
def ZF {α β}(f:α→β) (l:List α) (x:α):(l++[x]).map f=l.map f++[f x]:=by rw[yP];rfl
def kW {α}{P:α→Prop}{l:List α}{x:α}(h:∀z∈l,P z) (b:P x):∀z∈l++[x],P z:=λz a=>by
 rcases xX.1 a with a|a
 ·exact h z a
 ·rw[xV.1 a];exact b
set_option maxHeartbeats 1000000 in
def kG {N:Nat}(M:18446744073709551616<N) {b:AH}(J:Ol N b) {h:AX}(aa:MQ b h.D) {a:List AB}(w:a.length=b.F.length) {p:Nat}(A:p<b.F.length) {in_:Cn}(ad:in_.An.length≤1800000):
  ∃c:List (AL×AD),Hv N ⟨b,h,a⟩ (p:Int) in_.An=some (c.map (·.1))∧Fg N ⟨b,h,a⟩ (p:Int) in_=some (c.map (·.2))∧∀z∈c,ER N b h.D a p z.1 z.2:=by
 have ae:=J.head.li;have ab:=J.head.pl;unfold Hv Fg;obtain⟨s1,t1,⟨Q,rfl,rfl,i1,n1⟩,e1,e2⟩:=P8 in_.An.length (λn i l=>B4 N ⟨b,h,a⟩ (p:Int) in_.An (B6 N ⟨b,h,a⟩ (p:Int)) n l i) (B6 N ⟨b,h,a⟩ (p:Int))
  (λn i l=>CQ N ⟨b,h,a⟩ (p:Int) in_ (C9 N ⟨b,h,a⟩ (p:Int)) n l i) (C9 N ⟨b,h,a⟩ (p:Int))
  (λk s t=>∃c:List (AL×AD),s=c.map (·.1)∧t=c.map (·.2)∧(∀z∈c,ER N b h.D a p z.1 z.2)∧c.length≤k) (λn k s j=>by
   simp only[B4];rw[Dk j];rfl) (λn k s j=>by
   simp only[CQ];rw[Dk j];rfl) (λn k s t hi j=>by
  obtain⟨c,rfl,rfl,U,h2⟩:=hi;simp only[B4,CQ];rw[D2 j,wD,wD,BC j];simp only[wC,GQ,GF,BF (show k<4611686018427387904 by omega),Qh,Eb];unfold Iu;simp only[Fe,wC,Eb,Aay];generalize in_.An[k]=t
  have m:(∃d:List (AL×AD),c.map (·.1)=d.map (·.1)∧c.map (·.2)=d.map (·.2)∧(∀z∈d,ER N b h.D a p z.1 z.2)∧d.length≤k+1):=⟨c,rfl,rfl,U,by omega⟩
  cases W:(cond (decide (t.Ay≠(p:Int))) true (!(decide (0≤t.Bh)&&decide (t.Bh<(b.Z.length:Int))))||decide (t.Al≤0))
  ·have ac:¬t.Al≤0:=by
    rw[xI] at W;exact Aaf W.2
   rw[wE,yU];have g:(∃d:List (AL×AD),c.map (·.1)++[(⟨t.C,0,0,(λx=>DJ N t x)⟩:AL)]=d.map (·.1)∧c.map (·.2)++[(⟨t.Al,0,t.C,0⟩:AD)]=d.map (·.2)∧(∀z∈d,ER N b h.D a p z.1 z.2)∧d.length≤k+1):=
    ⟨c++[(⟨t.C,0,0,(λx=>DJ N t x)⟩,⟨t.Al,0,t.C,0⟩)],by rw[ZF],by rw[ZF],kW U (fT (by omega)),by simp;omega⟩
   have q:∀{α:Type} (x:Option α),chk (room ((c.map (·.1)).length+1) 32) x=x:=λx=>K4 (by rw[xH];omega) x;have u:∀{α:Type} (x:Option α),chk (room ((c.map (·.2)).length+([(⟨t.Al,0,t.C,0⟩:AD)]:List AD).length) 32) x=x:=λx=>K4 (by rw[xH,Aa4];omega) x;by_cases hm:t.C= -1
   ·rw[show decide (t.C≠ -1)=false by simp [hm],wJ hm,wM (show ¬t.C< -1 by omega),wM (show ¬(b.F.length:Int)≤t.C by omega)];simp only[wE,wD,wC,Bool.or_self,q,u];exact⟨_,_,g,rfl,rfl⟩
   ·rw[show decide (t.C≠ -1)=true by simp [hm],wM hm];simp only[wD,wE];by_cases X:0≤t.C∧t.C<b.F.length
    ·obtain⟨y,o,_⟩:=XC (l:=b.F) X.1 X.2;rw[wJ X.1,wJ X.2,wM (show ¬t.C< -1 by omega),wM (show ¬(b.F.length:Int)≤t.C by omega),o,BC A];simp only[zG,xE,wE,wC,Bool.or_self];by_cases v:y.Av=(b.F[p]).Av
     ·rw[wJ v,show decide (y.Av≠(b.F[p]).Av)=false by simp [v]];simp only[wE,wD,q,u];exact⟨_,_,g,rfl,rfl⟩
     ·rw[wM v,show decide (y.Av≠(b.F[p]).Av)=true by simp [v]];exact⟨_,_,m,rfl,rfl⟩
    ·rw[show (decide (0≤t.C)&&decide (t.C<(b.F.length:Int)))=false by
      rw[←yN];simp only[wI,wW];exact X,show(decide (t.C< -1)||decide ((b.F.length:Int)≤t.C))=true by
      simp only[wZ,wW];omega]
     exact⟨_,_,m,rfl,rfl⟩
  ·rw[Bool.true_or,Bool.true_or];exact⟨_,_,m,rfl,rfl⟩) N 0 [] [] ⟨[],rfl,rfl,(λz hz=>by cases hz),wV _⟩ (by omega) (wL _)
 rw[show B4 N ⟨b,h,a⟩ (p:Int) in_.An (B6 N ⟨b,h,a⟩ (p:Int)) N [] 0=_ from e1,show CQ N ⟨b,h,a⟩ (p:Int) in_ (C9 N ⟨b,h,a⟩ (p:Int)) N [] 0=_ from e2];unfold B6 C9;clear e1 e2;obtain⟨s1,t1,⟨z2,rfl,rfl,i2,n2⟩,e1,e2⟩:=P8 b.D.length (λn i l=>B1 N ⟨b,h,a⟩ (p:Int) (CD N ⟨b,h,a⟩ (p:Int)) n l i) (CD N ⟨b,h,a⟩ (p:Int))
  (λn i l=>CB N ⟨b,h,a⟩ (p:Int) (C8 N ⟨b,h,a⟩ (p:Int)) n l i) (C8 N ⟨b,h,a⟩ (p:Int))
  (λk s t=>∃c:List (AL×AD),s=c.map (·.1)∧t=c.map (·.2)∧(∀z∈c,ER N b h.D a p z.1 z.2)∧c.length≤Q.length+k) (λn k s j=>by
   simp only[B1];rw[Dk j];rfl) (λn k s j=>by
   simp only[CB];rw[Dk j];rfl) (λn k s t hi j=>by
  obtain⟨c,rfl,rfl,U,h2⟩:=hi;have B:k<h.D.length:=by rw[aa.1];exact j
  have G:=J.links _ (wT j);have lk:=J.lk _ (wT j);simp only[B1,CB];rw[D2 j,wD,wD,BC j,BC B];simp only[wC,DZ,EZ,Hi,BF (show k<4611686018427387904 by omega)];have q:∀{α:Type} (x:Option α),chk (room ((c.map (·.1)).length+1) 32) x=x:=λx=>K4 (by rw[xH];omega) x;have u:∀{α:Type} (x:Option α),chk (room ((c.map (·.2)).length+1) 32) x=x:=λx=>K4 (by rw[xH];omega) x;simp only[q,u];have g:∀{e x},ER N b h.D a p e x→(∃d:List (AL×AD),c.map (·.1)++[e]=d.map (·.1)∧c.map (·.2)++[x]=d.map (·.2)∧(∀z∈d,ER N b h.D a p z.1 z.2)∧d.length≤Q.length+(k+1)):=λ{e x} hE=>
   ⟨c++[(e,x)],by rw[ZF],by rw[ZF],kW U hE,by simp;omega⟩
  by_cases hF:(b.D[k]).V=(p:Int)
  ·rw[wJ hF];by_cases H:(b.D[k]).I=4
   ·rw[show decide ((b.D[k]).I≠4)=false by simp [H]];obtain⟨y,o,_⟩:=XC (l:=a) (i:=(b.D[k]).C) (G.to.resolve_left (lk.seep H).2.2).1 (by rw[w];exact(G.to.resolve_left (lk.seep H).2.2).2);simp only[Bool.and_false,wE,wD,o,wC];exact⟨_,_,g (bM M j H hF o _ _),rfl,rfl⟩
   ·rw[show decide ((b.D[k]).I≠4)=true by simp [H]];simp only[zG,wD];by_cases K:(b.D[k]).C= -1
    ·rw[show decide ((b.D[k]).C≠ -1)=false by simp [K],wE];exact⟨_,_,g (YM M J j B H (to:=⟨0,0⟩) (.inl ⟨K,rfl⟩) _ _),rfl,rfl⟩
    ·obtain⟨y,o,_⟩:=XC (l:=a) (i:=(b.D[k]).C) (G.to.resolve_left K).1 (by rw[w];exact(G.to.resolve_left K).2);rw[show decide ((b.D[k]).C≠ -1)=true by simp [K],wD,o,wC,wC];exact⟨_,_,g (YM M J j B H (to:=y) (.inr ⟨(G.to.resolve_left K).1,o⟩) _ _),rfl,rfl⟩
  ·rw[wM hF];simp only[zB,wE];cases W:(decide ((b.D[k]).C=(p:Int))&&decide ((b.D[k]).I=4))
   ·exact⟨_,_,⟨c,rfl,rfl,U,by omega⟩,rfl,rfl⟩
   ·simp only[wI,wW] at W;obtain⟨y,o,_⟩:=XC (l:=a) (i:=(b.D[k]).V) G.fr.1 (by rw[w];exact G.fr.2);simp only[wD,o,wC];exact⟨_,_,g (bL M j W.2 hF o _ _),rfl,rfl⟩) N 0 _ _ ⟨Q,rfl,rfl,i1,wV _⟩ (by omega) (wL _)
 rw[show B1 N ⟨b,h,a⟩ (p:Int) (CD N ⟨b,h,a⟩ (p:Int)) N (Q.map (·.1)) 0=_ from e1,show CB N ⟨b,h,a⟩ (p:Int) (C8 N ⟨b,h,a⟩ (p:Int)) N (Q.map (·.2)) 0=_ from e2];unfold CD C8 Hh GE;rw[BC A,wC,wC];by_cases hd:(b.F[p]).R=0
 ·rw[show decide ((b.F[p]).R≠0)=false by simp [hd],wE,wE];exact⟨z2,rfl,rfl,i2⟩
 ·rw[show decide ((b.F[p]).R≠0)=true by simp [hd],wD,wD,K4 (by rw[xH];omega),K4 (by rw[xH];omega)];exact⟨z2++[(⟨(b.F[p]).Ao,(b.F[p]).Y,2,λx=>DI N b.F[p] x⟩,⟨0, -1,(b.F[p]).Ao,(b.F[p]).Y⟩)],by rw[ZF],by rw[ZF],kW i2 (bN M A)⟩
def Pq (e:AL) (v:Int):AB:=(e.asks v).getD ⟨0,0⟩
def mS (a:AB):List (AL×Int)→Int→Int
 |[],m=>m
 |x::r,m=>mS a r (Ib (m+Ib ((Pq x.1 a.B).A+x.1.slack)))
def zS (a:AB):List (AL×Int)→Int→Int
 |[],z=>z
 |x::r,z=>zS a r (z+((Pq x.1 a.A).B-x.1.slack))
def Ta (a:AB) (x:AL×Int):∀(l:List (AL×Int)) (m:Int),mS a (l++[x]) m=Ib (mS a l m+Ib ((Pq x.1 a.B).A+x.1.slack))
 |[],m=>rfl
 |y::l,m=>by rw[yY,mS,mS,Ta a x l]
def TT (a:AB) (x:AL×Int):∀(l:List (AL×Int)) (z:Int),zS a (l++[x]) z=zS a l z+((Pq x.1 a.A).B-x.1.slack)
 |[],z=>rfl
 |y::l,z=>by rw[yY,zS,zS,TT a x l]
def Xk {P:Nat}{d:AB}{b:List (AL×Int)}(h:Xb P d b):∀k,k≤b.length→(0≤mS d (b.take k) 0∧mS d (b.take k) 0≤9223372036854775807)∧(-(k:Int)*4503599627370498≤zS d (b.take k) 0∧zS d (b.take k) 0≤(k:Int)*4503599627370498)
 |0,_=>by simp [mS,zS]
 |k+1,j=>by
  obtain⟨q,s⟩:=Xk h k (by omega);have g:k<b.length:=j;rw[Kz g,Ta,TT];have i:=h.ok _ (wT g);generalize b[k]=x at i
  obtain⟨a,c,l,n,t,u,v,w,L⟩:=i.ask;have y:=i.sk;have o:Pq x.1 d.B=a:=by unfold Pq;rw[l];rfl
  have p:Pq x.1 d.A=c:=by unfold Pq;rw[n];rfl
  rw[o,p];generalize mS d (b.take k) 0=m at*
  generalize zS d (b.take k) 0=z at*
  refine⟨?_,by omega⟩;unfold Ib;omega
def Xb.ask {P:Nat}{d:AB}{b:List (AL×Int)}(h:Xb P d b) {k:Nat}(l:k<b.length):∃a c,(b[k]).1.asks d.B=some a∧(b[k]).1.asks d.A=some c∧Pq (b[k]).1 d.B=a∧Pq (b[k]).1 d.A=c∧(0≤a.A∧a.A≤9223372036854775807)∧(0≤c.B∧c.B≤4503599627370496)∧((b[k]).1.slack=0∨(b[k]).1.slack=2):=by
 have g:=h.ok _ (wT l);obtain⟨a,c,i,j,o,m,n,p,L⟩:=g.ask;exact⟨a,c,i,j,by unfold Pq;rw[i];rfl,by unfold Pq;rw[j];rfl,m,n,g.sk⟩
def pY {N:Nat}(hN:18446744073709551616<N) {b:AH}{t:Int}{vol:List AB}{q:List AY}{lks:List AF}{g:List AB}{p:Nat}{d:AB}(v:g[p]? =some d) (D:IK d) {P:Nat}{l:List (AL×Int)}(x:Xb P d l) (J:l.length≤200) {xs:List AD}(K:xs.length=l.length)
  (F:∀k (h1:k<l.length) (h2:k<xs.length),ER N b lks g p (l[k]).1 xs[k]) (k:Nat) (hk:k≤l.length):
  GK N ⟨b,⟨t,vol,q,lks⟩,g⟩ (p:Int) (xs.take k)=Fj N d (mS d (l.take k) 0) (zS d (l.take k) 0):=by
 obtain⟨M,k2,Q⟩:=D;have G:p<g.length:=(wU.1 v).1;have H:g[p]=d:=(wU.1 v).2;unfold GK;rw[BC G,H];simp only[wC];have y:(xs.take k).length=k:=by rw[xT];omega
 obtain⟨⟨m,z⟩,⟨rfl,rfl⟩,e⟩:=F4 (xs.take k).length (λn i (s:Int×Int)=>DF N ⟨b,⟨t,vol,q,lks⟩,g⟩ (p:Int) (xs.take k) d d (Db N d d) n s.1 s.2 i) (λs=>Db N d d s.1 s.2) (λj s=>s.1=mS d (l.take j) 0∧s.2=zS d (l.take j) 0) (λn j s C=>by
  simp only[DF];rw[Dk C];rfl) (λn j s U C=>by
  obtain⟨m,z⟩:=s;obtain⟨rfl,rfl⟩:=U;have o:j<l.length:=by omega
  have I:j<xs.length:=by omega
  obtain⟨⟨m0,m1⟩,z0,z1⟩:=Xk x j (by omega);obtain⟨a,c,V,W,X,Y,a2,c1,sk⟩:=x.ask o;have R:=F j o I;have Z:(xs.take k)[j]=xs[j]:=List.getElem_take;refine⟨(_,_),⟨rfl,rfl⟩,?_⟩;rw[Kz o,Ta,TT,X,Y];simp only[DF];rw[D2 C,wD,BC C,Z,wC,R.ask _ M (by omega),V,wC,wC,R.ask _ (by omega) Q,W,wC];simp only[wC,R.sk];generalize mS d (l.take j) 0=m at*
  generalize zS d (l.take j) 0=z at*
  generalize (l[j]).1.slack=sl at*
  rw[WL,Y7,Uc N (a:=m) (b:=a.A) (by unfold AA;omega) (by unfold AA;omega),wC,Uc N (a:=Ib (m+a.A)) (b:=sl) (W2 _) (by unfold AA;omega),wC,La N (a:=z) (b:=c.B) (by omega) (by omega) (by omega) (by omega),wC,K3 N (a:=z+c.B) (b:=sl) (by omega) (by omega) (by omega) (by omega),wC,BF (by omega)];congr 1
  ·unfold Ib;omega
  ·omega) N 0 (0,0) ⟨rfl,rfl⟩ (by omega) (wL _)
 rw[show DF N ⟨b,⟨t,vol,q,lks⟩,g⟩ (p:Int) (xs.take k) d d (Db N d d) N 0 0 0=_ from e];simp only[y];unfold Db Fj;rw[Y7];congr 1;funext u;congr 1;funext w;rw[eY];rfl
set_option maxHeartbeats 1000000 in
def kF {N:Nat}(hN:18446744073709551616<N) {b:AH}(hb:Ol N b) {t:Int}(h0:0≤t∧t≤33554432) {vol:List AB}(hv:vol.length=b.F.length) {o:List AY}{lks:List AF}{g:List AB}{p:Nat}(aa:p<b.F.length) {d:AB}(M:g[p]? =some d) (ah:IK d)
  (hq:PQ b.F.length (t+1) o) (ar:o.length+300<4398048301104) {j:List (AL×Int)} (Q:Xb b.F.length d j) (I:(j.map (·.2)).sum≤1099511627776) (ai:j.length≤200) {xs:List AD} (ab:xs.length=j.length)
  (ad:∀k (h1:k<j.length) (h2:k<xs.length),ER N b lks g p (j[k]).1 xs[k]) {in_:Cn} (U:Fg N ⟨b,⟨t,vol,o,lks⟩,g⟩ (p:Int) in_=some xs):
  HE N ⟨b,⟨t,vol,o,lks⟩,g⟩ (p:Int) in_=Hu N ⟨b,⟨t,vol,o,lks⟩,g⟩ (p:Int) (j.map (·.1)):=by
 obtain⟨k1,k2,k3⟩:=ah;have G:=hb.places _ (wT aa);have J:p<g.length:=(wU.1 M).1;have K:g[p]=d:=(wU.1 M).2;have ae:∀x∈j.map (·.2),0≤x:=λx U=>by
  obtain⟨z,hz,rfl⟩:=xR.1 U;exact(Q.ok z hz).s0
 have hD:0≤d.A-d.B:=by omega
 unfold HE Hu;rw[U,wC,BC aa,BC J,K];simp only[wC];generalize ao:b.F[p]=pl at G
 have af:=λ(q:List AY) (k:Nat) (D:k≤j.length)=>pY hN (b:=b) (t:=t) (vol:=vol) (q:=q) (lks:=lks) M ⟨k1,k2,k3⟩ Q ai ab ad k D;obtain⟨⟨z,m,q⟩,q',⟨I1,I2,I3,I4,I5,I6,I7,I8⟩,e1,e2⟩:=P8 (j.map (·.1)).length (λn i (s:Int×Int×List AY)=>C1 N ⟨b,⟨t,vol,o,lks⟩,g⟩ (j.map (·.1)) d (C2 N ⟨b,⟨t,vol,o,lks⟩,g⟩ (p:Int) pl d) n i s.1 s.2.1 s.2.2) (λs=>C2 N ⟨b,⟨t,vol,o,lks⟩,g⟩ (p:Int) pl d s.1 s.2.1 s.2.2)
  (λn i (s:List AY)=>CP N ⟨b,⟨t,vol,o,lks⟩,g⟩ (p:Int) xs (C7 N ⟨b,⟨t,vol,o,lks⟩,g⟩ (p:Int) xs pl) n i s) (C7 N ⟨b,⟨t,vol,o,lks⟩,g⟩ (p:Int) xs pl)
  (λk s r=>(0≤s.2.1∧s.2.1≤9223372036854775807)∧(-(k:Int)*4503599627370498≤s.1∧s.1≤(k:Int)*4503599627370498)∧(s.1-s.2.1)*1099511627776≤((j.map (·.2)).take k).sum*(d.A-d.B)∧PQ b.F.length (t+1) s.2.2∧s.2.2.length≤o.length+k∧s.1=zS d (j.take k) 0∧s.2.1=mS d (j.take k) 0∧r=s.2.2) (λn k s D=>by
  simp only[C1];rw[Dk D];rfl) (λn k s D=>by
  simp only[CP];rw[Dk (by rw[xH] at D;omega)];rfl) (λn k s r hi D=>by
  obtain⟨z,m,q⟩:=s;obtain⟨I1,I2,I3,I4,I5,I6,I7,I8⟩:=hi;have i1:0≤m∧m≤9223372036854775807:=I1;have i2: -(k:Int)*4503599627370498≤z∧z≤(k:Int)*4503599627370498:=I2;have i3:(z-m)*1099511627776≤((j.map (·.2)).take k).sum*(d.A-d.B):=I3;have i4:PQ b.F.length (t+1) q:=I4;have i5:q.length≤o.length+k:=I5;have i6:z=zS d (j.take k) 0:=I6;have i7:m=mS d (j.take k) 0:=I7;have i8:r=q:=I8;clear I1 I2 I3 I4 I5 I6 I7 I8;subst i8;have v:k<j.length:=by rw[xH] at D;exact D
  have V:k<xs.length:=by omega
  have W:=Q.ok _ (wT v);have R:=ad k v V;have X:zS d (j.take (k+1)) 0=z+((Pq (j[k]).1 d.A).B-(j[k]).1.slack):=by rw[Kz v,TT,i6]
  have Z:mS d (j.take (k+1)) 0=Ib (m+Ib ((Pq (j[k]).1 d.B).A+(j[k]).1.slack)):=by rw[Kz v,Ta,i7]
  have lk:=af r k (by omega);rw[←i6,←i7] at lk;have st:=OO (l:=j.map (·.2)) (k:=k) (by rw[xH];exact v);have sl:=JV ae k;have aj:=JV ae (k+1);simp only[C1,CP];rw[D2 D,D2 V,wD,wD,BC D,BC V,BC J,K];simp only[List.getElem_map] at st ⊢;generalize j[k]=x at W st R X Z
  obtain⟨e,sx⟩:=x;obtain⟨a,c,ea,ec,a1,a2,c1,ac,L⟩:=W.ask;have L:(c.B-a.A-2*e.slack)*1099511627776≤sx*(d.A-d.B):=L;have sk:=W.sk;have ea:e.asks d.B=some a:=ea;have ec:e.asks d.A=some c:=ec;have sk:e.slack=0∨e.slack=2:=sk;have g1:Pq e d.B=a:=by unfold Pq;rw[ea];rfl
  have g2:Pq e d.A=c:=by unfold Pq;rw[ec];rfl
  rw[g2] at X;rw[g1] at Z;obtain⟨y,ey,y1,y2⟩:=TY (N:=N) ⟨k1,k2,k3⟩ (m:=m) (z:=z) i1 (by omega) (yK sl.2 I) i3;obtain⟨ak,al,am⟩:=y1;have H:IK ⟨min a.B y.B,min c.A y.A⟩:=⟨by show 0≤min _ _;omega,by show min _ _≤min _ _;omega,by show min _ _≤_;omega⟩
  obtain⟨q',u,q1,q2⟩:=UM (N:=N) (w:=⟨b,⟨t,vol,r,lks⟩,g⟩) (q:=r) (by omega) rfl rfl h0 i4 (by omega) W.to W.dl H;rw[ey] at lk;have R1:=R.to;have R2:=R.dl;have R1:e.to_=(xs[k]).C:=R1;have R2:e.delay=(xs[k]).Y:=R2;have an:pL xs (k:Int)=some (xs.take k):=by
   unfold pL;rw[wG ⟨by omega,by omega,by omega⟩,Aan]
  rw[an];simp only[wC,ea,ec,ey];have A1:=R.ask d.B k1 (by omega) t vol r;have A2:=R.ask d.A (by omega) k3 t vol r;have A1:Cd N ⟨b,⟨t,vol,r,lks⟩,g⟩ (p:Int) xs[k] d.B=e.asks d.B:=A1;have A2:Cd N ⟨b,⟨t,vol,r,lks⟩,g⟩ (p:Int) xs[k] d.A=e.asks d.A:=A2;rw[ea] at A1;rw[ec] at A2;rw[u,wC,Uc N (a:=a.A) (b:=e.slack) (by unfold AA;omega) (by unfold AA;omega),wC,Uc N (a:=m) (by unfold AA;omega) (W2 _),wC,K3 N (by omega) (by omega) (by omega) (by omega),wC,La N (by omega) (by omega) (by omega) (by omega),wC,BF (by omega),lk,wC,A1,wC,A2,wC];refine⟨(z+(c.B-e.slack),Ib (m+Ib (a.A+e.slack)),q'),q',⟨?_,?_,?_,q1,?_,X.symm,Z.symm,rfl⟩,rfl,?_⟩
  ·show 0≤Ib _∧Ib _≤_
   unfold Ib;omega
  ·show -((k+1:Nat):Int)*4503599627370498≤z+(c.B-e.slack)∧z+(c.B-e.slack)≤((k+1:Nat):Int)*4503599627370498
   omega
  ·show(z+(c.B-e.slack)-Ib (m+Ib (a.A+e.slack)))*1099511627776≤_
   rw[st];have au:0≤sx:=W.s0;have ag:=zU aj.1 hD;rw[st] at ag;by_cases ap:m+(a.A+e.slack)≤9223372036854775807
   ·have e3:Ib (m+Ib (a.A+e.slack))=m+(a.A+e.slack):=by unfold Ib;omega
    rw[e3,Int.add_mul];show _≤_+sx*(d.A-d.B)
    generalize sx*(d.A-d.B)=A at*
    generalize ((j.map (·.2)).take k).sum*(d.A-d.B)=B at*
    omega
   ·have e3:Ib (m+Ib (a.A+e.slack))=9223372036854775807:=by unfold Ib;omega
    rw[e3];refine yK ?_ ag;omega
  ·show q'.length≤_
   have:q'.length≤r.length+1:=q2;omega
  ·unfold Hg at u;have av:e.to_= -1∨0≤e.to_∧e.to_<b.F.length:=W.to;unfold GD;rw[BF (by omega),←R1,←R2];by_cases hm:e.to_= -1
   ·rw[show decide (e.to_≠ -1)=false by simp [hm],wE] at u;rw[wM (show ¬0≤e.to_ by omega),wE];cases u;rfl
   ·rw[show decide (e.to_≠ -1)=true by simp [hm],wD,Aay] at u;rw[wJ (show 0≤e.to_ by omega),wD,kA (by omega) i4.srt (λx U=>(i4.el x U).1) (by omega) H,u,wC]) N 0 (0,0,o) o ⟨⟨yE 0,show(0:Int)≤9223372036854775807 by decide⟩,⟨show -((0:Nat):Int)*4503599627370498≤0 by decide,show(0:Int)≤((0:Nat):Int)*4503599627370498 by decide⟩,by simp,hq,wV _,rfl,rfl,rfl⟩ (by rw[xH];omega) (wL _)
 rw[show C1 N ⟨b,⟨t,vol,o,lks⟩,g⟩ (j.map (·.1)) d (C2 N ⟨b,⟨t,vol,o,lks⟩,g⟩ (p:Int) pl d) N 0 0 0 o=_ from e1,show CP N ⟨b,⟨t,vol,o,lks⟩,g⟩ (p:Int) xs (C7 N ⟨b,⟨t,vol,o,lks⟩,g⟩ (p:Int) xs pl) N 0 o=_ from e2];rw[xH] at I2 I3 I5 I6 I7;rw[Aap (by rw[xH];exact wV _)] at I3;have i1:0≤m∧m≤9223372036854775807:=I1;have i2: -(j.length:Int)*4503599627370498≤z∧z≤(j.length:Int)*4503599627370498:=I2;have i3:(z-m)*1099511627776≤(j.map (·.2)).sum*(d.A-d.B):=I3;have i4:PQ b.F.length (t+1) q:=I4;have i5:q.length≤o.length+j.length:=I5;have i6:z=zS d (j.take j.length) 0:=I6;have i7:m=mS d (j.take j.length) 0:=I7;have i8:q'=q:=I8;obtain⟨y,ey,⟨ak,al,am⟩,y2⟩:=TY (N:=N) ⟨k1,k2,k3⟩ (m:=m) (z:=z) i1 (by omega) I i3;have lk:=af q j.length (wV _);rw[←i6,←i7,←ab,xU] at lk;have aq:0≤pl.Ah∧pl.Ah≤1125899906842624:=G.cap;have aw:0≤pl.Y∧pl.Y≤240:=G.delay;unfold C7 C2;simp only[i8];rw[lk,ey,wC,wC,K3 N (by omega) (by omega) (by omega) (by omega),wC,K3 N (by omega) (by omega) (by omega) (by omega),wC,Cw (n:=y.B-pl.Ah) (by omega) (by omega),Cw (n:=y.A-pl.Ah) (by omega) (by omega),eY];unfold HO GC Hg;rw[wC];have H:IK ⟨max 0 (y.B-pl.Ah),max 0 (y.A-pl.Ah)⟩:=⟨by show 0≤max 0 _;omega,by show max 0 _≤max 0 _;omega,by show max 0 _≤_;omega⟩
 by_cases hm:pl.Ao= -1
 ·rw[show decide (pl.Ao≠ -1)=false by simp [hm],wE,wM (show ¬0≤pl.Ao by omega),wE,wC]
 ·have hd:=G.down.resolve_left hm;rw[show decide (pl.Ao≠ -1)=true by simp [hm],wD,wJ (show 0≤pl.Ao from hd.1),wD,kA (by omega) i4.srt (λx U=>(i4.el x U).1) (by omega) H,Aay]
set_option maxHeartbeats 1000000 in
def pR {N:Nat}(u:18446744073709551616<N) {b:AH}(o:Ol N b) {h:AX}(hv:h.G.length=b.F.length) (Q:∀v∈h.G,IK v) (h0:0≤h.H∧h.H≤33554432) (hq:PQ b.F.length h.H h.E) (g:MQ b h.D) {in_:Cn}(hf:in_.Bb.length≤1000) (hc:in_.Az.length≤1000) (af:in_.An.length≤90) (ht:∀t∈in_.An,AA t.Al) {sure:List Bool}{m:List AB}(hr:∀s∈m,AA s.B∧AA s.A)
  (ag:h.E.length≤4398048211104):Jm N b h in_ sure m=Ki N b h in_ sure m:=by
 have ah:=o.head.pl;have ai:=o.head.li;have aj:=g.1;have U:OX (b.F.length:Int) (b.F.length:Int) 16=true:=by simp [OX];omega
 unfold Jm Ki Cq Ci;rw[K4 (by simp only[Aao];omega),K4 (by simp only[Aao];omega),K4 (by simp only[Aao];omega),wC,K4 (by simp only[Aao];omega),wC,U];simp only[yD,chk,wD];generalize V:List.replicate ((b.F.length:Int):Int).toNat ((⟨0,0⟩:AB):AB)=y
 have z:y.length=b.F.length:=by rw[←V];simp
 have W:∀x∈y,x=⟨0,0⟩:=λx hx=>by rw[←V] at hx;exact List.eq_of_mem_replicate hx
 obtain⟨l1,I,k1⟩:=WS u (w:=⟨b,⟨h.H,h.G,h.E,h.D⟩,y⟩) rfl o (in_:=in_) (by omega) (by omega) sure g;rw[kD N b ⟨h.H,h.G,h.E,h.D⟩ [] y,I,wC,wC];rw[kB u o (h:=⟨h.H,h.G,h.E,l1⟩) hv Q (t:=h.H) hq (by show h.E.length≤_;omega) k1 z hr];obtain⟨a,d,c,e2,k2,k3,k4,k5⟩:=S7 u (w:=⟨b,⟨h.H,h.G,h.E,l1⟩,y⟩) rfl o hv Q (t:=h.H) rfl hq (by show h.E.length≤_;omega) k1 z W hr;rw[e2,wC,wC];have k3:a.length≤h.E.length:=k3;obtain⟨⟨l,vs,q⟩,⟨X,Y,q'⟩,⟨J,i2,i4,i5,K⟩,e3,e4⟩:=P8 b.F.length (λn i (s:List AB×List AB×List AY)=>Em N b h in_ (a,d,c) (En N h (a,d,c)) n i s.1 s.2.1 s.2.2) (λs=>En N h (a,d,c) s.1 s.2.1 s.2.2)
  (λn i (s:List AB×List AB×List AY)=>D5 N b h in_ (a,d,c) (Ec N h (a,d,c)) n s.1 i s.2.1 s.2.2) (λs=>Ec N h (a,d,c) s.1 s.2.1 s.2.2)
  (λk s r=>L9 IK b.F.length s.1∧s.2.1.length=b.F.length∧PQ b.F.length (h.H+1) s.2.2∧s.2.2.length≤a.length+k*(in_.An.length+101)∧r=(s.1.take k,s.2.1,s.2.2)) (λn k s g=>by
  simp only[Em];rw[Dk g];rfl) (λn k s g=>by
  simp only[D5];rw[Dk g];rfl) (λn k s r hi g=>by
  obtain⟨l,vs,q⟩:=s;obtain⟨I1,I2,I4,I5,I6⟩:=hi;have J:L9 IK b.F.length l:=I1;have i2:vs.length=b.F.length:=I2;have i4:PQ b.F.length (h.H+1) q:=I4;have i5:q.length≤a.length+k*(in_.An.length+101):=I5;have K:r=(l.take k,vs,q):=I6;clear I1 I2 I4 I5 I6;subst K;have Z:k<c.length:=by rw[k5.1];exact g
  have p:=wR Z;have C:=k5.2 _ (wT Z);generalize c[k]=ac at p C
  have ak:k*(in_.An.length+101)+(in_.An.length+101)=(k+1)*(in_.An.length+101):=by rw[yB];omega
  have ad:(k+1)*(in_.An.length+101)≤64*191:=Aat (by omega) (by omega);obtain⟨M,ep,p3,p4,p5⟩:=Wb u (w:=⟨b,⟨h.H,vs,q,d⟩,c⟩) rfl o k4 k5 g p (takes:=in_.An) (by omega) ht;obtain⟨s1,v1,q1,el,a1,a2,a3,a4,a5,a6⟩:=WT u (w:=⟨b,⟨h.H,vs,q,d⟩,c⟩) rfl o (t:=h.H) rfl h0 i2 g p C i4 (by show q.length+300<4398048301104;omega) p3 p4 (by omega);obtain⟨zx,x1,x2,x3⟩:=kG u o (h:=⟨h.H,vs,q,d⟩) k4 k5.1 g (in_:=in_) (by omega);rw[ep] at x1;have x1:=wP x1;have aa:(zx.map (·.2)).length=M.length:=by
   have:=wH List.length x1;rw[xH,xH] at this;rw[xH];omega
  have ab:∀j (h1:j<M.length) (h2:j<(zx.map (·.2)).length),ER N b d c k (M[j]).1 (zx.map (·.2))[j]:=λj h1 h2=>by
   have V:j<zx.length:=by rw[xH] at h2;exact h2
   have I:(M.map (·.1))[j]? =(zx.map (·.1))[j]? :=by rw[x1]
   rw[zQ,zQ,wR h1,wR V] at I;have I:(M[j]).1=(zx[j]).1:=wP I;rw[I,List.getElem_map];exact x3 _ (wT V)
  have rl:=kF u o (t:=h.H) h0 i2 g p C i4 (by omega) p3 p4 (by omega) aa ab x2;have a6:q1.length≤q.length+M.length+1:=a6;have ae:=J.1;simp only[Em,D5];rw[D2 g,wD,wD,ep,wC,el,wC,BC (show k<l.length by omega),rl,el];simp only[wC,BF (show k<4611686018427387904 by omega),SR];rw[K4 (by rw[xT];omega)];refine⟨(l.set k s1,vs.set k v1,q1),((l.set k s1).take (k+1),vs.set k v1,q1),⟨J.set k a1,by show(vs.set k v1).length=_;rw[Aae];exact i2,a5,by show q1.length≤_;omega,rfl⟩,rfl,?_⟩;have:l.take k++[s1]=(l.set k s1).take (k+1):=by
   rw[Kz (show k<(l.set k s1).length by rw[Aae];omega),List.getElem_set_self];congr 1;rw[List.take_set_of_le (wV _)]
  rw[this]) N 0 (y,h.G,a) ([],h.G,a) ⟨⟨z,λx hx=>by rw[W x hx];exact⟨by decide,by decide,by decide⟩⟩,hv,k2,by simp,by rw[List.take_zero]⟩ (by omega) (wL _)
 rw[show Em N b h in_ (a,d,c) (En N h (a,d,c)) N 0 y h.G a=En N h (a,d,c) l vs q from e3,show D5 N b h in_ (a,d,c) (Ec N h (a,d,c)) N [] 0 h.G a=Ec N h (a,d,c) X Y q' from e4];have J:L9 IK b.F.length l:=J;have K:(X,Y,q')=(l.take b.F.length,vs,q):=K;rw[←J.1,xU] at K;cases K;rfl
def uB (h:AX) (s:BQ):Prop:=∀e∈h.E,e.G.B≤MT s.E e.K e.C∧MT s.E e.K e.C≤e.G.A
def vS (h:AX) (s:BQ):Prop:=∀x∈s.E,∃e∈h.E,e.K=x.K∧e.C=x.C
set_option maxHeartbeats 1000000 in
def bD {N:Nat}(hN:9007199254740992<N) {b:AH}{t:BQ}(s:LU b t) (ab:t.E.length≤500) (H:AX) (hq:H.E.length≤500):∃v,Ku N H t=some v∧(v=true↔uB H t∧vS H t):=by
 unfold Ku;obtain⟨m,u,Y⟩:=F4 t.E.length (λn i x=>FA N t (FC N H) n i x) (FC N H) (λk x=>SI (t.E.take k) x) (λn k x d=>by
  simp only[FA];rw[Dk d];rfl) (λn i x Q d=>by
  have Z:=wT d;have U:=s.queue _ Z;have ac:=U.plen;refine⟨_,by rw[yM d];exact Q.put (t.E[i]),?_⟩;simp only[FA];rw[D2 d,wD,BC d,BF (by omega)];simp only[wC];rw[Mq U.part (by omega) (by omega)];have h9:=s.nn;have u1:=VC (l:=t.E.take i) (λy j=>h9 y (zA j)) (t.E[i]).K (t.E[i]).C;have u2:=SS (l:=t.E.take i) (λy j=>h9 y (zA j)) (t.E[i]).K (t.E[i]).C;have u3:(OU (t.E.take i)).sum≤(OU t.E).sum:=by
   unfold OU;rw[List.map_take];exact(JV (λy j=>by obtain⟨z,I,rfl⟩:=xR.1 j;exact h9 z I) _).2
  have u4:=s.tot;have u5:=s.ownle;have u6:(t.E[i]).Ad.sum≤1125899906842624:=U.part.le;have u7:=U.pos;unfold MV at u4;have a:=Q.get ⟨(t.E[i]).K,(t.E[i]).C⟩;simp only at a;have a:(Lu (λk:AQ=>Value.agg (AQ.v k).toArray) x (⟨(t.E[i]).K,(t.E[i]).C⟩:AQ)).getD 0=MT (t.E.take i) (t.E[i]).K (t.E[i]).C:=a;simp only[wC];rw[a,Cw (by omega) (by omega),La N (by omega) (by omega) (by omega) (by omega)];rfl) N 0 [] SI.nil (by omega) (wL _)
 have Y:FA N t (FC N H) N 0 []=FC N H m:=Y;rw[Y];rw[xU] at u;unfold FC;rcases YA H.E.length (λn i x=>E9 N H m (FB N m) n i x) (FB N m) (some false) (¬uB H t) (λk (x:List (AQ×Bool))=>(∀e∈H.E.take k,e.G.B≤MT t.E e.K e.C∧MT t.E e.K e.C≤e.G.A)∧∀y:AQ,(Lu kK x y).getD false=true↔∃e∈H.E.take k,e.K=y.at_∧e.C=y.to_) (λn k x d=>by
  simp only[E9];rw[Dk d];rfl) (λn i x Q d=>by
  have Z:=wT d;obtain⟨V,W⟩:=Q;have hb:=Zw s (H.E[i]).K (H.E[i]).C;simp only[E9];rw[D2 d,wD,BC d,BF (by omega)];have a:=u.get ⟨(H.E[i]).K,(H.E[i]).C⟩;simp only at a;have a:(Lu (λk:AQ=>Value.agg (AQ.v k).toArray) m (⟨(H.E[i]).K,(H.E[i]).C⟩:AQ)).getD 0=MT t.E (H.E[i]).K (H.E[i]).C:=a;simp only[wC,GM];rw[a,Cw (by omega) (by omega)];by_cases g:(H.E[i]).G.B≤MT t.E (H.E[i]).K (H.E[i]).C∧MT t.E (H.E[i]).K (H.E[i]).C≤(H.E[i]).G.A
  ·refine .inr ⟨M5 kK x ⟨(H.E[i]).K,(H.E[i]).C⟩ true,⟨N9 d V g,λy=>?_⟩,by rw[wJ g.1,wJ g.2];rfl⟩;rw[Se,yM d];by_cases j:y=⟨(H.E[i]).K,(H.E[i]).C⟩
   ·subst j;rw[wG rfl];exact⟨λ_=>⟨H.E[i],Aa3 _ (xV.2 rfl),rfl,rfl⟩,λ_=>rfl⟩
   ·rw[wF j,W];constructor
    ·rintro⟨e,c,o⟩;exact⟨e,yV _ c,o⟩
    ·rintro⟨e,c,o,w⟩;rcases xX.1 c with c|c
     ·exact⟨e,c,o,w⟩
     ·simp only[xV] at c;subst c;exact absurd (by cases y;simp only at o w;rw[o,w]) j
  ·refine .inl ⟨λhh=>g (hh _ Z),?_⟩;have:(decide ((H.E[i]).G.B≤MT t.E (H.E[i]).K (H.E[i]).C)&&decide (MT t.E (H.E[i]).K (H.E[i]).C≤(H.E[i]).G.A))=false:=by
    rw[←yN];simp only[wI,wW];exact g
   rw[this];rfl) N 0 [] ⟨by simp,λy=>by simp [Lu]⟩ (by omega) (wL _) with ⟨J,M⟩|⟨m2,⟨V,W⟩,M⟩
 ·exact⟨false,M,λh=>(by cases h),λhs=>absurd hs.1 J⟩
 ·have M:E9 N H m (FB N m) N 0 []=FB N m m2:=M;rw[M];rw[xU] at V W;unfold FB Jk;rw[Eb];refine⟨_,rfl,?_⟩;have hn:∀e∈m,((E8 N m2 e).isNone=true↔∃z∈H.E,z.K=e.1.at_∧z.C=e.1.to_):=by
   intro e g;obtain⟨x,X,D,F⟩:=(u.key e.1).1 (xR.2 ⟨e,g,rfl⟩);have e2:e.2=MT t.E e.1.at_ e.1.to_:=by
    have:=u.get e.1;rw[WQ u.uq e g] at this;exact this
   have hp:=eP s.nn X (s.queue x X).pos;rw[D,F,←e2] at hp;have hb:=Zw s e.1.at_ e.1.to_;rw[←e2] at hb;unfold E8;rw[Cw (by omega) (by omega),show decide (e.2≠0)=true by simp;omega,Bool.and_true,←W e.1];have:(Lu (λk:AQ=>Value.agg (AQ.v k).toArray) m2 e.1).getD false=(Lu kK m2 e.1).getD false:=rfl;rw[this];cases (Lu kK m2 e.1).getD false<;>simp
  rw[show cond (List.all m λe=>(E8 N m2 e).isNone) true false=List.all m λe=>(E8 N m2 e).isNone by cases (List.all m λe=>(E8 N m2 e).isNone)<;>rfl,wO];constructor
  ·intro ha;refine⟨V,λy j=>?_⟩;obtain⟨e,g,aa⟩:=xR.1 ((u.key ⟨y.K,y.C⟩).2 ⟨y,j,rfl,rfl⟩);obtain⟨z,I,p,q⟩:=(hn e g).1 (ha e g);rw[aa] at p q;exact⟨z,I,p,q⟩
  ·intro hs e g;rw[hn e g];obtain⟨x,X,D,F⟩:=(u.key e.1).1 (xR.2 ⟨e,g,rfl⟩);obtain⟨z,I,p,q⟩:=hs.2 x X;exact⟨z,I,p.trans D,q.trans F⟩
def Zu {N:Nat}(D:9007199254740992<N) {b:AH}{t:BQ}(j:LU b t) (F:t.E.length≤500) (a p:Int):JD N t.E a p=some (MT t.E a p):=by
 unfold JD;obtain⟨m,u,o⟩:=F4 t.E.length (λn i x=>DE N t.E a p (Dm N) n x i) (Dm N) (λk x=>x=MT (t.E.take k) a p) (λn k x d=>by
  simp only[DE];rw[Dk d];rfl) (λn i x v d=>by
  have q:=j.queue _ (wT d);have w:=q.plen;have s:=j.nn;have G:=VC (l:=t.E.take i) (λy g=>s y (zA g)) a p;have H:=SS (l:=t.E.take i) (λy g=>s y (zA g)) a p;have I:(OU (t.E.take i)).sum≤(OU t.E).sum:=by
   unfold OU;rw[List.map_take];exact(JV (λy g=>by obtain⟨z,A,rfl⟩:=xR.1 g;exact s z A) _).2
  have B:=j.tot;have J:=j.ownle;have M:(t.E[i]).Ad.sum≤1125899906842624:=q.part.le;have Q:=q.pos;unfold MV at B;refine⟨_,by rw[Kz d,TV],?_⟩;subst v;simp only[DE];rw[D2 d,wD,BC d];simp only[wC,H1,BF (show i<4611686018427387904 by omega),Eb];by_cases c:(t.E[i]).K=a∧(t.E[i]).C=p
  ·rw[wG c,wJ c.1,wJ c.2,wD,wD,VK,Mq q.part (by omega) (by omega),wC,WL,La N (by omega) (by omega) (by omega) (by omega),wC]
  ·have:cond (decide ((t.E[i]).K=a)) (decide ((t.E[i]).C=p)) false=false:=by
    rw[←yN];intro h;cases o:decide ((t.E[i]).K=a)<;>rw[o] at h
    ·cases h
    ·exact c ⟨yQ o,yQ h⟩
   rw[wF c,this,wE,Int.add_zero]) N 0 0 rfl (by omega) (wL _)
 rw[show DE N t.E a p (Dm N) N 0 0=Dm N m from o,u,xU];rfl
def WU {N:Nat}(t:9007199254740992<N) (q:List AY) (u:q.length≤500) (a p:Int):∃v,IE N q a p=some v∧(v=true↔∃e∈q,e.K=a∧e.C=p):=by
 unfold IE;have j:∀n (k:Nat),q.length<n+k→k≤q.length→∃v,FD N q a p (H2 N) n (k:Int)=some v∧(v=true↔∃e∈q.drop k,e.K=a∧e.C=p):=by
  intro n
  induction n with
  |zero=>intro k g l;omega
  |succ n m=>
   intro k g l;simp only[FD];rcases xB k q.length with d|d
   ·rw[D2 d,wD,BC d];simp only[wC,Eb];rw[BF (by omega),Aac d];obtain⟨v,o,s⟩:=m (k+1) (by omega) (by omega);by_cases c:(q[k]).K=a∧(q[k]).C=p
    ·rw[wJ c.1,wJ c.2];exact⟨true,rfl,λ_=>⟨q[k],xL,c⟩,λ_=>rfl⟩
    ·have:cond (decide ((q[k]).K=a)) (decide ((q[k]).C=p)) false=false:=by
      rw[←yN];intro h;cases g:decide ((q[k]).K=a)<;>rw[g] at h
      ·cases h
      ·exact c ⟨yQ g,yQ h⟩
     rw[this,wE];refine⟨v,o,s.trans ⟨λ⟨e,b,i⟩=>⟨e,xP _ b,i⟩,λ⟨e,b,i⟩=>?_⟩⟩;rcases wN.1 b with rfl|b
     ·exact absurd i c
     ·exact⟨e,b,i⟩
   ·rw[Dk d,wE];have:k=q.length:=by omega
    subst this;rw[List.drop_length];exact⟨false,rfl,λh=>(by cases h),λ⟨e,b,_⟩=>(by cases b)⟩
 have:=j N 0 (by omega) (wL _);rwa [List.drop_zero] at this
def Ql {L:Nat}{f:Nat→Int→Option Bool}{kj:Option Bool}{P:Nat→Prop}(j:Nat→Bool) (c:∀i,i<L→(j i=true↔P i)) (a:∀n (k:Nat),L≤k→f (n+1) (k:Int)=kj) (b:∀n (k:Nat),k<L→f (n+1) (k:Int)=cond (j k) (f n ((k+1:Nat):Int)) (some false)) {A:Prop}{N:Nat}(p:L<N) (l:∃v,kj=some v∧(v=true↔A)):∃v,f N 0=some v∧(v=true↔(∀i,i<L→P i)∧A):=by
 rcases P9 L f kj j a b N 0 (by omega) (wL _) with ⟨h,e⟩|⟨⟨i,_,d,hb⟩,e⟩
 ·obtain⟨v,m,o⟩:=l;exact⟨v,(show f N 0=_ from e).trans m,o.trans ⟨λg=>⟨λi d=>(c i d).1 (h i (wL _) d),g⟩,λg=>g.2⟩⟩
 ·refine⟨false,e,λh=>(by cases h),λg=>?_⟩;rw[(c i d).2 (g.1 i d)] at hb;cases hb
def uA (h:AX) (s:BQ) (i:Nat):Prop:=(h.G.getD i ⟨0,0⟩).B≤(s.Af.getD i []).sum∧(s.Af.getD i []).sum≤(h.G.getD i ⟨0,0⟩).A
def iH (h:AX) (s:BQ) (i:Nat):Bool:=match h.D[i]?,s.At[i]? with
 |some x,some a=>(decide (x.P.B≤a.P)&&decide (a.P≤x.P.A))&&(decide (x.N.B≤Ub a.N)&&decide (Ub a.N≤x.N.A))
 |_,_=>false
set_option maxHeartbeats 1000000 in
def pZ {N:Nat}(t:9007199254740992<N) {b:AH}(I:JT b) {s:BQ}(o:LU b s) (J:s.E.length≤500) (h:AX) (l:h.E.length≤500):
  ∃v,Lw N b h s=some v∧KA N b h s=some v:=by
 have W:=I.pl;have X:=I.li;have M:=o.own;have Q:=o.gat;unfold Lw KA;rw[show decide ((s.Af.length:Int)≠(h.G.length:Int))=decide ((h.G.length:Int)≠(b.F.length:Int)) from Aah.2 (by omega),show decide ((s.At.length:Int)≠(h.D.length:Int))=decide ((h.D.length:Int)≠(b.D.length:Int)) from Aah.2 (by omega)];cases Y:((decide (h.H≠s.H)||decide ((h.G.length:Int)≠(b.F.length:Int)))||decide ((h.D.length:Int)≠(b.D.length:Int)))
 ·have d:=Y;simp only[xI] at d;rw[d.1.2,d.2];simp only[Bool.or_self,wE];have hv:h.G.length=b.F.length:=by have:=Aaf d.1.2;omega
  have hl:h.D.length=b.D.length:=by have:=Aaf d.2;omega
  have p:∀(k:Nat) (a:k<s.Af.length),Gh N s.Af[k]=some (s.Af[k]).sum:=λk a=>by
   obtain⟨Z,h2⟩:=o.pools _ (wT a);exact Mq Z (by omega) (by omega)
  have U:∀(k:Nat) (a:k<h.D.length) (c:k<s.At.length),iH h s k=((decide ((h.D[k]).P.B≤(s.At[k]).P)&&decide ((s.At[k]).P≤(h.D[k]).P.A))&&(decide ((h.D[k]).N.B≤Ub (s.At[k]).N)&&decide (Ub (s.At[k]).N≤(h.D[k]).N.A))):=λk a c=>by
   unfold iH;rw[wR a,wR c]
  have V:∀k,k<h.G.length→((decide ((h.G.getD k ⟨0,0⟩).B≤(s.Af.getD k []).sum)&&decide ((s.Af.getD k []).sum≤(h.G.getD k ⟨0,0⟩).A))=true↔uA h s k):=λk _=>by
   unfold uA;simp only[wI,wW]
  obtain⟨v1,e1,k1⟩:=Ql (L:=h.G.length) (f:=JZ N h s (KL N h s)) (kj:=KL N h s) (P:=uA h s) (λk=>decide ((h.G.getD k ⟨0,0⟩).B≤(s.Af.getD k []).sum)&&decide ((s.Af.getD k []).sum≤(h.G.getD k ⟨0,0⟩).A)) V (λn k a=>by
   simp only[JZ];rw[Dk a];rfl) (λn k a=>by
   have c:k<s.Af.length:=by omega
   simp only[JZ];rw[D2 a,wD,BC a,BC c];simp only[wC];rw[p k c];simp only[wC,GM,BF (show k<4611686018427387904 by omega)];rw[Tz a,xW,wR c,xJ];cases (decide ((h.G[k]).B≤(s.Af[k]).sum)&&decide ((s.Af[k]).sum≤(h.G[k]).A))<;>rfl) (A:=(∀i,i<h.D.length→iH h s i=true)∧uB h s∧vS h s) (N:=N) (by omega) (by
   unfold KL;refine Ql (L:=h.D.length) (f:=JY N h s (KK N h s)) (kj:=KK N h s) (P:=λi=>iH h s i=true) (iH h s) (λi _=>yC) (λn k a=>by
    simp only[JY];rw[Dk a];rfl) (λn k a=>by
    have c:k<s.At.length:=by omega
    simp only[JY];rw[D2 a,wD,BC a,BC c,U k a c];simp only[wC,GM,XL,BF (show k<4611686018427387904 by omega),Eb];cases (decide ((h.D[k]).P.B≤(s.At[k]).P)&&decide ((s.At[k]).P≤(h.D[k]).P.A))<;>cases (decide ((h.D[k]).N.B≤Ub (s.At[k]).N)&&decide (Ub (s.At[k]).N≤(h.D[k]).N.A))<;>rfl) (by omega) ?_
   obtain⟨v,q,kv⟩:=bD t o J h l;unfold KK;rw[q];exact⟨v,rfl,kv⟩)
  obtain⟨v2,e2,k2⟩:=Ql (L:=h.G.length) (f:=Ey N h s (GW N h s)) (kj:=GW N h s) (P:=uA h s) (λk=>decide ((h.G.getD k ⟨0,0⟩).B≤(s.Af.getD k []).sum)&&decide ((s.Af.getD k []).sum≤(h.G.getD k ⟨0,0⟩).A)) V (λn k a=>by
   simp only[Ey];rw[Dk a];rfl) (λn k a=>by
   have c:k<s.Af.length:=by omega
   simp only[Ey];rw[D2 a,wD,BC a,BC c,wC,VK,p k c];simp only[wC,GG,BF (show k<4611686018427387904 by omega)];rw[Tz a,xW,wR c,xJ];cases (decide ((h.G[k]).B≤(s.Af[k]).sum)&&decide ((s.Af[k]).sum≤(h.G[k]).A))<;>rfl) (A:=(∀i,i<h.E.length→∀e,h.E[i]? =some e→e.G.B≤MT s.E e.K e.C∧MT s.E e.K e.C≤e.G.A)∧(∀i,i<s.E.length→∀x,s.E[i]? =some x→∃e∈h.E,e.K=x.K∧e.C=x.C)∧(∀i,i<h.D.length→iH h s i=true)∧True) (N:=N) (by omega) (by
   unfold GW;refine Ql (L:=h.E.length) (f:=Ex N h s (GV N h s)) (kj:=GV N h s) (λk=>match h.E[k]? with
    |some e=>decide (e.G.B≤MT s.E e.K e.C)&&decide (MT s.E e.K e.C≤e.G.A)
    |none=>false) (λi g=>?_) (λn k a=>by
    simp only[Ex];rw[Dk a];rfl) (λn k a=>by
    simp only[Ex];rw[D2 a,wD,BC a,wC,Zu t o J,wC,wR a];simp only[wC,GG,BF (show k<4611686018427387904 by omega)];cases (decide ((h.E[k]).G.B≤MT s.E (h.E[k]).K (h.E[k]).C)&&decide (MT s.E (h.E[k]).K (h.E[k]).C≤(h.E[k]).G.A))<;>rfl) (by omega) ?_
   ·rw[wR g];simp only[wI,wW,xO];exact⟨λh e j=>j▸h,λh=>h _ rfl⟩
   ·unfold GV;refine Ql (L:=s.E.length) (f:=Ew N h s (GU N h s)) (kj:=GU N h s) (λk=>match s.E[k]? with
     |some x=>(IE N h.E x.K x.C).getD false
     |none=>false) (λi g=>?_) (λn k a=>by
     simp only[Ew];rw[Dk a];rfl) (λn k a=>by
     obtain⟨v,q,_⟩:=WU t h.E l (s.E[k]).K (s.E[k]).C;simp only[Ew];rw[D2 a,wD,BC a,wR a];simp only[wC];rw[q];simp only[wC,xJ,BF (show k<4611686018427387904 by omega)];cases v<;>rfl) (by omega) ?_
    ·rw[wR g];obtain⟨v,q,kv⟩:=WU t h.E l (s.E[i]).K (s.E[i]).C;simp only[q,xJ,xO];rw[kv];exact⟨λh e j=>j▸h,λh=>h _ rfl⟩
    ·unfold GU;exact Ql (L:=h.D.length) (f:=Ev N h s (Hk N)) (kj:=Hk N) (P:=λi=>iH h s i=true) (iH h s) (λi _=>yC) (λn k a=>by
      simp only[Ev];rw[Dk a];rfl) (λn k a=>by
      have c:k<s.At.length:=by omega
      simp only[Ev];rw[D2 a,wD,BC a,BC c,U k a c];simp only[wC,GG,qC,XL,BF (show k<4611686018427387904 by omega),Eb];cases (decide ((h.D[k]).P.B≤(s.At[k]).P)&&decide ((s.At[k]).P≤(h.D[k]).P.A))<;>cases (decide ((h.D[k]).N.B≤Ub (s.At[k]).N)&&decide (Ub (s.At[k]).N≤(h.D[k]).N.A))<;>rfl) (by omega) ⟨true,rfl,λ_=>trivial,λ_=>rfl⟩)
  refine⟨v1,e1,e2.trans (wH some ?_)⟩;rw[Bool.eq_iff_iff,k1,k2];have a1:(∀i,i<h.E.length→∀e,h.E[i]? =some e→e.G.B≤MT s.E e.K e.C∧MT s.E e.K e.C≤e.G.A)↔uB h s:=⟨λm e j=>by
   obtain⟨i,g⟩:=xY.1 j;exact m i (wU.1 g).1 e g,λm i g e j=>m e (yJ j)⟩
  have a2:(∀i,i<s.E.length→∀x,s.E[i]? =some x→∃e∈h.E,e.K=x.K∧e.C=x.C)↔vS h s:=⟨λm e j=>by
   obtain⟨i,g⟩:=xY.1 j;exact m i (wU.1 g).1 e g,λm i g e j=>m e (yJ j)⟩
  rw[a1,a2];exact⟨λ⟨u,w,y,z,_⟩=>⟨u,z,w,y⟩,λ⟨u,z,w,y⟩=>⟨u,w,y,z,trivial⟩⟩
 ·simp only[Bool.or_true,Bool.true_or,wD];exact⟨false,rfl,rfl⟩
def Sl.rdx {α}{S:Nat→Prop}{h:A4}{r:BX α}{v:Value}{l:List α}(k:Sl S h r v l) {x:α}(a:x∈l):∃cs,r.rd S h cs x:=by
 obtain⟨i,b⟩:=xY.1 a;obtain⟨_,_,_,cs,_,c⟩:=k.at_ b;exact⟨cs,c⟩
def Z7 {S:Nat→Prop}{h:A4}{v:Value}{l:List AB}(k:Sl S h AC v l):∀s∈l,AA s.B∧AA s.A:=λs a=>by
 obtain⟨cs,_,b⟩:=k.rdx a;exact b
def Z3 {S:Nat→Prop}{h:A4}{v:Value}{x:Cn}(k:Rd S h Gr v x):∀t∈x.An,AA t.Al:=λt a=>by
 obtain⟨_,_,_,d,_,_,_,_,_,b,_⟩:=Gr.ex k;obtain⟨cs,_,c⟩:=b.rdx a;exact c.2.2.1
def dH (N:Nat) (a b:Int):∃y,Dz N a b=some y:=by
 unfold Dz;exact Df.cond (λ_=>Df.mk _) λ_=>Df.cond (λ_=>Df.mk _) λ_=>Df.mk _
def eN {N:Nat}(l:9223372036854775808<N) (h:AX) (m:h.G.length≤8796093022208) (o:h.E.length≤8796093022208):∃v,J7 N h=some v:=by
 unfold J7;obtain⟨a,_,c⟩:=F4 h.G.length (λn i x=>GR N h (Hw N h) n x i) (Hw N h) (λk x=>True) (λn k x b=>by
  simp only[GR];rw[Dk b];rfl) (λn i x j b=>by
  simp only[GR];rw[D2 b,wD,BC b,wC,BF (by omega)];obtain⟨y,d⟩:=Tj N (h.G[i]).A (h.G[i]).B;unfold Kk;rw[d];simp only[wC];obtain⟨z,g⟩:=dH N x y;rw[g];exact⟨_,trivial,rfl⟩) N 0 0 trivial (by omega) (wL _)
 rw[show GR N h (Hw N h) N 0 0=_ from c];unfold Hw;obtain⟨a,_,c⟩:=F4 h.E.length (λn i x=>HB N h (KZ N) n x i) (KZ N) (λk x=>True) (λn k x b=>by
  simp only[HB];rw[Dk b];rfl) (λn i x j b=>by
  simp only[HB];rw[D2 b,wD,BC b,wC,BF (by omega)];obtain⟨y,d⟩:=Tj N (h.E[i]).G.A (h.E[i]).G.B;unfold Kk;rw[d];simp only[wC];obtain⟨z,g⟩:=dH N x y;rw[g];exact⟨_,trivial,rfl⟩) N 0 a trivial (by omega) (wL _)
 exact⟨_,c⟩
def Z1 {N:Nat}(d:18446744073709551616<N) {b:AH}(g:Ol N b) (h:AX) (y:h.E.length≤16) {in_:Cn}(z:in_.Bb.length≤8) (C:in_.Az.length≤8) (n:in_.An.length≤8) (sure:List Bool) {c:List AB}(j:∀t∈in_.An,AA t.Al) (k:∀s∈c,AA s.B∧AA s.A):Eo N b h in_ sure c true=some true:=by
 unfold Eo;obtain⟨v,o,p⟩:=Us (N:=N) (by omega) b g.head h (by omega);rw[o,wC];cases v with
 |false=>rfl
 |true=>
  have a:=p.1 rfl;have q:=a.hour;simp only[xE,wE];have u:=g.head.pl;have w:=g.head.li;have l:b.F.length*(in_.An.length+101)≤64*191:=Aat (by omega) (by omega);obtain⟨r,x,i,m⟩:=eR d g a.vol a.vols (by omega) a.que ⟨a.lks,a.kn⟩ (in_:=in_) (by omega) (by omega) (by omega) j (sure:=sure) k (by omega);rw[pR d g a.vol a.vols (by omega) a.que ⟨a.lks,a.kn⟩ (in_:=in_) (by omega) (by omega) (by omega) j (sure:=sure) k (by omega),x,wC,wC];have D:=i.vol;have G:=i.lks.1;have H:=i.pk.1;have I:=i.sp.1;rw[Uj d r.1 (by omega) (by omega) (by omega),Oo d r.2.1 (by omega),Oo d r.2.2 (by omega)];rfl
def Z2 {N:Nat}(g:18446744073709551616<N) (i:Fm N=some true) (b:AH) (s:BQ) (h:AX) (in_:Cn) (sure:List Bool) (a:List AB) (j:h.G.length≤8796093022208) (l:∀t∈in_.An,AA t.Al) (m:∀s∈a,AA s.B∧AA s.A):Hm N b s h in_ sure a=some true:=by
 unfold Hm;rw[i,wC];unfold K7;cases n:(((decide (6<(b.F.length:Int))||decide (6<(b.D.length:Int)))||decide (4<(b.Z.length:Int)))||decide (16<(h.E.length:Int))) with
 |true=>rfl
 |false=>
  simp only[xI,xA] at n;rw[wE,wC];cases o:(((!((((decide ((in_.Ba.length:Int)≤8)&&decide ((in_.Bb.length:Int)≤8))&&decide ((in_.Az.length:Int)≤8))&&decide ((in_.An.length:Int)≤8))&&decide ((in_.Bq.length:Int)≤8)))||decide (12<(s.E.length:Int)))||decide (10<(sure.length:Int))||decide (10<(a.length:Int))) with
  |true=>rfl
  |false=>
   simp only[xI,xA,zC,wI,wW] at o;rw[wE];obtain⟨v,k,kv⟩:=WD g b;rw[k,wC,wC];cases v with
   |false=>rfl
   |true=>
    obtain⟨c,_⟩:=nE g k;obtain⟨v,p,U⟩:=Us (N:=N) (by omega) b c.head h (by omega);obtain⟨w,u⟩:=eN (N:=N) (by omega) h j (by omega);simp only[xE,wE];rw[jZ (by omega),p,pQ,u];simp only[wC,beq_self_eq_true,xE,wE,ne_eq,Aa9,Aaj];have J:=Z1 g c h (by omega) (in_:=in_) (by omega) (by omega) (by omega) sure l m;obtain⟨x,y,z⟩:=Y2 (N:=N) (by omega) b c.head s (by omega);rw[y,wC];cases x with
    |false=>exact J
    |true=>
     have d:=z rfl;have C:=c.head.pl;have H:=c.head.li;have V:=d.own;have W:=d.gat;obtain⟨q,I,K⟩:=rD (N:=N) (by omega) c.head d (by omega);have X:=K.len;rw[rOf (by omega) d (by omega) (by omega),I];simp only[wD,wC];rw[Uj g (WW s q) (by simp [WW];omega) (by simp [WW];omega) (by simp [WW];omega)];obtain⟨Y,M,Q⟩:=pZ (N:=N) (by omega) c.head d (by omega) h (by omega);rw[M,Q];simp only[wC,beq_self_eq_true,xE,wE];exact J
def Xp:Fm BN=some true:=by decide +kernel
def VQ (b:AH) (s:BQ) (h:AX) (in_:Cn) (sure:List Bool) (a:List AB) (c:h.G.length≤8796093022208) (d:∀t∈in_.An,AA t.Al) (g:∀s∈a,AA s.B∧AA s.A):Hm BN b s h in_ sure a=some true:=Z2 (by unfold BN;omega) Xp b s h in_ sure a c d g
open Go.ChangeShapes Go.WideShapes Go.ChangeAt Go.RowKit Go.Deep
def Et {α}(P:Program) (t:TypeId) (r:BX α):Prop:=
 P.cellsOf t=r.sz∧∀{H:Type} {enc:TypeId×Value→H} {w:World} {c:Nat} {a:Nat→Bool} {d:Bool} {g:Nat} {cs:List Value} {x:DataW H×List MemPlace},
  DataW.trod enc P w c a d g t cs=some x→∃y,r.rd (λb=>b<w.heap.size) w.heap cs y
def fK {n:Int}(h:(Lit.int .i64 n).wf=true):AA n:=by
 simpa [Lit.wf,IntKind.min,IntKind.max,IntKind.signed,IntKind.bits,AA] using h
def ZE {P:Program}{t:TypeId}(i:P.cellsOf t=1) (j:P.underlying t=some (.int .i64)):Et P t AW:=by
 refine⟨i,λ{H enc w d b g a cs x} h=>?_⟩;cases a with
 |zero=>simp [DataW.trod] at h
 |succ n=>
  unfold DataW.trod at h;simp only[j] at h;split at h<;>simp_all;rename_i k l m;obtain⟨⟨rfl,c⟩,_⟩:=h;subst m;exact⟨l,rfl,fK c⟩
def W8 {P:Program}{t:TypeId}(g:P.cellsOf t=1) (i:P.underlying t=some .bool):Et P t BX.bool:=by
 refine⟨g,λ{H enc w c b d a cs x} h=>?_⟩;cases a with
 |zero=>simp [DataW.trod] at h
 |succ n=>
  unfold DataW.trod at h;simp only[i] at h;split at h<;>first|(exact ⟨_,rfl⟩)|simp_all
def ZD {P:Program}{t:TypeId}(g:P.cellsOf t=1) (i:P.underlying t=some .string):Et P t BX.str:=by
 refine⟨g,λ{H enc w c b d a cs x} h=>?_⟩;cases a with
 |zero=>simp [DataW.trod] at h
 |succ n=>
  unfold DataW.trod at h;simp only[i] at h;split at h<;>simp_all;exact⟨_,rfl,h.1⟩
def Sx {α}{p:Nat→α→Prop}:∀n,(∀i,i<n→∃x,p i x)→∃l:List α,l.length=n∧∀i x,l[i]? =some x→p i x
 |0,_=>⟨[],rfl,λi x h=>by simp at h⟩
 |n+1,h=>by
  obtain⟨l,b,c⟩:=Sx n λi d=>h i (by omega);obtain⟨x,g⟩:=h n (by omega);refine⟨l++[x],by simp [b],λi y a=>?_⟩;rw[List.getElem?_append] at a;split at a
  ·exact c i y a
  ·rename_i d;have:i-l.length=0:=by
    have:=(wU.1 a).1;simp at this;omega
   rw[this] at a;simp at a;subst a;have:i=n:=by omega
   subst this;exact g
def HA {P:Program}{t e:TypeId}{α}{r:BX α}(Q:P.cellsOf t=1) (U:P.underlying t=some (.slice e)) (A:Et P e r) (V:Nat.blt 0 r.sz=true):Et P t (BX.sl r):=by
 refine⟨Q,λ{H enc w J B K M cs x} h=>?_⟩;have k:0<r.sz:=(by simpa [Nat.blt] using V:1≤r.sz)
 rcases open_slice U h with ⟨rfl,_⟩|⟨a,len,cap,m,n,D,Pl,rfl,hb,hlc,hcm,hm,_,hel⟩
 ·exact⟨[],_,rfl,.inl ⟨rfl,rfl⟩⟩
 ·have W:len≤m:=by rw[hm];split<;>omega
  obtain⟨l,X,C⟩:=Sx (p:=λi x=>a.spot=none∧Pt (λb=>b<w.heap.size) w.heap r (.pointer (some ⟨a.block,a.off+i*r.sz,none⟩)) x) len λi hi=>by
   obtain⟨cs',F,G⟩:=hel i (by omega);obtain⟨y,Y⟩:=A.2 G;obtain⟨_,q,Ji⟩:=World.cells?_some F;rw[A.1] at q Ji;have u:a.spot=none:=by
    obtain⟨v,I,_⟩:=hel 0 (by omega);obtain⟨_,g,c⟩:=World.cells?_some I;rw[A.1] at g c;have h0:=c 0 k;have Z:(a.add (0*r.sz)).add 0=a:=by simp [Addr.add]
    rw[Z] at h0;cases hs:a.spot with
    |none=>rfl
    |some s=>
     have:w.cell? a=none:=by
      unfold World.cell?;split
      ·simp [hs]
      ·rfl
     rw[this] at h0;have:v[0]? =some (v[0]'(by omega)):=wR (by omega);rw[this] at h0;cases h0
   obtain⟨b,o,s⟩:=a;simp only at u;subst u;have d:∀j,((⟨b,o,none⟩:Addr).add (i*r.sz)).add j=⟨b,o+i*r.sz+j,none⟩:=by
    intro j;have e1:(⟨b,o,none⟩:Addr).add (i*r.sz)=⟨b,o+i*r.sz,none⟩:=by unfold Addr.add;split<;>simp_all
    rw[e1];unfold Addr.add;split<;>simp_all
   have z:b<w.heap.size:=by
    have h0:=Ji 0 k;rw[d] at h0;have:cs'[0]? =some (cs'[0]'(by omega)):=wR (by omega);rw[this] at h0;exact World.block_lt_of_cell? w _ h0
   refine⟨y,rfl,cs',⟨⟨b,o+i*r.sz,none⟩,rfl,rfl,z,λj hj=>?_⟩,Y⟩;have:=Ji j (by omega);rw[d] at this;exact this
  exact⟨l,_,rfl,.inr ⟨a,cap,by rw[X],by omega,hcm,C⟩⟩
def Dh {P:Program}{t:TypeId}{l:Array Field}(q:P.underlying t=some (.struct l)) {H:Type}{enc:TypeId×Value→H}{w:World}{c:Nat}{a:Nat→Bool}{d:Bool}{g:Nat}{cs:List Value}{x:DataW H×List MemPlace}
  (h:DataW.trod enc P w c a d g t cs=some x):cs.length=P.cellsOf t∧∀(j:Nat) (f:Field) {α} (r:BX α),l[j]? =some f→Et P f.type r→∃y,r.rd (λb=>b<w.heap.size) w.heap ((cs.drop f.offset).take r.sz) y:=by
 obtain⟨xs,n,_,_,s,i,u⟩:=DataW.trod_struct q h;refine⟨s,λj f α r m o=>?_⟩;have p:=u j f m;have k:j<xs.length:=by rw[i];exact(xN.1 m).1
 rw[wR k,o.1] at p;exact o.2 p
def Vh {P:Program}{t:TypeId}{l:Array Field}{α}{r:BX α}(m:Et P t r) (i:r.ag=true) (n:P.underlying t=some (.struct l)) {H:Type}{enc:TypeId×Value→H}{w:World}{j:Reach}{o c:Nat}{a:Nat→Bool}{g:Bool}{v:Value}{d:DataW H}{p:List MemPlace}
  (q:Value.okWide P w j o t v) (h:DataW.Trod enc P w c a g t v d p):∃y,Rd (λb=>b<w.heap.size) w.heap r v y:=by
 obtain⟨cs,rfl,_⟩:=okWide_struct n q;obtain⟨k,s⟩:=h;obtain⟨y,u⟩:=m.2 s;exact⟨y,cs.toList,by simp [BX.val,i],u⟩
def ZY {v:Value}{c:Value}(h:v.cells.toList=[c]) (a:c.oneCell'=true):v=c∨∃cs,v= .agg cs:=by
 cases v<;>first|(right;exact⟨_,rfl⟩)|(left;simpa [Value.cells] using h)
def Ya {P:Program}{t:TypeId}{α}{r:BX α}(u:Et P t r) (m:r.ag=false) (n:r.sz=1) {H:Type}{enc:TypeId×Value→H}{w:World}{g:Nat}{a:Nat→Bool}{i:Bool}{v:Value}{d:DataW H}{p:List MemPlace}
  (o:∀cs,v≠ .agg cs) (h:DataW.Trod enc P w g a i t v d p):∃y,Rd (λb=>b<w.heap.size) w.heap r v y:=by
 obtain⟨q,x⟩:=h;obtain⟨y,l⟩:=u.2 x;have s:=r.len l;rw[n] at s
 match j:v.cells.toList,s with
 |[c],_=>
  rw[j] at l;have k:=r.one l c (by simp);rcases ZY j k with rfl|⟨cs,rfl⟩
  ·exact⟨y,[v],by simp [BX.val,m],l⟩
  ·exact absurd rfl (o cs)
def WO {P:Program}{t e:TypeId}(b:P.underlying t=some (.slice e)) {w:World}{a:Reach}{c:Nat}{v:Value}(d:Value.okWide P w a c t v):∀cs,v≠ .agg cs:=by
 rintro cs rfl;simp [Value.okWide,b,Cell.okWide,Cell.ok] at d
def Q7 {H:Type}{enc:TypeId×Value→H}{P:Program}(l:laidOutB P=true) {W m:World}(n:Below W.heap.size W m):
  ∀{j:List TypeId} {vs:List Value} {ds:List (DataW H)} {b:List MemPlace},(∀t∈j,P.readableRec t=true∧t<P.types.size)→DataW.TrodAll enc P W 0 (λ_=>true) true j vs ds b→(∀x∈b,x.block<W.heap.size)→
   ∀c:Nat→Bool,(∀x∈b,c x.block=true)→DataW.TrodAll enc P m 0 c true j vs ds b
 |[],vs,ds,b,_,h,_,c,_=>by
  obtain⟨rfl,rfl,rfl⟩:=trodAll_nil h;exact rfl
 |t::j,vs,ds,b,o,h,g,c,i=>by
  obtain⟨v,s,d,u,p,q,rfl,rfl,rfl,w,y⟩:=trodAll_cons h;obtain⟨z,A⟩:=o t (by simp);refine⟨p,q,WideElems.Trod_stays l z A w (λx a=>n.same (g x (by simp [a]))) (λx a=>i x (by simp [a])),?_,rfl⟩;exact Q7 l n (λt k=>o t (by simp [k])) y (λx a=>g x (by simp [a])) c λx a=>i x (by simp [a])
def aW {H:Type}{enc:TypeId×Value→H}{P:Program}{f:Func}{s:ChangeSpec}{W j:World}{args:Array Value}{ds d:List (DataW H)}{a:List MemPlace}{tb:TypeId}
  (n:laidOutB P=true) (g:f.params.toList.all (λt=>P.readableRec t&&decide (t<P.types.size))=true) (i:DataW.Whole enc P f.params.toList s.vars false W args.toList ds d a)
  (o:f.resultTypes= #[tb]) (q:P.underlying tb=some .bool) (b:s.vars=[]) (u:(s.fn H (ds++d)).results=[.lit (.bool true)]) (v:(s.fn H (ds++d)).args=ds) (w:(s.fn H (ds++d)).vars=[])
  (k:Below W.heap.size W j):s.post enc P f false true false false W args (.bool true) j:=by
 have c:∀p∈a,p.block<W.heap.size:=λp y=>i.lt p y;obtain⟨l,C,z,m,rfl,D,F⟩:=id i;rw[b] at m;obtain⟨rfl,rfl⟩:=trodVars_none m;simp only[xK] at*;refine⟨ds,[],l,[],l,[],by simpa using i,?_,?_,?_,?_,λh=>by cases h⟩
 ·simp only[xK];rw[u,o];exact trodAll_mk1 (shut_bool q true)
 ·simp only[xK];rw[v];refine Q7 n k (λt A=>?_) z c _ λx B=>by simpa using c x B
  have:=wO.1 g t A;simpa using this
 ·simp only[xK];rw[w,b];exact rfl
 ·exact k.frame _
def ZK {P:Program}{f:FuncId}{args:Array Value}{W:World}{L:(Nat→Prop)→A4→Prop}(k:CA P f args (λb=>b<W.heap.size) W.heap (λv c h'=>v= .bool true∧L c h')):
  Calls P f args W λe d=>e= .returned (.bool true)∧Below W.heap.size W d:=
 (k W W ⟨rfl,rfl,rfl,rfl⟩).mono λe d ⟨v,c,h',i,a,g,j,_⟩=>by
  subst i;subst j;exact⟨rfl,a.os,a.tape,a.out,by rw[a.heap];exact g.siz,λb l=>by rw[a.heap];exact g.same b l⟩
section
variable {H:Type}{enc:TypeId×Value→H}{P:Program}{w:World}{base:Nat}{spare:Nat→Bool}{held:Bool}
def U9:∀{l:List TypeId}{ds:List (DataW H)}{j:Nat}{t:TypeId}{d:DataW H},l[j]? =some t→ds[j]? =some d→∀q∈d.weights P t,q∈DataW.weightsEach P l ds
 |[],_,j,t,d,h,_=>by cases j<;>cases h
 |_::_,[],j,t,d,_,h=>by cases j<;>cases h
 |a::l,x::ds,0,t,d,b,c=>λq g=>by
  cases b;cases c;simp only[DataW.weightsEach];exact yV _ g
 |a::l,x::ds,j+1,t,d,b,c=>λq g=>by
  simp only[DataW.weightsEach];exact Aa3 _ (U9 (l:=l) (ds:=ds) (j:=j) b c q g)
def oT {R:Nat}{t e:TypeId}(d:P.underlying t=some (.slice e)) {b:Nat}{a:Option Addr}{len cap:Nat}{x:DataW H×List MemPlace}(h:DataW.trod enc P w base spare held b t [.slice a len cap]=some x) (g:∀q∈x.1.weights P t,q≤R):len*P.bytesOf e≤R:=by
 rcases open_slice d h with ⟨c,_⟩|⟨a',len',cap',m,n,D,Pl,c,_,_,_,_,rfl,_⟩
 ·cases c;omega
 ·cases c;simp only[DataW.weights,d] at g;have i:=g _ (xL ..);rw[xH,List.length_range] at i;exact yI (yO _ (Nat.le_add_right _ _)) i
def oS {t:TypeId}{i:Array Field}(k:P.underlying t=some (.struct i)) {a:Nat}{cs:List Value}{x:DataW H×List MemPlace}(h:DataW.trod enc P w base spare held a t cs=some x) {j:Nat}{f:Field}(g:i[j]? =some f):
  ∃n y,DataW.trod enc P w base spare held n f.type ((cs.drop f.offset).take (P.cellsOf f.type))=some y∧∀q∈y.1.weights P f.type,q∈x.1.weights P t:=by
 obtain⟨xs,n,_,m,s,b,o⟩:=DataW.trod_struct k h;have l:=o j f g;have c:j<xs.length:=by rw[b];exact(xN.1 g).1
 rw[wR c] at l;refine⟨n,xs[j],l,λq p=>?_⟩;subst m;simp only[DataW.weights,k];refine U9 (j:=j) (t:=f.type) (d:=(xs[j]).1) ?_ ?_ q p
 ·rw[zQ,Array.getElem?_toList,g];rfl
 ·rw[zQ,wR c];rfl
def dF {R:Nat}{t:TypeId}{b:Array Field}(i:P.underlying t=some (.struct b)) {v u:Value}{d:DataW H}{p:List MemPlace}(h:DataW.Trod enc P w base spare held t v d p) (m:∀q∈d.weights P t,q≤R) {j:Nat}{f:Field}(o:b[j]? =some f) {e:TypeId}(s:P.underlying f.type=some (.slice e)) (x:P.cellsOf f.type=1)
  (z:(v.cells.toList.drop f.offset).take 1=[u]) {α} {S:Nat→Prop} {A:A4} {r:BX α} {l:List α} (k:Sl S A r u l):l.length*P.bytesOf e≤R:=by
 obtain⟨c,B⟩:=h;obtain⟨n,y,g,C⟩:=oS i B o;obtain⟨a,cap,rfl,_⟩:=k.len;rw[x,z] at g;exact oT s g λq D=>m q (C q D)
end
end Go.Proofs.YtibidnaedddfdaaGreat
