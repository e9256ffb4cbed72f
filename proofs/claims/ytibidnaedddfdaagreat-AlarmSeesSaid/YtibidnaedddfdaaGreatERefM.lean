import Derived.Test.YtibidnaedddfdaaGreatERefJ
import Derived.Test.YtibidnaedddfdaaGreatERefZ
namespace Go.Proofs.YtibidnaedddfdaaGreat
set_option linter.all false
open Go.RowKit
def SF (a b:AB):AB:=⟨H4 (a.B+b.B),H4 (a.A+b.A)⟩
def SV (N:Nat) {a b:AB}(c:R9 a) (d:R9 b):HI N a b=some (SF a b):=by
 obtain⟨g,i,j⟩:=c;obtain⟨k,l,m⟩:=d;unfold HI;rw[TV N (by unfold AA;omega) (by unfold AA;omega),uF,TV N (by unfold AA;omega) (by unfold AA;omega),uF];rfl
def ZT {a b:AB}(c:R9 a) (d:R9 b):R9 (SF a b):=by
 obtain⟨g,i,j⟩:=c;obtain⟨k,l,m⟩:=d;refine⟨?_,?_,?_⟩
 ·show 0≤H4 _;unfold H4;omega
 ·show H4 _≤H4 _;unfold H4;omega
 ·show H4 _≤_;unfold H4;omega
def NP (H p:Int):List AZ→AB→AB
 |[],v=>v
 |x::r,v=>NP H p r (if x.C=p∧x.O≤H then SF v x.K else v)
def Rn (H p:Int) (x:AZ):∀(l:List AZ) (v:AB),NP H p (l++[x]) v=if x.C=p∧x.O≤H then SF (NP H p l v) x.K else NP H p l v
 |[],v=>rfl
 |y::l,v=>by rw[wZ,NP,NP,Rn H p x l]
def TW (H p:Int):∀(l:List AZ) (v:AB),(∀x∈l,H6 x.K)→R9 v→R9 (NP H p l v)
 |[],v,_,h=>h
 |x::r,v,a,h=>by
  rw[NP];refine TW H p r _ (λy b=>a y (vX _ b)) ?_;split
  ·exact ZT h (a x vW).n
  ·exact h
def Yy (a:List AB) (i:Nat) (v:AB):AB:=match a[i]? with
 |some r=>if r.B≤r.A∧0≤r.B then SF v r else v
 |none=>v
def rK {a:List AB}(c:∀s∈a,AA s.B∧AA s.A) (i:Nat) {v:AB}(b:R9 v):R9 (Yy a i v):=by
 unfold Yy;split
 ·rename_i r e;split
  ·rename_i h;exact ZT b ⟨h.2,h.1,(c r (wO e)).2.2⟩
  ·exact b
 ·exact b
def RO (h:BV) (a:List AB) (i:Nat):AB:=Yy a i (h.K.getD i ⟨0,0⟩)
def gB (h:BV) (a:List AB) (i:Nat):AB:=Yh (NP h.I (i:Int) h.N (RO h a i))
def Wa (h:BV) (a:List AB):List AB:=(List.range h.K.length).map (gB h a)
def fW (h:BV):List AZ:=h.N.filter λx=>decide (h.I<x.O)
def Wf {l:List AB}{k:Nat}(h:k<l.length):l.getD k ⟨0,0⟩=l[k]:=by
 rw[wD,uU h,vM]
def Xr {h:BV}(b:∀v∈h.K,H6 v) {a:List AB}(d:∀s∈a,AA s.B∧AA s.A) {i:Nat}(c:i<h.K.length):R9 (RO h a i):=by
 unfold RO;rw[Wf c];exact rK d i (b _ (vA c)).n
def dW {s:AB}(h:R9 s):H6 (Yh s):=by
 obtain⟨a,b,c⟩:=h;exact⟨by show 0≤min _ _;omega,by show min _ _≤min _ _;omega,by show min _ _≤_;omega⟩
def jO {h:BV}(b:∀v∈h.K,H6 v) (d:∀e∈h.N,H6 e.K) {a:List AB}(g:∀s∈a,AA s.B∧AA s.A):La H6 h.K.length (Wa h a):=by
 refine⟨by unfold Wa;rw[vQ,yG],λx c=>?_⟩;unfold Wa at c;obtain⟨i,j,rfl⟩:=wN.1 c;exact dW (TW _ _ _ _ d (Xr b g (vF.1 j)))
def dN {h:BV}{a:List AB}{i:Nat}(b:i<h.K.length):(Wa h a)[i]? =some (gB h a i):=by
 unfold Wa;rw[xG,yT b];rfl
def J3 {α}{l:List α}{k:Nat}(h:k<l.length):l.take (k+1)=l.take k++[l[k]]:=yQ h
set_option maxHeartbeats 1000000 in
def mE {N:Nat}(hN:18446744073709551616<N) {w:BX}{P:Nat}(hP:P≤64) (hv:w.h.K.length=P) (G:∀v∈w.h.K,H6 v) {t:Int}(Z:OK P t w.h.N) (ad:w.h.N.length≤4398048311104) (hp:w.peaks.length=P) {b:List AB}(hr:∀s∈b,AA s.B∧AA s.A):
  E8 N w b=CU N w (fW w.h) (Wa w.h b) N 0 w.h.D:=by
 unfold E8;obtain⟨p1,⟨i1,j1⟩,e1⟩:=Gi w.h.K.length (λn i l=>BK N w b (BL N w) n i l) (BL N w) (λk l=>l.length=P∧∀i,i<k→l[i]? =some (RO w.h b i)) (λn k l j=>by
  simp only[BK];rw[ES j];rfl) (λn k l o j=>by
  have p:k<l.length:=by rw[o.1];omega
  have hV:=G _ (vA j);have aa:∀a c:Int,EK N (k:Int) l (BK N w b (BL N w) n) a c=BK N w b (BL N w) n ((k+1:Nat):Int) (l.set k ⟨a,c⟩):=λa c=>by
   unfold EK;rw[A9 p];simp only[uF,BE (show k<4611686018427387904 by omega),RU]
  have u:∀x:AB,x=RO w.h b k→(l.set k x).length=P∧∀i,i<k+1→(l.set k x)[i]? =some (RO w.h b i):=λx W=>by
   refine⟨by rw[yL];exact o.1,λi h=>?_⟩;by_cases e:k=i
   ·subst e;rw[yN p,W]
   ·rw[yD e];exact o.2 i (by omega)
  have d:RO w.h b k=Yy b k w.h.K[k]:=by unfold RO;rw[Wf j]
  simp only[BK];rw[Ei j,uG,A9 j];simp only[uF,aa];generalize w.h.K[k]=v at hV d
  by_cases h:k<b.length
  ·rw[Ei h,uG,A9 h];simp only[uF,Dt];have hR:=hr _ (vA h);have q:Yy b k v=if (b[k]).B≤(b[k]).A∧0≤(b[k]).B then SF v b[k] else v:=by
    unfold Yy;rw[uU h]
   rw[q] at d;generalize b[k]=r at hR d
   obtain⟨⟨r1,r2⟩,r3,r4⟩:=hR;by_cases H:r.B≤r.A∧0≤r.B
   ·rw[uK H.1,uK H.2];simp only[uG,uF];rw[uJ H] at d;rw[SV N hV.n (show R9 r from⟨H.2,H.1,r4⟩),uF];exact⟨_,u _ d.symm,rfl⟩
   ·rw[uI H] at d;by_cases c2:r.B≤r.A
    ·rw[uK c2,uM (λc3=>H ⟨c2,c3⟩)];exact⟨_,u _ d.symm,rfl⟩
    ·rw[uM c2];exact⟨_,u _ d.symm,rfl⟩
  ·rw[ES (by omega)];have q:Yy b k v=v:=by
    unfold Yy;rw[wG (by omega)]
   rw[q] at d;exact⟨_,u _ d.symm,rfl⟩) N 0 w.peaks ⟨hp,λi h=>by omega⟩ (by omega) (uO _)
 rw[show BK N w b (BL N w) N 0 w.peaks=BL N w p1 from e1];unfold BL;have hn:∀i,i<P→∀k,R9 (NP w.h.I (i:Int) (w.h.N.take k) (RO w.h b i)):=λi h k=>TW _ _ _ _ (λx W=>(Z.el x (zM W)).1) (Xr G hr (by omega));obtain⟨⟨q2,y⟩,⟨a1,a2,a3⟩,e2⟩:=Gi w.h.N.length (λn i (s:List AZ×List AB)=>CA N w (CB N w) n s.1 i s.2) (λs=>CB N w s.1 s.2) (λk s=>s.1=(w.h.N.take k).filter (λx=>decide (w.h.I<x.O))∧s.2.length=P∧∀i,i<P→s.2[i]? =some (NP w.h.I (i:Int) (w.h.N.take k) (RO w.h b i))) (λn k s j=>by
  simp only[CA];rw[ES j];rfl) (λn k s o j=>by
  obtain⟨J,z⟩:=s;obtain⟨U,V,F⟩:=o;have U:J=(w.h.N.take k).filter (λx=>decide (w.h.I<x.O)):=U;have V:z.length=P:=V;have F:∀i,i<P→z[i]? =some (NP w.h.I (i:Int) (w.h.N.take k) (RO w.h b i)):=F;obtain⟨v1,v2,v3,v4,v5⟩:=Z.el _ (vA j);have ac:J.length≤k:=by
   rw[U];exact wP (List.length_filter_le _ _) (by rw[vV];omega)
  have M:(w.h.N.take (k+1)).filter (λx=>decide (w.h.I<x.O))=J++[w.h.N[k]].filter (λx=>decide (w.h.I<x.O)):=by
   rw[J3 j,List.filter_append,U]
  have Q:∀i:Nat,NP w.h.I (i:Int) (w.h.N.take (k+1)) (RO w.h b i)=if (w.h.N[k]).C=(i:Int)∧(w.h.N[k]).O≤w.h.I then SF (NP w.h.I (i:Int) (w.h.N.take k) (RO w.h b i)) (w.h.N[k]).K else NP w.h.I (i:Int) (w.h.N.take k) (RO w.h b i):=λi=>by
   rw[J3 j,Rn]
  simp only[CA];rw[Ei j,uG,A9 j];simp only[uF,GE,BE (show k<4611686018427387904 by omega)];generalize w.h.N[k]=x at v1 v2 v3 v4 v5 M Q
  by_cases Y:x.O≤w.h.I
  ·obtain⟨m,hm⟩:∃m:Nat,x.C=m:=⟨x.C.toNat,by omega⟩
   have X:m<P:=by omega
   have g:=F m X;rw[uK Y,hm,A9 (show m<z.length by omega)];have g2:z[m]=NP w.h.I (m:Int) (w.h.N.take k) (RO w.h b m):=uX (by rw[←g,uU]);simp only[uG,uF];rw[g2,SV N (hn m X k) v1.n];simp only[uF,RU];refine⟨(J,z.set m (SF (NP w.h.I (m:Int) (w.h.N.take k) (RO w.h b m)) x.K)),⟨?_,?_,λi o=>?_⟩,rfl⟩
   ·show J=_
    rw[M,List.filter_cons_of_neg (by simp;omega),List.filter_nil,vR]
   ·show(z.set _ _).length=P
    rw[yL];exact V
   ·show(z.set _ _)[i]? =_
    rw[Q i,hm];by_cases e:m=i
    ·subst e;rw[yN (by omega),uJ ⟨rfl,Y⟩]
    ·rw[yD e,uI (λhh=>e (by omega))];exact F i o
  ·rw[uM Y,uH,N6 (by omega) (by decide)];refine⟨(J++[x],z),⟨?_,V,λi o=>?_⟩,rfl⟩
   ·show J++[x]=_
    rw[M,List.filter_cons_of_pos (by simp;omega),List.filter_nil]
   ·rw[Q i,uI (λhh=>Y hh.2)];exact F i o) N 0 ([],p1) ⟨by simp,i1,λi h=>by rw[List.take_zero];exact j1 i (by omega)⟩ (by omega) (uO _)
 rw[show CA N w (CB N w) N [] 0 p1=CB N w q2 y from e2];rw[wQ] at a1;have A2:y.length=P:=a2;have A3:∀i,i<P→y[i]? =some (NP w.h.I (i:Int) w.h.N (RO w.h b i)):=λi h=>by have:=a3 i h;rw[wQ] at this;exact this
 have A1:q2=fW w.h:=a1;clear a1 a2 a3 e2;subst A1;unfold CB;have ae:∀i,i<P→R9 (NP w.h.I (i:Int) w.h.N (RO w.h b i)):=λi h=>TW _ _ _ _ (λx W=>(Z.el x W).1) (Xr G hr (by omega));obtain⟨p3,⟨b1,b2,b3⟩,e3⟩:=Gi y.length (λn i l=>CV N y (CW N w (fW w.h)) n i l) (CW N w (fW w.h)) (λk l=>l.length=P∧(∀i,i<k→l[i]? =some (gB w.h b i))∧∀i,k≤i→i<P→l[i]? =y[i]?) (λn k l j=>by
  simp only[CV];rw[ES j];rfl) (λn k l o j=>by
  obtain⟨U,V,F⟩:=o;have p:k<l.length:=by omega
  have g:=(F k (uW _) (by omega)).trans (A3 k (by omega));have g2:l[k]=NP w.h.I (k:Int) w.h.N (RO w.h b k):=uX (by rw[←g,uU]);simp only[CV];rw[Ei j,uG,A9 p];simp only[uF,Mz,BE (show k<4611686018427387904 by omega),RU];refine⟨_,⟨?_,λi o=>?_,λi o ab=>?_⟩,rfl⟩
  ·rw[yL];exact U
  ·by_cases e:k=i
   ·subst e;rw[yN p,g2];rfl
   ·rw[yD e];exact V i (by omega)
  ·rw[yD (by omega)];exact F i (by omega) ab) N 0 y ⟨A2,λi h=>by omega,λi _ _=>rfl⟩ (by omega) (uO _)
 rw[show CV N y (CW N w (fW w.h)) N 0 y=CW N w (fW w.h) p3 from e3];have:p3=Wa w.h b:=by
  refine zE λi=>?_;by_cases o:i<P
  ·rw[b2 i (by omega),dN (by omega)]
  ·rw[wG (by omega),wG (by unfold Wa;rw[vQ,yG];omega)]
 rw[this];rfl
def kD {α}(p:α→Bool) (l:List α) (k:Nat):((l.take k).filter p).length≤k:=wP (List.length_filter_le _ _) (by rw[vV];omega)
set_option maxHeartbeats 1000000 in
def Zd {N:Nat}(hN:18446744073709551616<N) {w:AJ}{P:Nat}(hP:P≤64) (u:w.G.E.length=P) (hv:w.J.K.length=P) (y:∀v∈w.J.K,H6 v) {t:Int}(hq:OK P t w.J.N) (ac:w.J.N.length≤4398048311104) (hp:w.Aj=[]) {a:List AB}(hr:∀s∈a,AA s.B∧AA s.A):
  Ff N w a=CZ N w (Wa w.J a) (fW w.J) N 0 w.J.D:=by
 unfold Ff;obtain⟨U,V,e1⟩:=Gi P (λn i l=>BA N w a (BH N w) n i l) (BH N w) (λk l=>l=(List.range k).map (gB w.J a)) (λn k l d=>by
  simp only[BA];rw[u,ES d];rfl) (λn k l z d=>by
  have g:k<w.J.K.length:=by omega
  have hV:=y _ (vA g);have W:RO w.J a k=Yy a k w.J.K[k]:=by unfold RO;rw[Wf g]
  have X:DM N w (k:Int) l (BA N w a (BH N w) n) (RO w.J a k).B (RO w.J a k).A=BA N w a (BH N w) n ((k+1:Nat):Int) (l++[gB w.J a k]):=by
   unfold DM;obtain⟨s,F,es⟩:=Gi w.J.N.length (λm i (s:AB)=>CO N w (k:Int) (C2 N (k:Int) l (BA N w a (BH N w) n)) m i s.B s.A) (λs=>C2 N (k:Int) l (BA N w a (BH N w) n) s.B s.A) (λj s=>s=NP w.J.I (k:Int) (w.J.N.take j) (RO w.J a k)) (λm j s p=>by
    simp only[CO];rw[ES p];rfl) (λm j s F p=>by
    obtain⟨v1,v2,v3,v4,v5⟩:=hq.el _ (vA p);have H:NP w.J.I (k:Int) (w.J.N.take (j+1)) (RO w.J a k)=if (w.J.N[j]).C=(k:Int)∧(w.J.N[j]).O≤w.J.I then SF s (w.J.N[j]).K else s:=by
     rw[J3 p,Rn,F]
    have Y:R9 s:=by
     rw[F];exact TW _ _ _ _ (λx hx=>(hq.el x (zM hx)).1) (Xr y hr g)
    simp only[CO];rw[Ei p,uG,A9 p];simp only[uF,Fy,BE (show j<4611686018427387904 by omega)];generalize w.J.N[j]=x at v1 H
    refine⟨_,H.symm,?_⟩;by_cases c:x.C=(k:Int)∧x.O≤w.J.I
    ·rw[uJ c,uK c.1,uK c.2];simp only[xB,uG];rw[show G0 N (⟨s.B,s.A⟩:AB) x.K=some (SF s x.K) from SV N Y v1.n,uF]
    ·rw[uI c,show(decide (x.C=(k:Int))&&decide (x.O≤w.J.I))=false by
      rw[←xQ];simp only[uL,uY];exact c,uH]) N 0 (RO w.J a k) rfl (by omega) (uO _)
   rw[wQ] at F;rw[show CO N w (k:Int) (C2 N (k:Int) l (BA N w a (BH N w) n)) N 0 (RO w.J a k).B (RO w.J a k).A=_ from es,F];have hl:l.length=k:=by rw[z,vQ,yG]
   unfold C2;rw[jB];simp only[Mz,uF,BE (show k<4611686018427387904 by omega)];rw[N6 (by simp;omega) (by decide)];rfl
  have Z:l++[gB w.J a k]=(List.range (k+1)).map (gB w.J a):=by
   rw[List.range_succ,xX,z];rfl
  simp only[BA];rw[u,Ei d,uG,A9 g];simp only[uF,F2];refine⟨_,Z,?_⟩;rw[←X,W];generalize w.J.K[k]=v at hV
  by_cases h:k<a.length
  ·rw[Ei h,uG,A9 h];simp only[uF];have hR:=hr _ (vA h);have b:Yy a k v=if (a[k]).B≤(a[k]).A∧0≤(a[k]).B then SF v a[k] else v:=by
    unfold Yy;rw[uU h]
   rw[b];generalize a[k]=r at hR
   obtain⟨⟨r1,r2⟩,r3,r4⟩:=hR;by_cases M:0≤r.B
   ·rw[uK M];simp only[uG,uF];by_cases Q:r.B≤r.A
    ·rw[uK Q,uJ ⟨Q,M⟩,uG,show G0 N v r=some (SF v r) from SV N hV.n (show R9 r from⟨M,Q,r4⟩),uF]
    ·rw[uM Q,uI (λhh=>Q hh.1),uH]
   ·rw[uM M,uI (λhh=>M hh.2)];rfl
  ·rw[ES (by omega)];have b:Yy a k v=v:=by
    unfold Yy;rw[wG (by omega)]
   rw[b];rfl) N 0 [] rfl (by omega) (uO _)
 rw[hp,show BA N w a (BH N w) N 0 []=BH N w U from e1];have:U=Wa w.J a:=by
  have V:U=(List.range P).map (gB w.J a):=V;rw[V];unfold Wa;rw[hv]
 subst this;unfold BH;obtain⟨q,o,e2⟩:=Gi w.J.N.length (λn i l=>CN N w (C1 N w (Wa w.J a)) n l i) (C1 N w (Wa w.J a)) (λk l=>l=(w.J.N.take k).filter (λx=>decide (w.J.I<x.O))) (λn k l d=>by
  simp only[CN];rw[ES d];rfl) (λn k l z d=>by
  have ab:l.length≤k:=by rw[z];exact kD _ _ _
  have aa:(w.J.N.take (k+1)).filter (λx=>decide (w.J.I<x.O))=l++[w.J.N[k]].filter (λx=>decide (w.J.I<x.O)):=by
   rw[J3 d,List.filter_append,z]
  refine⟨_,aa.symm,?_⟩;simp only[CN];rw[Ei d,uG,A9 d];simp only[uF,Fx,BE (show k<4611686018427387904 by omega)];generalize w.J.N[k]=x
  by_cases c:w.J.I<x.O
  ·rw[uK c,uG,N6 (by omega) (by decide),List.filter_cons_of_pos (by simp;omega),List.filter_nil]
  ·rw[uM c,uH,List.filter_cons_of_neg (by simp;omega),List.filter_nil,vR]) N 0 [] (by simp) (by omega) (uO _)
 rw[show CN N w (C1 N w (Wa w.J a)) N [] 0=C1 N w (Wa w.J a) q from e2];rw[wQ] at o;have o:q=fW w.J:=o;rw[o];rfl
def UY {N:Nat}(u:18446744073709551616<N) {b:AF}(c:L4 N b) {h:BV}{x z:List AB}{q:List AZ}{p:List AB}(j:La H6 b.E.length p):∀n (k:Nat) l,Lc b l→k≤b.D.length→CZ N ⟨b,h,x⟩ p q n (k:Int) l=CU N ⟨b,h,z⟩ q p n (k:Int) l
 |0,k,l,_,_=>rfl
 |n+1,k,l,m,a=>by
  simp only[CZ,CU];rcases vG k b.D.length with a|a
  ·have A:=c.head.li;have d:k<l.length:=by rw[m.1];exact a
   have v:=c.links _ (vA a);have lk:=c.lk _ (vA a);have w:=m.2 k _ _ (uU a) (uU d);rw[Ei a,uG,uG,A9 a];simp only[uF,Fa,GD,BE (show k<4611686018427387904 by omega)];by_cases o:(b.D[k]).F=3
   ·obtain⟨y,B,s⟩:=Tj (l:=p) (i:=(b.D[k]).P) v.fr.1 (by rw[j.1];exact v.fr.2);obtain⟨H,C,t⟩:=Vo (N:=N) (by omega) _ w y;have G:=j.2 y (wO s);have I:=lk.siph o;rw[uK o,uG,uG,A9 d];simp only[B,uF];rw[iZ (by omega) _ o _ y G.2.1 (by rcases w.opn with e|⟨_,e|e⟩<;>simp [e]) (by omega) (by omega),C];simp only[uF,RU];exact UY u c j n (k+1) _ (m.set λJ g=>by rw[uU a] at g;cases g;exact t) (by omega)
   ·rw[uM o,uH,uH];exact UY u c j n (k+1) _ m (by omega)
  ·rw[ES a,uH,uH]
def iY {N:Nat}(g:18446744073709551616<N) {b:AF}(l:L4 N b) {h:BV}(i:h.K.length=b.E.length) (c:∀v∈h.K,H6 v) {t:Int}(j:OK b.E.length t h.N) (d:h.N.length≤4398048311104) (n:Lc b h.D) {z:List AB}(o:z.length=b.E.length) {a:List AB}(k:∀s∈a,AA s.B∧AA s.A):
  Ff N ⟨b,h,[]⟩ a=E8 N ⟨b,h,z⟩ a:=by
 have p:=l.head.pl;rw[Zd g (w:=⟨b,h,[]⟩) (P:=b.E.length) (by omega) rfl i c j d rfl k,mE g (w:=⟨b,h,z⟩) (P:=b.E.length) (by omega) i c j d o k];have m:=jO (h:=h) c (λe q=>(j.el e q).1) k;rw[i] at m;exact UY g l m N 0 h.D n (uO _)
def PG {σ u v w:Type}(L:Nat) (f:Nat→Int→σ→Option v) (c:σ→Option v) (x:Nat→Int→u→Option w) (d:u→Option w) (I:Nat→σ→u→Prop) (i:∀n (k:Nat) s,L≤k→f (n+1) (k:Int) s=c s) (j:∀n (k:Nat) s,L≤k→x (n+1) (k:Int) s=d s)
  (a:∀n (k:Nat) s t,I k s t→k<L→∃s' t',I (k+1) s' t'∧f (n+1) (k:Int) s=f n ((k+1:Nat):Int) s'∧x (n+1) (k:Int) t=x n ((k+1:Nat):Int) t'):
  ∀n (k:Nat) s t,I k s t→L<n+k→k≤L→∃s' t',I L s' t'∧f n (k:Int) s=c s'∧x n (k:Int) t=d t'
 |0,k,s,t,_,h,m=>by omega
 |n+1,k,s,t,l,h,m=>by
  rcases vG k L with b|b
  ·obtain⟨s',t',o,p,q⟩:=a n k s t l b;rw[p,q];exact PG L f c x d I i j a n (k+1) s' t' o (by omega) b
  ·have:k=L:=by omega
   subst this;exact⟨s,t,l,i n k s b,j n k t b⟩
structure ER (N:Nat) (b:AF) (lks:List AH) (pk:List AB) (p:Nat) (e:AK) (x:AD):Prop where
 to:e.to_=x.C
 dl:e.delay=x.X
 sk:Hz N x=some e.slack
 ask:∀v:Int,0≤v→v≤1125899906842624→∀(t:Int) (vol:List AB) (q:List AZ),Cd N ⟨b,⟨t,vol,q,lks⟩,pk⟩ (p:Int) x v=e.asks v
def eH {N:Nat}{b:AF}{lks:List AH}{a:List AB}{p:Nat}{t:IL}(h:0<t.Al):ER N b lks a p ⟨t.C,0,0,λx=>DH N t x⟩ ⟨t.Al,0,t.C,0⟩:=by
 refine⟨rfl,rfl,?_,λv _ _ c vol q=>?_⟩
 ·unfold Hz;rw[uK (show 0<(⟨t.Al,0,t.C,0⟩:AD).Bk from h)];rfl
 ·unfold Cd DH;rw[uK (show 0<(⟨t.Al,0,t.C,0⟩:AD).Bk from h)];rfl
def Z2 {N:Nat}(a:18446744073709551616<N) {b:AF}{lks:List AH}{c:List AB}{p:Nat}(d:p<b.E.length):ER N b lks c p ⟨(b.E[p]).Ap,(b.E[p]).X,2,λx=>DG N b.E[p] x⟩ ⟨0, -1,(b.E[p]).Ap,(b.E[p]).X⟩:=by
 refine⟨rfl,rfl,rfl,λv _ _ g vol q=>?_⟩;unfold Cd DG;rw[show decide (0<(⟨0, -1,(b.E[p]).Ap,(b.E[p]).X⟩:AD).Bk)=false from rfl,show decide ((⟨0, -1,(b.E[p]).Ap,(b.E[p]).X⟩:AD).Z<0)=true from rfl,uH,uG,A9 d,uF];simp only[iX a]
def TT {N:Nat}{b:AF}{lks:List AH}{a:List AB}{p:Nat}{k:Nat}(c:k<b.D.length) (to d v:Int) (t:Int) (vol:List AB) (q:List AZ):Cd N ⟨b,⟨t,vol,q,lks⟩,a⟩ (p:Int) ⟨0,(k:Int),to,d⟩ v=
  cond (decide ((b.D[k]).F≠4)) (cond (decide (0≤(b.D[k]).C)) ((ix a (b.D[k]).C).bind λx=>(ix lks (k:Int)).bind λy=>GO N b.D[k] y ⟨v,v⟩ ⟨x.B,x.A⟩) ((ix lks (k:Int)).bind λy=>GO N b.D[k] y ⟨v,v⟩ ⟨0,0⟩))
  (cond (decide ((b.D[k]).P=(p:Int))) ((ix a (b.D[k]).C).bind λx=>(E9 N b.D[k] ⟨v,v⟩ x).bind λy=>DW N y)
   ((ix a (b.D[k]).P).bind λx=>(E9 N b.D[k] x ⟨v,v⟩).bind λy=>(DE N 0 y.A).bind λu=>(DE N 0 y.B).bind λw=>DW N ⟨u,w⟩)):=by
 unfold Cd;rw[show decide (0<(⟨0,(k:Int),to,d⟩:AD).Bk)=false from rfl,show decide ((⟨0,(k:Int),to,d⟩:AD).Z<0)=false from uM (by show ¬(k:Int)<0;omega),uH,uH,show ix b.D (⟨0,(k:Int),to,d⟩:AD).Z=some b.D[k] from A9 c,uF];unfold Gu;simp only[E5,uF,zC];generalize b.D[k]=l
 congr 1
 ·congr 1
  ·cases ix a l.C<;>simp only[Option.bind_none,uF]<;>cases ix lks (k:Int)<;>rfl
  ·cases ix lks (k:Int)<;>rfl
 ·congr 1
  ·cases ix a l.C<;>rfl
  ·cases ix a l.P<;>rfl
def Xm {N:Nat}(i:18446744073709551616<N) {b:AF}(o:L4 N b) {lks:List AH}{j:List AB}{p:Nat}{k:Nat}(l:k<b.D.length) (d:k<lks.length) (s:(b.D[k]).F≠4) {to:AB}(t:((b.D[k]).C= -1∧to=⟨0,0⟩)∨(0≤(b.D[k]).C∧ix j (b.D[k]).C=some to)) (m n:Int):ER N b lks j p ⟨m,n,2,λx=>DQ N b.D[k] lks[k] ⟨to.B,to.A⟩ x⟩ ⟨0,(k:Int),m,n⟩:=by
 refine⟨rfl,rfl,rfl,λv c a u vol q=>?_⟩;rw[TT l,uK s,uG,A9 d];have lk:=o.lk _ (vA l);show _=DQ N b.D[k] lks[k] ⟨to.B,to.A⟩ v
 unfold DQ;simp only[FE,uF,zC];rcases t with ⟨g,rfl⟩|⟨g,h2⟩
 ·rw[g,show decide ((0:Int)≤ -1)=false from rfl,uH];exact Vh i lk _ _ ⟨c,a⟩ ⟨c,a⟩
 ·rw[uK g,uG,h2,uF];exact Vh i lk _ _ ⟨c,a⟩ ⟨c,a⟩
def Z1 {N:Nat}(g:18446744073709551616<N) {b:AF}{lks:List AH}{a:List AB}{p:Nat}{k:Nat}(i:k<b.D.length) (j:(b.D[k]).F=4) (l:(b.D[k]).P=(p:Int)) {to:AB}(m:ix a (b.D[k]).C=some to) (c d:Int):ER N b lks a p ⟨c,d,2,λx=>DP N b.D[k] to x⟩ ⟨0,(k:Int),c,d⟩:=by
 refine⟨rfl,rfl,rfl,λv o n s vol q=>?_⟩;rw[TT i,show decide ((b.D[k]).F≠4)=false by simp [j],uH,uK l,uG,m,uF];show _=DP N b.D[k] to v
 unfold DP;simp only[FE,uF,zC,Vg g];congr 1;funext y;exact dJ N y
def Z0 {N:Nat}(g:18446744073709551616<N) {b:AF}{lks:List AH}{a:List AB}{p:Nat}{k:Nat}(i:k<b.D.length) (j:(b.D[k]).F=4) (l:(b.D[k]).P≠(p:Int)) {to:AB}(m:ix a (b.D[k]).P=some to) (c d:Int):ER N b lks a p ⟨c,d,2,λx=>DO N b.D[k] to x⟩ ⟨0,(k:Int),c,d⟩:=by
 refine⟨rfl,rfl,rfl,λv t n z vol q=>?_⟩;rw[TT i,show decide ((b.D[k]).F≠4)=false by simp [j],uH,uM l,uH,m,uF];show _=DO N b.D[k] to v
 unfold DO;simp only[FE,uF,zC,Vg g,M5,YY];congr 1;funext y;obtain⟨u,o⟩:=WP N 0 y.A;obtain⟨w,s⟩:=WP N 0 y.B;rw[o,s];simp only[uF];exact dJ N _
def Yf {α β}(f:α→β) (l:List α) (x:α):(l++[x]).map f=l.map f++[f x]:=by rw[xX];rfl
def jS {α}{P:α→Prop}{l:List α}{x:α}(h:∀z∈l,P z) (b:P x):∀z∈l++[x],P z:=λz a=>by
 rcases wF.1 a with a|a
 ·exact h z a
 ·rw[wI.1 a];exact b
set_option maxHeartbeats 1000000 in
def jD {N:Nat}(K:18446744073709551616<N) {b:AF}(I:L4 N b) {h:BV}(aa:Lc b h.D) {a:List AB}(w:a.length=b.E.length) {p:Nat}(A:p<b.E.length) {in_:BT}(ad:in_.Ag.length≤1800000):
  ∃c:List (AK×AD),Hk N ⟨b,h,a⟩ (p:Int) in_.Ag=some (c.map (·.1))∧Fg N ⟨b,h,a⟩ (p:Int) in_=some (c.map (·.2))∧∀z∈c,ER N b h.D a p z.1 z.2:=by
 have ae:=I.head.li;have ab:=I.head.pl;unfold Hk Fg;obtain⟨s1,t1,⟨M,rfl,rfl,i1,n1⟩,Y,Z⟩:=PG in_.Ag.length (λn i l=>B5 N ⟨b,h,a⟩ (p:Int) in_.Ag (B9 N ⟨b,h,a⟩ (p:Int)) n l i) (B9 N ⟨b,h,a⟩ (p:Int))
  (λn i l=>CR N ⟨b,h,a⟩ (p:Int) in_ (C7 N ⟨b,h,a⟩ (p:Int)) n l i) (C7 N ⟨b,h,a⟩ (p:Int))
  (λk s t=>∃c:List (AK×AD),s=c.map (·.1)∧t=c.map (·.2)∧(∀z∈c,ER N b h.D a p z.1 z.2)∧c.length≤k) (λn k s j=>by
   simp only[B5];rw[ES j];rfl) (λn k s j=>by
   simp only[CR];rw[ES j];rfl) (λn k s t hi j=>by
  obtain⟨c,rfl,rfl,U,h2⟩:=hi;simp only[B5,CR];rw[Ei j,uG,uG,A9 j];simp only[uF,GL,F9,BE (show k<4611686018427387904 by omega),Pi,Fb];unfold Ig;simp only[HW,uF,Fb,zC];generalize in_.Ag[k]=t
  have m:(∃d:List (AK×AD),c.map (·.1)=d.map (·.1)∧c.map (·.2)=d.map (·.2)∧(∀z∈d,ER N b h.D a p z.1 z.2)∧d.length≤k+1):=⟨c,rfl,rfl,U,by omega⟩
  cases V:(cond (decide (t.Ah≠(p:Int))) true (!(decide (0≤t.Bo)&&decide (t.Bo<(b.Aq.length:Int))))||decide (t.Al≤0))
  ·have ac:¬t.Al≤0:=by
    rw[vH] at V;exact yA V.2
   rw[uH,wH];have g:(∃d:List (AK×AD),c.map (·.1)++[(⟨t.C,0,0,(λx=>DH N t x)⟩:AK)]=d.map (·.1)∧c.map (·.2)++[(⟨t.Al,0,t.C,0⟩:AD)]=d.map (·.2)∧(∀z∈d,ER N b h.D a p z.1 z.2)∧d.length≤k+1):=
    ⟨c++[(⟨t.C,0,0,(λx=>DH N t x)⟩,⟨t.Al,0,t.C,0⟩)],by rw[Yf],by rw[Yf],jS U (eH (by omega)),by simp;omega⟩
   have q:∀{α:Type} (x:Option α),chk (room ((c.map (·.1)).length+1) 32) x=x:=λx=>Kh (by rw[vQ];omega) x;have u:∀{α:Type} (x:Option α),chk (room ((c.map (·.2)).length+([(⟨t.Al,0,t.C,0⟩:AD)]:List AD).length) 32) x=x:=λx=>Kh (by rw[vQ,List.length_singleton];omega) x;by_cases hm:t.C= -1
   ·rw[show decide (t.C≠ -1)=false by simp [hm],uK hm,uM (show ¬t.C< -1 by omega),uM (show ¬(b.E.length:Int)≤t.C by omega)];simp only[uH,uG,uF,Bool.or_self,q,u];exact⟨_,_,g,rfl,rfl⟩
   ·rw[show decide (t.C≠ -1)=true by simp [hm],uM hm];simp only[uG,uH];by_cases W:0≤t.C∧t.C<b.E.length
    ·obtain⟨y,o,_⟩:=Tj (l:=b.E) W.1 W.2;rw[uK W.1,uK W.2,uM (show ¬t.C< -1 by omega),uM (show ¬(b.E.length:Int)≤t.C by omega),o,A9 A];simp only[xB,vL,uH,uF,Bool.or_self];by_cases v:y.Aw=(b.E[p]).Aw
     ·rw[uK v,show decide (y.Aw≠(b.E[p]).Aw)=false by simp [v]];simp only[uH,uG,q,u];exact⟨_,_,g,rfl,rfl⟩
     ·rw[uM v,show decide (y.Aw≠(b.E[p]).Aw)=true by simp [v]];exact⟨_,_,m,rfl,rfl⟩
    ·rw[show (decide (0≤t.C)&&decide (t.C<(b.E.length:Int)))=false by
      rw[←xQ];simp only[uL,uY];exact W,show(decide (t.C< -1)||decide ((b.E.length:Int)≤t.C))=true by
      simp only[uZ,uY];omega]
     exact⟨_,_,m,rfl,rfl⟩
  ·rw[Bool.true_or,Bool.true_or];exact⟨_,_,m,rfl,rfl⟩) N 0 [] [] ⟨[],rfl,rfl,(λz hz=>by cases hz),uW _⟩ (by omega) (uO _)
 rw[show B5 N ⟨b,h,a⟩ (p:Int) in_.Ag (B9 N ⟨b,h,a⟩ (p:Int)) N [] 0=_ from Y,show CR N ⟨b,h,a⟩ (p:Int) in_ (C7 N ⟨b,h,a⟩ (p:Int)) N [] 0=_ from Z];unfold B9 C7;clear Y Z;obtain⟨s1,t1,⟨z2,rfl,rfl,i2,n2⟩,Y,Z⟩:=PG b.D.length (λn i l=>BY N ⟨b,h,a⟩ (p:Int) (CG N ⟨b,h,a⟩ (p:Int)) n l i) (CG N ⟨b,h,a⟩ (p:Int))
  (λn i l=>CC N ⟨b,h,a⟩ (p:Int) (C6 N ⟨b,h,a⟩ (p:Int)) n l i) (C6 N ⟨b,h,a⟩ (p:Int))
  (λk s t=>∃c:List (AK×AD),s=c.map (·.1)∧t=c.map (·.2)∧(∀z∈c,ER N b h.D a p z.1 z.2)∧c.length≤M.length+k) (λn k s j=>by
   simp only[BY];rw[ES j];rfl) (λn k s j=>by
   simp only[CC];rw[ES j];rfl) (λn k s t hi j=>by
  obtain⟨c,rfl,rfl,U,h2⟩:=hi;have B:k<h.D.length:=by rw[aa.1];exact j
  have G:=I.links _ (vA j);have lk:=I.lk _ (vA j);simp only[BY,CC];rw[Ei j,uG,uG,A9 j,A9 B];simp only[uF,DY,El,HS,BE (show k<4611686018427387904 by omega)];have q:∀{α:Type} (x:Option α),chk (room ((c.map (·.1)).length+1) 32) x=x:=λx=>Kh (by rw[vQ];omega) x;have u:∀{α:Type} (x:Option α),chk (room ((c.map (·.2)).length+1) 32) x=x:=λx=>Kh (by rw[vQ];omega) x;simp only[q,u];have g:∀{e x},ER N b h.D a p e x→(∃d:List (AK×AD),c.map (·.1)++[e]=d.map (·.1)∧c.map (·.2)++[x]=d.map (·.2)∧(∀z∈d,ER N b h.D a p z.1 z.2)∧d.length≤M.length+(k+1)):=λ{e x} hE=>
   ⟨c++[(e,x)],by rw[Yf],by rw[Yf],jS U hE,by simp;omega⟩
  by_cases hF:(b.D[k]).P=(p:Int)
  ·rw[uK hF];by_cases H:(b.D[k]).F=4
   ·rw[show decide ((b.D[k]).F≠4)=false by simp [H]];obtain⟨y,o,_⟩:=Tj (l:=a) (i:=(b.D[k]).C) (G.to.resolve_left (lk.seep H).2.2).1 (by rw[w];exact(G.to.resolve_left (lk.seep H).2.2).2);simp only[Bool.and_false,uH,uG,o,uF];exact⟨_,_,g (Z1 K j H hF o _ _),rfl,rfl⟩
   ·rw[show decide ((b.D[k]).F≠4)=true by simp [H]];simp only[xB,uG];by_cases J:(b.D[k]).C= -1
    ·rw[show decide ((b.D[k]).C≠ -1)=false by simp [J],uH];exact⟨_,_,g (Xm K I j B H (to:=⟨0,0⟩) (.inl ⟨J,rfl⟩) _ _),rfl,rfl⟩
    ·obtain⟨y,o,_⟩:=Tj (l:=a) (i:=(b.D[k]).C) (G.to.resolve_left J).1 (by rw[w];exact(G.to.resolve_left J).2);rw[show decide ((b.D[k]).C≠ -1)=true by simp [J],uG,o,uF,uF];exact⟨_,_,g (Xm K I j B H (to:=y) (.inr ⟨(G.to.resolve_left J).1,o⟩) _ _),rfl,rfl⟩
  ·rw[uM hF];simp only[xJ,uH];cases V:(decide ((b.D[k]).C=(p:Int))&&decide ((b.D[k]).F=4))
   ·exact⟨_,_,⟨c,rfl,rfl,U,by omega⟩,rfl,rfl⟩
   ·simp only[uL,uY] at V;obtain⟨y,o,_⟩:=Tj (l:=a) (i:=(b.D[k]).P) G.fr.1 (by rw[w];exact G.fr.2);simp only[uG,o,uF];exact⟨_,_,g (Z0 K j V.2 hF o _ _),rfl,rfl⟩) N 0 _ _ ⟨M,rfl,rfl,i1,uW _⟩ (by omega) (uO _)
 rw[show BY N ⟨b,h,a⟩ (p:Int) (CG N ⟨b,h,a⟩ (p:Int)) N (M.map (·.1)) 0=_ from Y,show CC N ⟨b,h,a⟩ (p:Int) (C6 N ⟨b,h,a⟩ (p:Int)) N (M.map (·.2)) 0=_ from Z];unfold CG C6 HR F8;rw[A9 A,uF,uF];by_cases hd:(b.E[p]).Q=0
 ·rw[show decide ((b.E[p]).Q≠0)=false by simp [hd],uH,uH];exact⟨z2,rfl,rfl,i2⟩
 ·rw[show decide ((b.E[p]).Q≠0)=true by simp [hd],uG,uG,Kh (by rw[vQ];omega),Kh (by rw[vQ];omega)];exact⟨z2++[(⟨(b.E[p]).Ap,(b.E[p]).X,2,λx=>DG N b.E[p] x⟩,⟨0, -1,(b.E[p]).Ap,(b.E[p]).X⟩)],by rw[Yf],by rw[Yf],jS i2 (Z2 K A)⟩
def Oy (e:AK) (v:Int):AB:=(e.asks v).getD ⟨0,0⟩
def mS (a:AB):List (AK×Int)→Int→Int
 |[],m=>m
 |x::r,m=>mS a r (H4 (m+H4 ((Oy x.1 a.B).A+x.1.slack)))
def zS (a:AB):List (AK×Int)→Int→Int
 |[],z=>z
 |x::r,z=>zS a r (z+((Oy x.1 a.A).B-x.1.slack))
def SZ (a:AB) (x:AK×Int):∀(l:List (AK×Int)) (m:Int),mS a (l++[x]) m=H4 (mS a l m+H4 ((Oy x.1 a.B).A+x.1.slack))
 |[],m=>rfl
 |y::l,m=>by rw[wZ,mS,mS,SZ a x l]
def ST (a:AB) (x:AK×Int):∀(l:List (AK×Int)) (z:Int),zS a (l++[x]) z=zS a l z+((Oy x.1 a.A).B-x.1.slack)
 |[],z=>rfl
 |y::l,z=>by rw[wZ,zS,zS,ST a x l]
def XA {P:Nat}{d:AB}{b:List (AK×Int)}(h:W1 P d b):∀k,k≤b.length→(0≤mS d (b.take k) 0∧mS d (b.take k) 0≤9223372036854775807)∧(-(k:Int)*4503599627370498≤zS d (b.take k) 0∧zS d (b.take k) 0≤(k:Int)*4503599627370498)
 |0,_=>by simp [mS,zS]
 |k+1,j=>by
  obtain⟨q,s⟩:=XA h k (by omega);have g:k<b.length:=j;rw[J3 g,SZ,ST];have i:=h.ok _ (vA g);generalize b[k]=x at i
  obtain⟨a,c,l,n,t,u,v,w,L⟩:=i.ask;have y:=i.sk;have o:Oy x.1 d.B=a:=by unfold Oy;rw[l];rfl
  have p:Oy x.1 d.A=c:=by unfold Oy;rw[n];rfl
  rw[o,p];generalize mS d (b.take k) 0=m at*
  generalize zS d (b.take k) 0=z at*
  refine⟨?_,by omega⟩;unfold H4;omega
def W1.ask {P:Nat}{d:AB}{b:List (AK×Int)}(h:W1 P d b) {k:Nat}(l:k<b.length):∃a c,(b[k]).1.asks d.B=some a∧(b[k]).1.asks d.A=some c∧Oy (b[k]).1 d.B=a∧Oy (b[k]).1 d.A=c∧(0≤a.A∧a.A≤9223372036854775807)∧(0≤c.B∧c.B≤4503599627370496)∧((b[k]).1.slack=0∨(b[k]).1.slack=2):=by
 have g:=h.ok _ (vA l);obtain⟨a,c,i,j,o,m,n,p,L⟩:=g.ask;exact⟨a,c,i,j,by unfold Oy;rw[i];rfl,by unfold Oy;rw[j];rfl,m,n,g.sk⟩
def oI {N:Nat}(hN:18446744073709551616<N) {b:AF}{t:Int}{vol:List AB}{q:List AZ}{lks:List AH}{g:List AB}{p:Nat}{d:AB}(v:g[p]? =some d) (D:H6 d) {P:Nat}{l:List (AK×Int)}(x:W1 P d l) (J:l.length≤200) {xs:List AD}(K:xs.length=l.length)
  (F:∀k (h1:k<l.length) (h2:k<xs.length),ER N b lks g p (l[k]).1 xs[k]) (k:Nat) (hk:k≤l.length):
  GG N ⟨b,⟨t,vol,q,lks⟩,g⟩ (p:Int) (xs.take k)=Fj N d (mS d (l.take k) 0) (zS d (l.take k) 0):=by
 obtain⟨M,k2,Q⟩:=D;have G:p<g.length:=(uV.1 v).1;have H:g[p]=d:=(uV.1 v).2;unfold GG;rw[A9 G,H];simp only[uF];have y:(xs.take k).length=k:=by rw[vV];omega
 obtain⟨⟨m,z⟩,⟨rfl,rfl⟩,e⟩:=Gi (xs.take k).length (λn i (s:Int×Int)=>DD N ⟨b,⟨t,vol,q,lks⟩,g⟩ (p:Int) (xs.take k) d d (DZ N d d) n s.1 s.2 i) (λs=>DZ N d d s.1 s.2) (λj s=>s.1=mS d (l.take j) 0∧s.2=zS d (l.take j) 0) (λn j s C=>by
  simp only[DD];rw[ES C];rfl) (λn j s U C=>by
  obtain⟨m,z⟩:=s;obtain⟨rfl,rfl⟩:=U;have o:j<l.length:=by omega
  have I:j<xs.length:=by omega
  obtain⟨⟨m0,m1⟩,z0,z1⟩:=XA x j (by omega);obtain⟨a,c,V,W,X,Y,a2,c1,sk⟩:=x.ask o;have R:=F j o I;have Z:(xs.take k)[j]=xs[j]:=List.getElem_take;refine⟨(_,_),⟨rfl,rfl⟩,?_⟩;rw[J3 o,SZ,ST,X,Y];simp only[DD];rw[Ei C,uG,A9 C,Z,uF,R.ask _ M (by omega),V,uF,uF,R.ask _ (by omega) Q,W,uF];simp only[uF,R.sk];generalize mS d (l.take j) 0=m at*
  generalize zS d (l.take j) 0=z at*
  generalize (l[j]).1.slack=sl at*
  rw[dK,YY,TV N (a:=m) (b:=a.A) (by unfold AA;omega) (by unfold AA;omega),uF,TV N (a:=H4 (m+a.A)) (b:=sl) (Ua _) (by unfold AA;omega),uF,L9 N (a:=z) (b:=c.B) (by omega) (by omega) (by omega) (by omega),uF,KY N (a:=z+c.B) (b:=sl) (by omega) (by omega) (by omega) (by omega),uF,BE (by omega)];congr 1
  ·unfold H4;omega
  ·omega) N 0 (0,0) ⟨rfl,rfl⟩ (by omega) (uO _)
 rw[show DD N ⟨b,⟨t,vol,q,lks⟩,g⟩ (p:Int) (xs.take k) d d (DZ N d d) N 0 0 0=_ from e];simp only[y];unfold DZ Fj;rw[YY];congr 1;funext u;congr 1;funext w;rw[dJ];rfl
set_option maxHeartbeats 1000000 in
def jC {N:Nat}(hN:18446744073709551616<N) {b:AF}(hb:L4 N b) {t:Int}(h0:0≤t∧t≤33554432) {vol:List AB}(hv:vol.length=b.E.length) {o:List AZ}{lks:List AH}{g:List AB}{p:Nat}(aa:p<b.E.length) {d:AB}(K:g[p]? =some d) (ah:H6 d)
  (hq:OK b.E.length (t+1) o) (ar:o.length+300<4398048301104) {j:List (AK×Int)} (M:W1 b.E.length d j) (H:(j.map (·.2)).sum≤1099511627776) (ai:j.length≤200) {xs:List AD} (ab:xs.length=j.length)
  (ad:∀k (h1:k<j.length) (h2:k<xs.length),ER N b lks g p (j[k]).1 xs[k]) {in_:BT} (Q:Fg N ⟨b,⟨t,vol,o,lks⟩,g⟩ (p:Int) in_=some xs):
  G9 N ⟨b,⟨t,vol,o,lks⟩,g⟩ (p:Int) in_=Hj N ⟨b,⟨t,vol,o,lks⟩,g⟩ (p:Int) (j.map (·.1)):=by
 obtain⟨k1,k2,k3⟩:=ah;have F:=hb.places _ (vA aa);have I:p<g.length:=(uV.1 K).1;have J:g[p]=d:=(uV.1 K).2;have ae:∀x∈j.map (·.2),0≤x:=λx Q=>by
  obtain⟨z,hz,rfl⟩:=wN.1 Q;exact(M.ok z hz).s0
 have hD:0≤d.A-d.B:=by omega
 unfold G9 Hj;rw[Q,uF,A9 aa,A9 I,J];simp only[uF];generalize ao:b.E[p]=pl at F
 have af:=λ(q:List AZ) (k:Nat) (D:k≤j.length)=>oI hN (b:=b) (t:=t) (vol:=vol) (q:=q) (lks:=lks) K ⟨k1,k2,k3⟩ M ai ab ad k D;obtain⟨⟨z,m,q⟩,Z,⟨I1,I2,I3,I4,I5,I6,I7,I8⟩,e1,e2⟩:=PG (j.map (·.1)).length (λn i (s:Int×Int×List AZ)=>Cy N ⟨b,⟨t,vol,o,lks⟩,g⟩ (j.map (·.1)) d (Cz N ⟨b,⟨t,vol,o,lks⟩,g⟩ (p:Int) pl d) n i s.1 s.2.1 s.2.2) (λs=>Cz N ⟨b,⟨t,vol,o,lks⟩,g⟩ (p:Int) pl d s.1 s.2.1 s.2.2)
  (λn i (s:List AZ)=>CQ N ⟨b,⟨t,vol,o,lks⟩,g⟩ (p:Int) xs (C5 N ⟨b,⟨t,vol,o,lks⟩,g⟩ (p:Int) xs pl) n i s) (C5 N ⟨b,⟨t,vol,o,lks⟩,g⟩ (p:Int) xs pl)
  (λk s r=>(0≤s.2.1∧s.2.1≤9223372036854775807)∧(-(k:Int)*4503599627370498≤s.1∧s.1≤(k:Int)*4503599627370498)∧(s.1-s.2.1)*1099511627776≤((j.map (·.2)).take k).sum*(d.A-d.B)∧OK b.E.length (t+1) s.2.2∧s.2.2.length≤o.length+k∧s.1=zS d (j.take k) 0∧s.2.1=mS d (j.take k) 0∧r=s.2.2) (λn k s D=>by
  simp only[Cy];rw[ES D];rfl) (λn k s D=>by
  simp only[CQ];rw[ES (by rw[vQ] at D;omega)];rfl) (λn k s r hi D=>by
  obtain⟨z,m,q⟩:=s;obtain⟨I1,I2,I3,I4,I5,I6,I7,I8⟩:=hi;have i1:0≤m∧m≤9223372036854775807:=I1;have i2: -(k:Int)*4503599627370498≤z∧z≤(k:Int)*4503599627370498:=I2;have i3:(z-m)*1099511627776≤((j.map (·.2)).take k).sum*(d.A-d.B):=I3;have i4:OK b.E.length (t+1) q:=I4;have i5:q.length≤o.length+k:=I5;have i6:z=zS d (j.take k) 0:=I6;have i7:m=mS d (j.take k) 0:=I7;have i8:r=q:=I8;clear I1 I2 I3 I4 I5 I6 I7 I8;subst i8;have v:k<j.length:=by rw[vQ] at D;exact D
  have U:k<xs.length:=by omega
  have V:=M.ok _ (vA v);have R:=ad k v U;have W:zS d (j.take (k+1)) 0=z+((Oy (j[k]).1 d.A).B-(j[k]).1.slack):=by rw[J3 v,ST,i6]
  have Y:mS d (j.take (k+1)) 0=H4 (m+H4 ((Oy (j[k]).1 d.B).A+(j[k]).1.slack)):=by rw[J3 v,SZ,i7]
  have lk:=af r k (by omega);rw[←i6,←i7] at lk;have st:=VT (l:=j.map (·.2)) (k:=k) (by rw[vQ];exact v);have sl:=NQ ae k;have aj:=NQ ae (k+1);simp only[Cy,CQ];rw[Ei D,Ei U,uG,uG,A9 D,A9 U,A9 I,J];simp only[List.getElem_map] at st ⊢;generalize j[k]=x at V st R W Y
  obtain⟨e,sx⟩:=x;obtain⟨a,c,ea,ec,a1,a2,c1,ac,L⟩:=V.ask;have L:(c.B-a.A-2*e.slack)*1099511627776≤sx*(d.A-d.B):=L;have sk:=V.sk;have ea:e.asks d.B=some a:=ea;have ec:e.asks d.A=some c:=ec;have sk:e.slack=0∨e.slack=2:=sk;have g1:Oy e d.B=a:=by unfold Oy;rw[ea];rfl
  have g2:Oy e d.A=c:=by unfold Oy;rw[ec];rfl
  rw[g2] at W;rw[g1] at Y;obtain⟨y,ey,y1,y2⟩:=SW (N:=N) ⟨k1,k2,k3⟩ (m:=m) (z:=z) i1 (by omega) (wT sl.2 H) i3;obtain⟨ak,al,am⟩:=y1;have G:H6 ⟨min a.B y.B,min c.A y.A⟩:=⟨by show 0≤min _ _;omega,by show min _ _≤min _ _;omega,by show min _ _≤_;omega⟩
  obtain⟨Z,u,q1,q2⟩:=Ta (N:=N) (w:=⟨b,⟨t,vol,r,lks⟩,g⟩) (q:=r) (by omega) rfl rfl h0 i4 (by omega) V.to V.dl G;rw[ey] at lk;have R1:=R.to;have R2:=R.dl;have R1:e.to_=(xs[k]).C:=R1;have R2:e.delay=(xs[k]).X:=R2;have an:oB xs (k:Int)=some (xs.take k):=by
   unfold oB;rw[uJ ⟨by omega,by omega,by omega⟩,xT]
  rw[an];simp only[uF,ea,ec,ey];have A1:=R.ask d.B k1 (by omega) t vol r;have A2:=R.ask d.A (by omega) k3 t vol r;have A1:Cd N ⟨b,⟨t,vol,r,lks⟩,g⟩ (p:Int) xs[k] d.B=e.asks d.B:=A1;have A2:Cd N ⟨b,⟨t,vol,r,lks⟩,g⟩ (p:Int) xs[k] d.A=e.asks d.A:=A2;rw[ea] at A1;rw[ec] at A2;rw[u,uF,TV N (a:=a.A) (b:=e.slack) (by unfold AA;omega) (by unfold AA;omega),uF,TV N (a:=m) (by unfold AA;omega) (Ua _),uF,KY N (by omega) (by omega) (by omega) (by omega),uF,L9 N (by omega) (by omega) (by omega) (by omega),uF,BE (by omega),lk,uF,A1,uF,A2,uF];refine⟨(z+(c.B-e.slack),H4 (m+H4 (a.A+e.slack)),Z),Z,⟨?_,?_,?_,q1,?_,W.symm,Y.symm,rfl⟩,rfl,?_⟩
  ·show 0≤H4 _∧H4 _≤_
   unfold H4;omega
  ·show -((k+1:Nat):Int)*4503599627370498≤z+(c.B-e.slack)∧z+(c.B-e.slack)≤((k+1:Nat):Int)*4503599627370498
   omega
  ·show(z+(c.B-e.slack)-H4 (m+H4 (a.A+e.slack)))*1099511627776≤_
   rw[st];have au:0≤sx:=V.s0;have ag:=yC aj.1 hD;rw[st] at ag;by_cases ap:m+(a.A+e.slack)≤9223372036854775807
   ·have e3:H4 (m+H4 (a.A+e.slack))=m+(a.A+e.slack):=by unfold H4;omega
    rw[e3,Int.add_mul];show _≤_+sx*(d.A-d.B)
    generalize sx*(d.A-d.B)=A at*
    generalize ((j.map (·.2)).take k).sum*(d.A-d.B)=B at*
    omega
   ·have e3:H4 (m+H4 (a.A+e.slack))=9223372036854775807:=by unfold H4;omega
    rw[e3];refine wT ?_ ag;omega
  ·show Z.length≤_
   have:Z.length≤r.length+1:=q2;omega
  ·unfold HQ at u;have av:e.to_= -1∨0≤e.to_∧e.to_<b.E.length:=V.to;unfold F7;rw[BE (by omega),←R1,←R2];by_cases hm:e.to_= -1
   ·rw[show decide (e.to_≠ -1)=false by simp [hm],uH] at u;rw[uM (show ¬0≤e.to_ by omega),uH];cases u;rfl
   ·rw[show decide (e.to_≠ -1)=true by simp [hm],uG,zC] at u;rw[uK (show 0≤e.to_ by omega),uG,oH (by omega) i4.srt (λx Q=>(i4.el x Q).1) (by omega) G,u,uF]) N 0 (0,0,o) o ⟨⟨vZ 0,show(0:Int)≤9223372036854775807 by decide⟩,⟨show -((0:Nat):Int)*4503599627370498≤0 by decide,show(0:Int)≤((0:Nat):Int)*4503599627370498 by decide⟩,by simp,hq,uW _,rfl,rfl,rfl⟩ (by rw[vQ];omega) (uO _)
 rw[show Cy N ⟨b,⟨t,vol,o,lks⟩,g⟩ (j.map (·.1)) d (Cz N ⟨b,⟨t,vol,o,lks⟩,g⟩ (p:Int) pl d) N 0 0 0 o=_ from e1,show CQ N ⟨b,⟨t,vol,o,lks⟩,g⟩ (p:Int) xs (C5 N ⟨b,⟨t,vol,o,lks⟩,g⟩ (p:Int) xs pl) N 0 o=_ from e2];rw[vQ] at I2 I3 I5 I6 I7;rw[yM (by rw[vQ];exact uW _)] at I3;have i1:0≤m∧m≤9223372036854775807:=I1;have i2: -(j.length:Int)*4503599627370498≤z∧z≤(j.length:Int)*4503599627370498:=I2;have i3:(z-m)*1099511627776≤(j.map (·.2)).sum*(d.A-d.B):=I3;have i4:OK b.E.length (t+1) q:=I4;have i5:q.length≤o.length+j.length:=I5;have i6:z=zS d (j.take j.length) 0:=I6;have i7:m=mS d (j.take j.length) 0:=I7;have i8:Z=q:=I8;obtain⟨y,ey,⟨ak,al,am⟩,y2⟩:=SW (N:=N) ⟨k1,k2,k3⟩ (m:=m) (z:=z) i1 (by omega) H i3;have lk:=af q j.length (uW _);rw[←i6,←i7,←ab,wQ] at lk;have aq:0≤pl.Ai∧pl.Ai≤1125899906842624:=F.cap;have aw:0≤pl.X∧pl.X≤240:=F.delay;unfold C5 Cz;simp only[i8];rw[lk,ey,uF,uF,KY N (by omega) (by omega) (by omega) (by omega),uF,KY N (by omega) (by omega) (by omega) (by omega),uF,CT (n:=y.B-pl.Ai) (by omega) (by omega),CT (n:=y.A-pl.Ai) (by omega) (by omega),dJ];unfold HD F6 HQ;rw[uF];have G:H6 ⟨max 0 (y.B-pl.Ai),max 0 (y.A-pl.Ai)⟩:=⟨by show 0≤max 0 _;omega,by show max 0 _≤max 0 _;omega,by show max 0 _≤_;omega⟩
 by_cases hm:pl.Ap= -1
 ·rw[show decide (pl.Ap≠ -1)=false by simp [hm],uH,uM (show ¬0≤pl.Ap by omega),uH,uF]
 ·have hd:=F.down.resolve_left hm;rw[show decide (pl.Ap≠ -1)=true by simp [hm],uG,uK (show 0≤pl.Ap from hd.1),uG,oH (by omega) i4.srt (λx Q=>(i4.el x Q).1) (by omega) G,zC]
end Go.Proofs.YtibidnaedddfdaaGreat
