import Derived.Test.YtblcgjadhemlbaaGreatVPureC1
namespace Go.Proofs.YtblcgjadhemlbaaGreat
set_option linter.all false
open Go.RowKit
def gk (R:List Int) (k:Nat):Int:=min (max (R.getD k 0) 0) 1125899906842624
def VJ (R:List Int):Nat→Int
 |0=>0
 |k+1=>VJ R k+gk R k
def Vk (R l:List Int):Prop:=∀(i:Nat) n,l[i]? =some n→n≤gk R i
def Vk.snoc {R l:List Int}(m:Vk R l) {k:Nat}(b:l.length=k) {n:Int}(c:n≤gk R k):Vk R (l++[n]):=λi x a=>by
 rcases nT i k with d|d
 ·rw[rQ (by omega)] at a
  exact m i x a
 ·have g:=(nK.1 a).1
  rw[oD,List.length_singleton] at g
  have j:i=k:=by omega
  subst j
  rw[rR (by omega),b,Nat.sub_self] at a
  cases a
  exact c
def Vk.take {R l:List Int}(g:Vk R l):∀d k,k+d≤l.length→VJ R k-(l.take k).sum≤VJ R (k+d)-(l.take (k+d)).sum
 |0,k,_=>oA _
 |d+1,k,a=>by
  have b:=Vk.take g d k (by omega)
  have c:=g (k+d) _ (nO (show k+d<l.length by omega))
  rw[show k+(d+1)=(k+d)+1 by omega,Hf (show k+d<l.length by omega)]
  simp only[VJ]
  omega
def Vk.sum {R l:List Int}(a:Vk R l):l.sum≤VJ R l.length:=by
 have:=Vk.take a l.length 0 (by omega)
 rw[oK,oL,pB] at this
 simp only[VJ,List.sum_nil] at this
 omega
def Y0 {N:Nat}(hN:1000000<N) {w:A4}{W:Nat}(hW:w.b.H.length=W) (h1:1≤W) (aw:W≤16) (hP:w.b.A.length≤64) (K:IG w.b.A.length W w.s.G) (hq:w.s.J.length≤1000) (v:QX w.b.A.length W w.s.J) (ht:EO w.s.G+Fu w.s.J≤1125899906842624) (U:w.s.O.length=W) (p:∀x∈w.s.O,0≤x) (ae:w.s.O.sum≤1152921504606846976) (hm:w.moves=[]):
  ∃l r,IQ N w=some (r.2.2.2.1,r.2.2.2.2,r.2.2.1)∧lX w W w.b.A.length l r∧Vk w.in_.Aa l∧(l.sum=VJ w.in_.Aa w.b.A.length∨r.1=1125899906842624∨r.2.1=1152921504606846976):=by
 have ax:=K.len
 have aj:=(E9 v 0).2
 rw[pB,show Fu ([]:List BE)=0 from rfl] at aj
 unfold IQ
 obtain⟨s1,i1,e1⟩:=EQ w.s.G.length (λn i s=>EB N w (ED N w) n s i) (ED N w) (λk s=>s=EO (w.s.G.take k)) (λn k s g=>by
  simp only[EB];rw[E7 g];rfl) (λn k s V g=>by
  have C:=K.all _ (nP g)
  have h2:=Jp K (k+1)
  rw[K7 g] at h2
  have h3:=C.sum0
  have h4:=(Jp K k).1
  simp only[EB]
  rw[Ev g,mW,BS g,mV,mV,C.total hN (by omega),mV,BX (by omega),DG (n:=s+(w.s.G[k]).sum) (by omega) (by omega)]
  exact⟨_,by rw[K7 g,V],rfl⟩) N 0 0 rfl (by omega) (nE _)
 rw[show EB N w (ED N w) N 0 0=ED N w s1 from e1]
 rw[oL] at i1
 have ay:=K.sum0
 unfold ED
 obtain⟨s2,i2,e2⟩:=EQ w.s.J.length (λn i s=>EA N w (EC N w) n s i) (EC N w) (λk s=>s=EO w.s.G+Fu (w.s.J.take k)) (λn k s g=>by
  simp only[EA];rw[E7 g];rfl) (λn k s V g=>by
  have C:=(v _ (nP g)).1
  have h2:=E9 v (k+1)
  rw[KD g] at h2
  have h3:=C.sum0
  have h4:=(E9 v k).1
  simp only[EA]
  rw[Ev g,mW,BS g,mV,C.total hN (by omega),mV,BX (by omega),DG (n:=s+(w.s.J[k]).X.sum) (by omega) (by omega)]
  exact⟨_,by rw[KD g,V];omega,rfl⟩) N 0 s1 (by rw[i1,pB];simp [Fu]) (by omega) (nE _)
 rw[show EA N w (EC N w) N s1 0=EC N w s2 from e2]
 rw[oL] at i2
 have az:=I0 p
 unfold EC
 rw[S5 hN (by omega) p (by omega),mV]
 obtain⟨s,⟨l,i3,i4⟩,e⟩:=EQ w.b.A.length (λn i (s:Int×Int×List BA×List (List Int)×List Int)=>C1 N w n s.1 s.2.1 i s.2.2.1 s.2.2.2.1 s.2.2.2.2) (λs=>some (s.2.2.2.1,s.2.2.2.2,s.2.2.1)) (λk s=>∃l,lX w W k l s∧Vk w.in_.Aa l∧(l.sum=VJ w.in_.Aa k∨s.1=1125899906842624∨s.2.1=1152921504606846976)) (λn k s g=>by
  simp only[C1];rw[E7 g];rfl) (λn k s V g=>by
  obtain⟨a,c,ms,o,j⟩:=s
  obtain⟨l,⟨Y,q2,q3,Z,q5,q6,⟨q7,q8⟩,q9,⟨D,af⟩,aa⟩,qp,qm⟩:=V
  simp only at q3 Z q5 q6 q7 q8 q9 D af aa qm
  have a0:=Z.sum0
  have ak:=I0 q2
  obtain⟨x,C,F,q⟩:=Z.ix g
  obtain⟨x1,a1,M,aq⟩:=K.ix g
  have al:x=x1:=by rw[q6 k (nJ _),M] at F;exact(mZ F).symm
  have hj:∀m:Int,m≤1125899906842624-a→m≤1152921504606846976-c→(max m 0≤gk w.in_.Aa k∧(l.sum+max m 0=VJ w.in_.Aa (k+1)∨a+max m 0=1125899906842624∨c+max m 0=1152921504606846976))→∃s':Int×Int×List BA×List (List Int)×List Int,(∃l,lX w W (k+1) l s'∧Vk w.in_.Aa l∧(l.sum=VJ w.in_.Aa (k+1)∨s'.1=1125899906842624∨s'.2.1=1152921504606846976))∧GW N w a c (k:Int) ms o j (FQ N (k:Int) (C1 N w n)) m=C1 N w n s'.1 s'.2.1 ((k+1:Nat):Int) s'.2.2.1 s'.2.2.2.1 s'.2.2.2.2:=λm a2 a3 a4=>by
   unfold GW FQ
   rw[BX (by omega)]
   by_cases ag:m≤0
   ·rw[nW ag,mW]
    refine⟨(a,c,ms,o,j),⟨l++[0],⟨by simp [Y],λn d=>?_,?_,Z,λi y n hy d=>?_,λi V=>q6 i (by omega),⟨q7,q8⟩,by rw[pK];simpa using q9,⟨by rw[pK];simpa using D,af⟩,by rw[pK];simpa using aa⟩,qp.snoc Y (by omega),by show _∨a=_∨c=_;rw[show (l++[(0:Int)]).sum=l.sum by simp];omega⟩,rfl⟩
    ·rcases oQ.1 d with d|d
     ·exact q2 n d
     ·rw[pJ.1 d];exact oA 0
    ·show ms=_
     rw[P6,nB (by omega),oS];exact q3
    ·show o[i]? =_
     by_cases ab:i<k
     ·rw[rQ (by omega)] at d
      exact q5 i y n hy d
     ·have t:i=k:=by
       have:=(nK.1 d).1
       simp at this;omega
      subst t
      rw[rR (by omega),Y,Nat.sub_self] at d
      cases d
      rw[Ur,Q6 (K.all y (oM hy)).len,q6 i (nJ _),hy]
   ·have a5:=Z.le F
    have hv:=Zw h1 (n:=m) (by omega) (by omega)
    have ah:=Rj h1 m
    obtain⟨x0,ac⟩:=Df.ix (l:=x) (i:=0) (oA _) (by rw[q.len];omega)
    have ar:=q.mem (oM (Eu ac).2)
    have ai:j.length=W:=by rw[q9];exact N4 U (Pv _ _)
    obtain⟨y0,I⟩:=Df.ix (l:=j) (i:=0) (oA _) (by omega)
    have u:∀z∈j,0≤z:=by
     rw[q9]
     refine PZ p λz hz=>?_
     rcases rE hz with hz|rfl
     ·rw[(qL.1 hz).2];exact oA 0
     ·exact ak
    have am:j.sum=c:=by rw[q9,KW (by rw[U,Pv]),Rj h1,D]
    have au:=Hg u _ (oM (Eu I).2)
    have av:=u _ (oM (Eu I).2)
    obtain⟨z0,an⟩:=Df.ix (l:=List.replicate ((w.b.H.length:Int)).toNat (0:Int)) (i:=0) (oA _) (by rw[MC];omega)
    have a6:=Ru w.s.B W l 0
    rw[nL ag,mX,C,mV,mV,ac,mV,mV,I,mV,mV,mV,mV,IM (by omega) _ (by decide),an,mV,mV,KC (by rw[q3];simp;omega),DG (n:=a+m) (by omega) (by omega),DG (n:=c+m) (by omega) (by omega),DG (n:=x0+m) (by omega) (by omega),DG (n:=y0+m) (by omega) (by omega),Uq q.len h1 m x0 ac,Uq ai h1 m y0 I]
    have ao:PX W (Gp x (v1 W m)):=q.add hv (by rw[ah];omega)
    have Q:EO (upd o (k:Int) (Gp x (v1 W m)))=EO o+m:=by
     rw[OE F,KW (q.len.trans hv.len.symm),ah];omega
    have ap:List.replicate ((w.b.H.length:Int)).toNat (0:Int)=List.replicate W 0:=by rw[hW];rfl
    refine⟨(a+m,c+m,ms++[⟨w.s.B, -1,(k:Int), -4,upd (List.replicate ((w.b.H.length:Int)).toNat (0:Int)) 0 m⟩],upd o (k:Int) (Gp x (v1 W m)),Gp j (v1 W m)),⟨l++[m],⟨by simp [Y],λn d=>?_,?_,Z.upd _ ao,λi y n hy d=>?_,λi V=>?_,⟨?_,by show a+m≤_;omega⟩,?_,⟨?_,by show c+m≤_;omega⟩,?_⟩,qp.snoc Y (by omega),by show _∨a+m=_∨c+m=_;rw[show (l++[m]).sum=l.sum+m by simp];omega⟩,rfl⟩
    ·rcases oQ.1 d with d|d
     ·exact q2 n d
     ·rw[pJ.1 d];omega
    ·show ms++_=_
     rw[P6,nD (by omega),q3,ap,oK,Y];rfl
    ·show(upd o (k:Int) _)[i]? =_
     by_cases ab:k=i
     ·subst ab
      rw[rR (by omega),Y,Nat.sub_self] at d
      cases d
      rw[GO (by rw[Z.len];exact g),al]
      rw[M] at hy
      cases hy
      rfl
     ·have t:i<l.length:=by
       have:=(nK.1 d).1
       simp at this;omega
      rw[IC ab]
      rw[rQ t] at d
      exact q5 i y n hy d
    ·show(upd o (k:Int) _)[i]? =_
     rw[IC (by omega)];exact q6 i (by omega)
    ·show a+m=EO _+_
     rw[Q];omega
    ·show Gp j (v1 W m)=_
     rw[q9,pK,Pu]
     rw[bK h1];simp
    ·show c+m=_
     rw[pK,D];simp;omega
    ·show EO _=_
     rw[Q,aa,pK];simp;omega
  simp only[C1]
  rw[Ev g,mW]
  cases hr:decide ((k:Int)<(w.in_.Aa.length:Int))
  ·have hr:=of_decide_eq_false hr
   have ad:w.in_.Aa.getD k 0=0:=by rw[oT,oE (by omega)];rfl
   exact hj 0 (by omega) (by omega) (by simp only[VJ,gk,ad];omega)
  ·have hr:=pR hr
   have a7:0≤c:=by omega
   rw[mW,BS (show k<w.in_.Aa.length by omega),mV,DG (n:=1125899906842624-a) (by omega) (by omega),DG (n:=1152921504606846976-c) (by omega) (by omega)]
   have ad:w.in_.Aa.getD k 0=w.in_.Aa[k]:=by simp [oT,show k<w.in_.Aa.length by omega]
   exact hj _ (by omega) (by omega) (by simp only[VJ,gk,ad];omega)) N 0 (s2,w.s.O.sum,w.moves,w.s.G,w.s.O) ⟨[],⟨rfl,λn d=>(by cases d),hm,K,λi x n _ d=>(by cases d),λi _=>rfl,⟨by show s2=_;rw[i2],by show s2≤_;omega⟩,by
    show w.s.O=Gp _ (v1 W 0)
    rw[Ur,Q6 U],⟨by show w.s.O.sum=_;simp,ae⟩,by simp⟩,(λi x C=>by cases C),.inl rfl⟩ (by omega) (nE _)
 exact⟨l,s,e,i3,i4⟩
structure mD (N:Nat) (b:AU) (s:BD) (in_:Eb) (o1:List (List Int)) (gs:List BH) (o2:List (List Int)) (inn:List Int) (ms:List BA) (z:List (List Int)×List BE×List BH×List Int) (ns:List Int):Prop where
 eg:GR N (⟨b,in_,s,([]:List BA),(List.replicate ((b.A.length:Int)).toNat (0:Int)),([]:List BE)⟩:A4)=some gs
 ez:Ex N (⟨b,in_,(⟨s.B,o2,s.M,s.J,gs,inn,s.P⟩:BD),ms,(List.replicate ((b.A.length:Int)).toNat (0:Int)),([]:List BE)⟩:A4)=some z
 nl:ns.length=b.A.length
 n0:∀n∈ns,0≤n
 ms_:ms=WQ s.B b.H.length 0 ns
 at3:∀(p:Nat) x n,o1[p]? =some x→ns[p]? =some n→z.1[p]? =some (Gp (Gp x (v1 b.H.length n)) (SZ b.H.length s.B s.J p))
 own:IG b.A.length b.H.length z.1
 rest:z.2.1=Kv s.B s.J
 pk:z.2.2.2=z.1.map List.sum
 gl:z.2.2.1.length=b.E.length
 inn_:inn=Gp s.O (v1 b.H.length ns.sum)
 tot:EO z.1+Fu (Kv s.B s.J)=EO s.G+Fu s.J+ns.sum
 tot2:EO s.G+Fu s.J+ns.sum≤1125899906842624
 pw:Vk in_.Aa ns
 max_:ns.sum=VJ in_.Aa b.A.length∨EO s.G+Fu s.J+ns.sum=1125899906842624∨s.O.sum+ns.sum=1152921504606846976
 ins:s.O.sum+ns.sum≤1152921504606846976
def Wu {N:Nat}(hN:18446744073709551616<N) {b:AU}(D:HD b) (F:∀l∈b.E,JO b l) (ae:∀p∈b.A,HR b p) {s:BD}(d:lV b s) (hq:s.J.length≤1000) {in_:Eb}(h1:in_.Am.length≤1000) (h2:in_.Ar.length≤1000) (h3:in_.Ae.length≤1000) {t:List (List Int)}(h4:∀j:List BH,FY N (⟨b,in_,({ s with Q:=j}:BD),([]:List BA),(List.replicate ((b.A.length:Int)).toNat (0:Int)),([]:List BE)⟩:A4)=some t) (I:IG b.A.length b.H.length t) (K:EO t=EO s.G):
  ∃j m g o z U,Gz N b s in_=EY N b in_ s (m,g,o) z (EZ N s (m,g,o) z) N 0 z.1 s.M s.P o ([]:List BE)∧mD N b s in_ t j m g o z U:=by
 have hP:=D.pl
 have hL:=D.li
 have hW:=D.own
 have V:=D.own1
 have i:1000000<N:=by omega
 unfold Gz
 rw[RZ i (by have:=d.own.len;omega) (λx X=>by have:=(d.own.all x X).len;omega) (by have:=d.rem;omega) (by have:=d.gates;omega) (by have:=d.inn;omega) (by have:=d.out;omega),mV,IM (by omega) _ (by decide)]
 have Y:Vq b.E.length s.Q (mK s):=⟨d.gates,λk hk=>by
  have:k<s.Q.length:=by rw[d.gates];exact hk
  simp [mK,oT,this]⟩
 obtain⟨j,eg,hg⟩:=XN i (w:=(⟨b,in_,s,([]:List BA),(List.replicate ((b.A.length:Int)).toNat (0:Int)),([]:List BE)⟩:A4)) rfl (show b.E.length≤1000 by omega) h1 h2 Y
 rw[eg,mV]
 have Z:=h4 j
 rw[Z,mV]
 obtain⟨U,⟨a,c,o,m,g⟩,ey,⟨q1,q2,q3,q4,q5,q6,⟨q7,q8⟩,q9,⟨aa,ab⟩,ac⟩,qp,qm⟩:=Y0 i (w:=(⟨b,in_,(⟨s.B,t,s.M,s.J,j,s.O,s.P⟩:BD),([]:List BA),(List.replicate ((b.A.length:Int)).toNat (0:Int)),([]:List BE)⟩:A4)) (W:=b.H.length) rfl V hW hP I hq d.que (by show EO t+Fu s.J≤_;rw[K];exact d.tot) d.inn d.inn0 d.inns rfl
 simp only at q1 q2 q3 q4 q5 q6 q7 q8 q9 aa ab ac qm ey
 rw[ey,mV]
 obtain⟨z,ez,⟨u,v,q,y,ad⟩,C⟩:=dD i (w:=(⟨b,in_,(⟨s.B,m,s.M,s.J,j,g,s.P⟩:BD),o,(List.replicate ((b.A.length:Int)).toNat (0:Int)),([]:List BE)⟩:A4)) (W:=b.H.length) rfl hW hP hL F q4 hq d.que (by show EO m+Fu s.J≤_;omega) (MC _ _) hg.1
 simp only at u v q y ad C
 rw[ez,mV]
 exact⟨j,m,g,o,z,U,rfl,⟨eg,ez,q1,q2,q3,λp x n X hn=>v p _ (q5 p x n X hn),u,q,y,C,q9,by rw[←q];omega,by omega,qp,by omega,by omega⟩⟩
def Yt {N:Nat}(hN:18446744073709551616<N) {b:AU}(C:HD b) (D:∀l∈b.E,JO b l) (j:∀p∈b.A,HR b p) {s:BD}(X:lV b s) (hq:s.J.length≤1000) {in_:Eb}(h1:in_.Am.length≤1000) (h2:in_.Ar.length≤1000) (h3:in_.Ae.length≤1000) {Y:List (List Int)}(h4:∀gs:List BH,FY N (⟨b,in_,({ s with Q:=gs}:BD),([]:List BA),(List.replicate ((b.A.length:Int)).toNat (0:Int)),([]:List BE)⟩:A4)=some Y) (aa:IG b.A.length b.H.length Y) (ab:EO Y=EO s.G):
  ∃r c o3 l,Gz N b s in_=some r∧Vd N b s in_.Ae Y r c o3 l∧EO o3+Fu (Kv s.B s.J)=EO s.G+Fu s.J+c.sum∧Vk in_.Aa c∧(c.sum=VJ in_.Aa b.A.length∨EO s.G+Fu s.J+c.sum=1125899906842624∨s.O.sum+c.sum=1152921504606846976)∧s.O.sum+c.sum≤1152921504606846976:=by
 have hP:=C.pl
 have hL:=C.li
 have hW:=C.own
 have ad:=C.own1
 have ae:1000000<N:=by omega
 obtain⟨gs,y,a,d,z,c,eS,h⟩:=Wu hN C D j X hq h1 h2 h3 h4 aa ab
 have q1:=h.nl
 have q2:=h.n0
 have q3:=h.ms_
 have u:=h.own
 have F:=h.rest
 have I:=h.pk
 have ac:=h.gl
 have k1:=h.tot
 have k2:=h.tot2
 have af:=Ru s.B b.H.length c 0
 obtain⟨⟨o,rm,out,g,Z⟩,⟨l,i1,q,v,K⟩,e⟩:=EQ b.A.length (λn i (t:List (List Int)×List Int×List Int×List BA×List BE)=>EY N b in_ s (y,a,d) z (EZ N s (y,a,d) z) n i t.1 t.2.1 t.2.2.1 t.2.2.2.1 t.2.2.2.2) (λt=>EZ N s (y,a,d) z t.1 t.2.1 t.2.2.1 t.2.2.2.1 t.2.2.2.2) (λk t=>∃l,t.2.1.length=b.A.length∧kF b s.B N b.H.length k z.1 s.P d t.1 t.2.2.1 t.2.2.2.1 t.2.2.2.2 l∧YX b.H.length t.2.2.1 t.2.2.2.1 t.2.2.2.2 (64+k*(in_.Ae.length+b.E.length+2))∧kR N b s.B in_.Ae z.1 k t.1 l) (λn k t U=>by
  simp only[EY];rw[E7 U];rfl) (λn k t hi U=>by
  obtain⟨o,rm,out,g,Z⟩:=t
  obtain⟨l,i1,q,v,K⟩:=hi
  simp only at i1 q v K
  simp only[EY]
  have V:k*(in_.Ae.length+b.E.length+2)≤64*(1000+96+2):=Nat.mul_le_mul (by omega) (by omega)
  obtain⟨r,l',er,r1,r2,r3,r5,r4⟩:=XS hN (w:=(⟨b,in_,(⟨s.B,o,rm,z.2.1,z.2.2.1,a,out⟩:BD),g,z.2.2.2,Z⟩:A4)) (H:=s.B) (W:=b.H.length) rfl (by omega) (by show b.E.length≤_;omega) h3 D j ac (by show z.2.2.2.length=_;rw[I,qX];exact u.len) i1 U q.ox v (by omega)
  rw[Ev U,mW,er,mV,BX (by omega)]
  have hM:64+(k+1)*(in_.Ae.length+b.E.length+2)=64+k*(in_.Ae.length+b.E.length+2)+(in_.Ae.length+b.E.length+2):=by rw[pF];omega
  exact⟨(_,_,_,_,_),⟨l++l',r1,q.next r2,by rw[hM];exact v.next r2 r3,K.next U r2 r5 r4⟩,rfl⟩) N 0 (z.1,s.M,s.P,d,[]) ⟨[],X.rem,⟨λm hm=>(by cases hm),.nil,by simp,rfl,rfl,rfl,trivial,u,X.out,by simp [KE]⟩,⟨X.out,by show d.length≤_;rw[q3];omega,by simp⟩,⟨λp hp=>(by omega),λp _=>⟨rfl,rfl⟩,λp _ hp=>(by omega)⟩⟩ (by omega) (nE _)
 rw[eS,show EY N b in_ s (y,a,d) z (EZ N s (y,a,d) z) N 0 z.1 s.M s.P d ([]:List BE)=EZ N s (y,a,d) z o rm out g Z from e]
 simp only at q v
 have V:b.A.length*(in_.Ae.length+b.E.length+2)≤64*(1000+96+2):=Nat.mul_le_mul hP (by omega)
 have ag:=v.sn
 have ah:=v.mv
 have ai:z.2.1.length≤s.J.length:=by rw[F];exact List.length_filter_le _ _
 unfold EZ
 rw[KC (by omega)]
 refine⟨_,c,z.1,l,rfl,⟨q1,by show g.length≤_;omega,q2,h.at3,u,by omega,I,?_,?_,rfl,h.inn_,K.tk,λp hp x hx=>K.cap p hp hp x hx⟩,h.tot,h.pw,h.max_,h.ins⟩
 ·rw[←q.sn_,←q3];exact q
 ·show z.2.1++Z=_
  rw[F,q.sn_]
end Go.Proofs.YtblcgjadhemlbaaGreat
