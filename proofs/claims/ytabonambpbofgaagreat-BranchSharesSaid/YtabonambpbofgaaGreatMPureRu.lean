import Derived.Test.YtabonambpbofgaaGreatMPureC1
import Derived.Test.YtabonambpbofgaaGreatMPureR1
namespace Go.Proofs.YtabonambpbofgaaGreat
set_option linter.all false
open Go.RowKit
def gk (R:List Int) (k:Nat):Int:=min (max (R.getD k 0) 0) 1125899906842624
def WV (R:List Int):Nat→Int
 |0=>0
 |k+1=>WV R k+gk R k
def U7 (R l:List Int):Prop:=∀(i:Nat) n,l[i]? =some n→n≤gk R i
def U7.snoc {R l:List Int}(m:U7 R l) {k:Nat}(b:l.length=k) {n:Int}(c:n≤gk R k):U7 R (l++[n]):=λi x a=>by
 rcases Abb i k with d|d
 ·rw[Ad7 (by omega)] at a;exact m i x a
 ·have g:=(Aa4.1 a).1;rw[Abi,List.length_singleton] at g;have j:i=k:=by omega
  subst j;rw[Ad8 (by omega),b,Nat.sub_self] at a;cases a;exact c
def U7.take {R l:List Int}(g:U7 R l):∀d k,k+d≤l.length→WV R k-(l.take k).sum≤WV R (k+d)-(l.take (k+d)).sum
 |0,k,_=>Abo _
 |d+1,k,a=>by
  have b:=U7.take g d k (by omega);have c:=g (k+d) _ (Aa1 (show k+d<l.length by omega));rw[show k+(d+1)=(k+d)+1 by omega,KR (show k+d<l.length by omega)];simp only[WV];omega
def U7.sum {R l:List Int}(a:U7 R l):l.sum≤WV R l.length:=by
 have:=U7.take a l.length 0 (by omega);rw[Abt,Abu,Acl] at this;simp only[WV,List.sum_nil] at this;omega
def zR {R l:List Int}(j:U7 R l) (g:l.sum=WV R l.length) (i:Nat) (b:i<l.length):l[i]? =some (gk R i):=by
 have c:=U7.take j i 0 (by omega);have a:=U7.take j (l.length-(i+1)) (i+1) (by omega);have d:=U7.take j 1 i (by omega);rw[Abt,Acl] at c;rw[show i+1+(l.length-(i+1))=l.length by omega,Abu] at a;rw[KR b] at a d;simp only[WV,List.sum_nil] at c a d;rw[Aa1 b,show l[i]=gk R i by omega]
def gY {N:Nat}(hN:8000000000000<N) {w:AK}{W:Nat}(hW:w.b.H.length=W) (h1:1≤W) (av:W≤16) (hP:w.b.A.length≤64) (K:JY w.b.A.length W w.s.G) (hq:w.s.I.length≤4000000000000) (v:QX w.b.A.length W w.s.I) (ht:Fs w.s.G+HK w.s.I≤1125899906842624) (U:w.s.L.length=W) (p:∀x∈w.s.L,0≤x) (ad:w.s.L.sum≤1152921504606846976) (hm:w.moves=[]):
  ∃l r,JP N w=some (r.2.2.2.1,r.2.2.2.2,r.2.2.1)∧zK w W w.b.A.length l r∧U7 w.in_.T l∧(l.sum=WV w.in_.T w.b.A.length∨r.1=1125899906842624∨r.2.1=1152921504606846976):=by
 have aw:=K.len;have ai:=(H9 v 0).2;rw[Acl,show HK ([]:List AV)=0 from rfl] at ai;unfold JP;obtain⟨s1,i1,e1⟩:=GO w.s.G.length (λn i s=>Ea N w (Ec N w) n s i) (Ec N w) (λk s=>s=Fs (w.s.G.take k)) (λn k s g=>by
  simp only[Ea];rw[Ft g];rfl) (λn k s V g=>by
  have C:=K.all _ (Aa9 g);have h2:=Nm K (k+1);rw[NT g] at h2;have h3:=C.sum0;have h4:=(Nm K k).1;simp only[Ea];rw[FW g,Aaq,BB g,Aap,Aap,C.total hN (by omega),Aap,A9 (by omega),D5 (n:=s+(w.s.G[k]).sum) (by omega) (by omega)];exact⟨_,by rw[NT g,V],rfl⟩) N 0 0 rfl (by omega) (Aaw _)
 rw[show Ea N w (Ec N w) N 0 0=Ec N w s1 from e1];rw[Abu] at i1;have ax:=K.sum0;unfold Ec;obtain⟨s2,i2,e2⟩:=GO w.s.I.length (λn i s=>EZ N w (Eb N w) n s i) (Eb N w) (λk s=>s=Fs w.s.G+HK (w.s.I.take k)) (λn k s g=>by
  simp only[EZ];rw[Ft g];rfl) (λn k s V g=>by
  have C:=(v _ (Aa9 g)).1;have h2:=H9 v (k+1);rw[MV g] at h2;have h3:=C.sum0;have h4:=(H9 v k).1;simp only[EZ];rw[FW g,Aaq,BB g,Aap,C.total hN (by omega),Aap,A9 (by omega),D5 (n:=s+(w.s.I[k]).W.sum) (by omega) (by omega)];exact⟨_,by rw[MV g,V];omega,rfl⟩) N 0 s1 (by rw[i1,Acl];simp [HK]) (by omega) (Aaw _)
 rw[show EZ N w (Eb N w) N s1 0=Eb N w s2 from e2];rw[Abu] at i2;have ay:=KN p;unfold Eb;rw[VT hN (by omega) p (by omega),Aap];obtain⟨s,⟨l,i3,i4⟩,e⟩:=GO w.b.A.length (λn i (s:Int×Int×List AT×List (List Int)×List Int)=>DD N w n s.1 s.2.1 i s.2.2.1 s.2.2.2.1 s.2.2.2.2) (λs=>some (s.2.2.2.1,s.2.2.2.2,s.2.2.1)) (λk s=>∃l,zK w W k l s∧U7 w.in_.T l∧(l.sum=WV w.in_.T k∨s.1=1125899906842624∨s.2.1=1152921504606846976)) (λn k s g=>by
  simp only[DD];rw[Ft g];rfl) (λn k s V g=>by
  obtain⟨a,c,ms,o,j⟩:=s;obtain⟨l,⟨X,q2,q3,Y,q5,q6,⟨q7,q8⟩,q9,⟨D,ae⟩,Z⟩,qp,qm⟩:=V;simp only at q3 Y q5 q6 q7 q8 q9 D ae Z qm;have az:=Y.sum0;have aj:=KN q2;obtain⟨x,C,F,q⟩:=Y.ix g;obtain⟨x1,a0,M,ap⟩:=K.ix g;have ak:x=x1:=by rw[q6 k (Aa7 _),M] at F;exact(Aat F).symm
  have hj:∀m:Int,m≤1125899906842624-a→m≤1152921504606846976-c→(max m 0≤gk w.in_.T k∧(l.sum+max m 0=WV w.in_.T (k+1)∨a+max m 0=1125899906842624∨c+max m 0=1152921504606846976))→∃s':Int×Int×List AT×List (List Int)×List Int,(∃l,zK w W (k+1) l s'∧U7 w.in_.T l∧(l.sum=WV w.in_.T (k+1)∨s'.1=1125899906842624∨s'.2.1=1152921504606846976))∧HH N w a c (k:Int) ms o j (GJ N (k:Int) (DD N w n)) m=DD N w n s'.1 s'.2.1 ((k+1:Nat):Int) s'.2.2.1 s'.2.2.2.1 s'.2.2.2.2:=λm a1 a2 a3=>by
   unfold HH GJ;rw[A9 (by omega)];by_cases af:m≤0
   ·rw[Aba af,Aaq];refine⟨(a,c,ms,o,j),⟨l++[0],⟨by simp [X],λn d=>?_,?_,Y,λi y n hy d=>?_,λi V=>q6 i (by omega),⟨q7,q8⟩,by rw[Acm];simpa using q9,⟨by rw[Acm];simpa using D,ae⟩,by rw[Acm];simpa using Z⟩,qp.snoc X (by omega),by show _∨a=_∨c=_;rw[show (l++[(0:Int)]).sum=l.sum by simp];omega⟩,rfl⟩
    ·rcases Abp.1 d with d|d
     ·exact q2 n d
     ·rw[Ab0.1 d];exact Abo 0
    ·show ms=_
     rw[Se,Aas (by omega),Ab2];exact q3
    ·show o[i]? =_
     by_cases aa:i<k
     ·rw[Ad7 (by omega)] at d;exact q5 i y n hy d
     ·have t:i=k:=by
       have:=(Aa4.1 d).1;simp at this;omega
      subst t;rw[Ad8 (by omega),X,Nat.sub_self] at d;cases d;rw[XV,Tk (K.all y (Ab3 hy)).len,q6 i (Aa7 _),hy]
   ·have a4:=Y.le F;have hv:=kY h1 (n:=m) (by omega) (by omega);have ag:=UM h1 m;obtain⟨x0,ab⟩:=Df.ix (l:=x) (i:=0) (Abo _) (by rw[q.len];omega);have aq:=q.mem (Ab3 (Er ab).2);have ah:j.length=W:=by rw[q9];exact QC U (SH _ _)
    obtain⟨y0,J⟩:=Df.ix (l:=j) (i:=0) (Abo _) (by omega);have u:∀z∈j,0≤z:=by
     rw[q9];refine Ry p λz hz=>?_;rcases Ad5 hz with hz|rfl
     ·rw[(List.mem_replicate.1 hz).2];exact Abo 0
     ·exact aj
    have al:j.sum=c:=by rw[q9,Lj (by rw[U,SH]),UM h1,D]
    have ar:=JH u _ (Ab3 (Er J).2);have au:=u _ (Ab3 (Er J).2);obtain⟨z0,am⟩:=Df.ix (l:=List.replicate ((w.b.H.length:Int)).toNat (0:Int)) (i:=0) (Abo _) (by rw[Nk];omega);have a5:=US w.s.B W l 0;rw[Aaz af,Aar,C,Aap,Aap,ab,Aap,Aap,J,Aap,Aap,Aap,Aap,K2 (by omega) _ (by decide),am,Aap,Aap,GI (by rw[q3];simp;omega),D5 (n:=a+m) (by omega) (by omega),D5 (n:=c+m) (by omega) (by omega),D5 (n:=x0+m) (by omega) (by omega),D5 (n:=y0+m) (by omega) (by omega),XU q.len h1 m x0 ab,XU ah h1 m y0 J];have an:PX W (Hf x (v1 W m)):=q.add hv (by rw[ag];omega);have Q:Fs (upd o (k:Int) (Hf x (v1 W m)))=Fs o+m:=by
     rw[QS F,Lj (q.len.trans hv.len.symm),ag];omega
    have ao:List.replicate ((w.b.H.length:Int)).toNat (0:Int)=List.replicate W 0:=by rw[hW];rfl
    refine⟨(a+m,c+m,ms++[⟨w.s.B, -1,(k:Int), -4,upd (List.replicate ((w.b.H.length:Int)).toNat (0:Int)) 0 m⟩],upd o (k:Int) (Hf x (v1 W m)),Hf j (v1 W m)),⟨l++[m],⟨by simp [X],λn d=>?_,?_,Y.upd _ an,λi y n hy d=>?_,λi V=>?_,⟨?_,by show a+m≤_;omega⟩,?_,⟨?_,by show c+m≤_;omega⟩,?_⟩,qp.snoc X (by omega),by show _∨a+m=_∨c+m=_;rw[show (l++[m]).sum=l.sum+m by simp];omega⟩,rfl⟩
    ·rcases Abp.1 d with d|d
     ·exact q2 n d
     ·rw[Ab0.1 d];omega
    ·show ms++_=_
     rw[Se,Aav (by omega),q3,ao,Abt,X];rfl
    ·show(upd o (k:Int) _)[i]? =_
     by_cases aa:k=i
     ·subst aa;rw[Ad8 (by omega),X,Nat.sub_self] at d;cases d;rw[HS (by rw[Y.len];exact g),ak];rw[M] at hy;cases hy;rfl
     ·have t:i<l.length:=by
       have:=(Aa4.1 d).1;simp at this;omega
      rw[JL aa];rw[Ad7 t] at d;exact q5 i y n hy d
    ·show(upd o (k:Int) _)[i]? =_
     rw[JL (by omega)];exact q6 i (by omega)
    ·show a+m=Fs _+_
     rw[Q];omega
    ·show Hf j (v1 W m)=_
     rw[q9,Acm,SG];rw[nI h1];simp
    ·show c+m=_
     rw[Acm,D];simp;omega
    ·show Fs _=_
     rw[Q,Z,Acm];simp;omega
  simp only[DD];rw[FW g,Aaq];cases hr:decide ((k:Int)<(w.in_.T.length:Int))
  ·have hr:=Ad1 hr;have ac:w.in_.T.getD k 0=0:=by rw[Ab1,Abj (by omega)];rfl
   exact hj 0 (by omega) (by omega) (by simp only[WV,gk,ac];omega)
  ·have hr:=Acf hr;have a6:0≤c:=by omega
   rw[Aaq,BB (show k<w.in_.T.length by omega),Aap,D5 (n:=1125899906842624-a) (by omega) (by omega),D5 (n:=1152921504606846976-c) (by omega) (by omega)];have ac:w.in_.T.getD k 0=w.in_.T[k]:=by simp [Ab1,show k<w.in_.T.length by omega]
   exact hj _ (by omega) (by omega) (by simp only[WV,gk,ac];omega)) N 0 (s2,w.s.L.sum,w.moves,w.s.G,w.s.L) ⟨[],⟨rfl,λn d=>(by cases d),hm,K,λi x n _ d=>(by cases d),λi _=>rfl,⟨by show s2=_;rw[i2],by show s2≤_;omega⟩,by
    show w.s.L=Hf _ (v1 W 0)
    rw[XV,Tk U],⟨by show w.s.L.sum=_;simp,ad⟩,by simp⟩,(λi x C=>by cases C),.inl rfl⟩ (by omega) (Aaw _)
 exact⟨l,s,e,i3,i4⟩
structure zS (N:Nat) (b:AF) (s:AN) (in_:By) (o1:List (List Int)) (gs:List A0) (o2:List (List Int)) (inn:List Int) (ms:List AT) (z:List (List Int)×List AV×List A0×List Int) (ns:List Int):Prop where
 eg:G9 N (⟨b,in_,s,([]:List AT),(List.replicate ((b.A.length:Int)).toNat (0:Int)),([]:List AV)⟩:AK)=some gs
 ez:Fi N (⟨b,in_,(⟨s.B,o2,s.N,s.I,gs,inn,s.O⟩:AN),ms,(List.replicate ((b.A.length:Int)).toNat (0:Int)),([]:List AV)⟩:AK)=some z
 nl:ns.length=b.A.length
 n0:∀n∈ns,0≤n
 ms_:ms=ZZ s.B b.H.length 0 ns
 at3:∀(p:Nat) x n,o1[p]? =some x→ns[p]? =some n→z.1[p]? =some (Hf (Hf x (v1 b.H.length n)) (Uv b.H.length s.B s.I p))
 own:JY b.A.length b.H.length z.1
 rest:z.2.1=Ls s.B s.I
 pk:z.2.2.2=z.1.map List.sum
 gl:z.2.2.1.length=b.C.length
 inn_:inn=Hf s.L (v1 b.H.length ns.sum)
 tot:Fs z.1+HK (Ls s.B s.I)=Fs s.G+HK s.I+ns.sum
 tot2:Fs s.G+HK s.I+ns.sum≤1125899906842624
 pw:U7 in_.T ns
 max_:ns.sum=WV in_.T b.A.length∨Fs s.G+HK s.I+ns.sum=1125899906842624∨s.L.sum+ns.sum=1152921504606846976
 ins:s.L.sum+ns.sum≤1152921504606846976
def aP {N:Nat}(hN:18446744073709551616<N) {b:AF}(F:Ig b) (J:∀l∈b.C,KA b l) (ae:∀p∈b.A,Il b p) {s:AN}(d:zI b s) (hq:s.I.length≤4000000000000) {in_:By}(h1:in_.Ab.length≤1000) (h2:in_.Ac.length≤1000) (h3:in_.U.length≤1000) {t:List (List Int)}(h4:∀j:List A0,FY N (⟨b,in_,({ s with R:=j}:AN),([]:List AT),(List.replicate ((b.A.length:Int)).toNat (0:Int)),([]:List AV)⟩:AK)=some t) (K:JY b.A.length b.H.length t) (M:Fs t=Fs s.G):
  ∃j m g o z Q,IF N b s in_=E6 N b in_ s (m,g,o) z (E7 N s (m,g,o) z) N 0 z.1 s.N s.O o ([]:List AV)∧zS N b s in_ t j m g o z Q:=by
 have hP:=F.pl;have hL:=F.li;have hW:=F.own;have V:=F.own1;have i:8000000000000<N:=by omega
 unfold IF;rw[UD i (by have:=d.own.len;omega) (λx X=>by have:=(d.own.all x X).len;omega) (by have:=d.rem;omega) (by have:=d.gates;omega) (by have:=d.inn;omega) (by have:=d.out;omega),Aap,K2 (by omega) _ (by decide)];have Y:Yl b.C.length s.R (Aad s):=⟨d.gates,λk hk=>by
  have:k<s.R.length:=by rw[d.gates];exact hk
  simp [Aad,Ab1,this]⟩
 obtain⟨j,eg,hg⟩:=cA i (w:=(⟨b,in_,s,([]:List AT),(List.replicate ((b.A.length:Int)).toNat (0:Int)),([]:List AV)⟩:AK)) rfl (show b.C.length≤1000 by omega) h1 h2 Y;rw[eg,Aap];have Z:=h4 j;rw[Z,Aap];obtain⟨Q,⟨a,c,o,m,g⟩,ey,⟨q1,q2,q3,q4,q5,q6,⟨q7,q8⟩,q9,⟨aa,ab⟩,ac⟩,qp,qm⟩:=gY i (w:=(⟨b,in_,(⟨s.B,t,s.N,s.I,j,s.L,s.O⟩:AN),([]:List AT),(List.replicate ((b.A.length:Int)).toNat (0:Int)),([]:List AV)⟩:AK)) (W:=b.H.length) rfl V hW hP K hq d.que (by show Fs t+HK s.I≤_;rw[M];exact d.tot) d.inn d.inn0 d.inns rfl;simp only at q1 q2 q3 q4 q5 q6 q7 q8 q9 aa ab ac qm ey;rw[ey,Aap];obtain⟨z,ez,⟨u,v,q,y,ad⟩,D⟩:=sA i (w:=(⟨b,in_,(⟨s.B,m,s.N,s.I,j,g,s.O⟩:AN),o,(List.replicate ((b.A.length:Int)).toNat (0:Int)),([]:List AV)⟩:AK)) (W:=b.H.length) rfl hW hP hL J q4 hq d.que (by show Fs m+HK s.I≤_;omega) (Nk _ _) hg.1;simp only at u v q y ad D;rw[ez,Aap];exact⟨j,m,g,o,z,Q,rfl,⟨eg,ez,q1,q2,q3,λp x n X hn=>v p _ (q5 p x n X hn),u,q,y,D,q9,by rw[←q];omega,by omega,qp,by omega,by omega⟩⟩
def gO {N:Nat}(hN:18446744073709551616<N) {b:AF}(D:Ig b) (F:∀l∈b.C,KA b l) (j:∀p∈b.A,Il b p) {s:AN}(X:zI b s) (hq:s.I.length≤4000000000000) {in_:By}(h1:in_.Ab.length≤1000) (h2:in_.Ac.length≤1000) (h3:in_.U.length≤1000) {Y:List (List Int)}(h4:∀gs:List A0,FY N (⟨b,in_,({ s with R:=gs}:AN),([]:List AT),(List.replicate ((b.A.length:Int)).toNat (0:Int)),([]:List AV)⟩:AK)=some Y) (aa:JY b.A.length b.H.length Y) (ab:Fs Y=Fs s.G):
  ∃r d o3 l,IF N b s in_=some r∧YP N b s in_.U Y r d o3 l∧Fs o3+HK (Ls s.B s.I)=Fs s.G+HK s.I+d.sum∧U7 in_.T d∧(d.sum=WV in_.T b.A.length∨Fs s.G+HK s.I+d.sum=1125899906842624∨s.L.sum+d.sum=1152921504606846976)∧s.L.sum+d.sum≤1152921504606846976:=by
 have hP:=D.pl;have hL:=D.li;have hW:=D.own;have ad:=D.own1;have ae:8000000000000<N:=by omega
 obtain⟨gs,y,a,g,z,d,eS,h⟩:=aP hN D F j X hq h1 h2 h3 h4 aa ab;have q1:=h.nl;have q2:=h.n0;have q3:=h.ms_;have u:=h.own;have J:=h.rest;have K:=h.pk;have ac:=h.gl;have k1:=h.tot;have k2:=h.tot2;have af:=US s.B b.H.length d 0;obtain⟨⟨o,rm,out,c,Z⟩,⟨l,i1,q,v,M⟩,e⟩:=GO b.A.length (λn i (t:List (List Int)×List Int×List Int×List AT×List AV)=>E6 N b in_ s (y,a,g) z (E7 N s (y,a,g) z) n i t.1 t.2.1 t.2.2.1 t.2.2.2.1 t.2.2.2.2) (λt=>E7 N s (y,a,g) z t.1 t.2.1 t.2.2.1 t.2.2.2.1 t.2.2.2.2) (λk t=>∃l,t.2.1.length=b.A.length∧xK b s.B N b.H.length k z.1 s.O g t.1 t.2.2.1 t.2.2.2.1 t.2.2.2.2 l∧eZ b.H.length t.2.2.1 t.2.2.2.1 t.2.2.2.2 (64+k*(in_.U.length+b.C.length+2))∧xX N b s.B in_.U z.1 k t.1 l) (λn k t Q=>by
  simp only[E6];rw[Ft Q];rfl) (λn k t hi Q=>by
  obtain⟨o,rm,out,c,Z⟩:=t;obtain⟨l,i1,q,v,M⟩:=hi;simp only at i1 q v M;simp only[E6];have V:k*(in_.U.length+b.C.length+2)≤64*(1000+96+2):=Adp (by omega) (by omega);obtain⟨r,l',er,r1,r2,r3,r5,r4⟩:=cD hN (w:=(⟨b,in_,(⟨s.B,o,rm,z.2.1,z.2.2.1,a,out⟩:AN),c,z.2.2.2,Z⟩:AK)) (H:=s.B) (W:=b.H.length) rfl (by omega) (by show b.C.length≤_;omega) h3 F j ac (by show z.2.2.2.length=_;rw[K,Adv];exact u.len) i1 Q q.ox v (by omega);rw[FW Q,Aaq,er,Aap,A9 (by omega)];have hM:64+(k+1)*(in_.U.length+b.C.length+2)=64+k*(in_.U.length+b.C.length+2)+(in_.U.length+b.C.length+2):=by rw[Ack];omega
  exact⟨(_,_,_,_,_),⟨l++l',r1,q.next r2,by rw[hM];exact v.next r2 r3,M.next Q r2 r5 r4⟩,rfl⟩) N 0 (z.1,s.N,s.O,g,[]) ⟨[],X.rem,⟨λm hm=>(by cases hm),.nil,by simp,rfl,rfl,rfl,trivial,u,X.out,by simp [LU]⟩,⟨X.out,by show g.length≤_;rw[q3];omega,by simp⟩,⟨λp hp=>(by omega),λp _=>⟨rfl,rfl⟩,λp _ hp=>(by omega)⟩⟩ (by omega) (Aaw _)
 rw[eS,show E6 N b in_ s (y,a,g) z (E7 N s (y,a,g) z) N 0 z.1 s.N s.O g ([]:List AV)=E7 N s (y,a,g) z o rm out c Z from e];simp only at q v;have V:b.A.length*(in_.U.length+b.C.length+2)≤64*(1000+96+2):=Adp hP (by omega);have ag:=v.sn;have ah:=v.mv;have ai:z.2.1.length≤s.I.length:=by rw[J];exact List.length_filter_le _ _
 unfold E7;rw[GI (by omega)];refine⟨_,d,z.1,l,rfl,⟨q1,by show c.length≤_;omega,by show c.length≤_;omega,q2,h.at3,u,by omega,K,?_,?_,rfl,h.inn_,M.tk,λp hp x hx=>M.cap p hp hp x hx⟩,h.tot,h.pw,h.max_,h.ins⟩
 ·rw[←q.sn_,←q3];exact q
 ·show z.2.1++Z=_
  rw[J,q.sn_]
def RC.at_:∀{l:List AT}{o:List (List Int)},RC l o→∀(j:Nat) (b:j<l.length),∃x,(Rs o (l.take j))[(l[j]).M.toNat]? =some x∧WW (l[j]).W x
 |m::l,o,b,0,_=>b.1
 |m::l,o,b,j+1,a=>RC.at_ (l:=l) b.2 j (by simpa using a)
def Pw (o:Nat) (a:List AT):Int:=(a.map λm=>m.W.getD o 0).sum
def Yp {W o:Nat}{x y:List Int}(c:x.length=W) (d:y.length=W) (g:o<W):(Ja x y).getD o 0=x.getD o 0-y.getD o 0:=by
 have a:o<x.length:=by omega
 have b:o<y.length:=by omega
 unfold Ja;simp [Ab1,Ac0,a,b]
def Yr {W o:Nat}{x y:List Int}(c:x.length=W) (d:y.length=W) (g:o<W):(Hf x y).getD o 0=x.getD o 0+y.getD o 0:=by
 have a:o<x.length:=by omega
 have b:o<y.length:=by omega
 unfold Hf;simp [Ab1,Ac0,a,b]
def WE (o:Nat) (w:List (List Int)):Int:=(w.map λx=>x.getD o 0).sum
def Th (o:Nat) (q:List AV):Int:=(q.map λl=>l.W.getD o 0).sum
def dO (o:Nat) (a b:List AV):Th o (a++b)=Th o a+Th o b:=by unfold Th;rw[Ach,Acm]
def dP {o:Nat}{w:List (List Int)}{k:Nat}{x y:List Int}(a:w[k]? =some x):WE o (upd w (k:Int) y)=WE o w-x.getD o 0+y.getD o 0:=by
 have b:=(Aa4.1 a).1;have c:=(Aa4.1 a).2;unfold WE upd;rw[Abx,List.map_set,Nh (by simpa using b),List.getElem_map,c]
def PX.bd {W:Nat}{p:List Int}(b:PX W p):∀x∈p, -2305843009213693952≤x∧x≤2305843009213693952:=λx a=>by
 have:=b.mem a;omega
def Y9 (m:AT):Bool:=decide (m.E<0)
def SZ (b:AF) (H:Int) (o:Nat):∀(l:List AT),Th o (l.filterMap (MF b H))+Pw o (l.filter Y9)=Pw o l∧HK (l.filterMap (MF b H))+LU (l.filter Y9)=LU l
 |[]=>⟨rfl,rfl⟩
 |m::l=>by
  obtain⟨i,j⟩:=SZ b H o l;have g:∀l,Pw o (m::l)=m.W.getD o 0+Pw o l:=λl=>by unfold Pw;rw[Abg,Ab4]
  have a:∀l,LU (m::l)=m.W.sum+LU l:=λl=>by unfold LU;rw[Abg,Ab4]
  by_cases k:m.E<0
  ·rw[List.filterMap_cons_none (by unfold MF;rw[Aav k]),List.filter_cons_of_pos (by unfold Y9;simpa using k),g,g,a,a];omega
  ·rw[List.filterMap_cons_some (b:=(⟨BO (BO (H+1)+Px b m.M.toNat m.Be),m.E,m.W⟩:AV)) (by unfold MF;rw[Aas k]),List.filter_cons_of_neg (by unfold Y9;simpa using k),g,a];have c:∀(x:AV) l,Th o (x::l)=x.W.getD o 0+Th o l:=λx l=>by unfold Th;rw[Abg,Ab4]
   have d:∀(x:AV) l,HK (x::l)=x.W.sum+HK l:=λx l=>by unfold HK;rw[Abg,Ab4]
   rw[c,d];simp only;omega
def Xq {W:Nat}{l:List AT}(b:∀m∈l,PX W m.W):0≤LU l:=by
 unfold LU;exact R4 (f:=λm:AT=>m.W.sum) λm a=>(b m a).sum0
def Wq {N W:Nat}(d:8000000000000<N) (j:W≤1000):∀{l:List AT}{out:List Int},(∀m∈l,PX W m.W)→out.length=W→(∀x∈out,0≤x)→out.sum+LU l≤2305843009213693952→(Tb N out l).length=W∧(∀x∈Tb N out l,0≤x)∧(Tb N out l).sum=out.sum+LU (l.filter Y9)∧∀o,o<W→(Tb N out l).getD o 0=out.getD o 0+Pw o (l.filter Y9)
 |[],out,_,b,h0,_=>⟨b,h0,by show out.sum=out.sum+0;omega,λo _=>by show out.getD o 0=out.getD o 0+0;omega⟩
 |m::l,out,c,b,h0,q=>by
  have a:=c m (.head _);have s:=Xq (l:=l) λm a=>c m (.tail _ a);have k:∀l,LU (m::l)=m.W.sum+LU l:=λl=>by unfold LU;rw[Abg,Ab4]
  have g:∀o l,Pw o (m::l)=m.W.getD o 0+Pw o l:=λo l=>by unfold Pw;rw[Abg,Ab4]
  rw[k] at q;have t:=a.sum0;rw[show Tb N out (m::l)=Tb N (if m.E<0 then (HY N out m.W).getD [] else out) l from rfl];by_cases z:m.E<0
  ·rw[Aav z,Xn d (by omega) (by rw[a.len,b]) (λx n=>by have:=JH h0 x n;have:=h0 x n;omega) a.bd,Acc,List.filter_cons_of_pos (by unfold Y9;simpa using z)];have i:(Hf out m.W).sum=out.sum+m.W.sum:=Lj (b.trans a.len.symm);obtain⟨u,v,w,y⟩:=Wq d j (l:=l) (out:=Hf out m.W) (λm a=>c m (.tail _ a)) (QC b a.len) (Ry h0 a.nn) (by omega);exact⟨u,v,by rw[w,i,k];omega,λo p=>by rw[y o p,Yr b a.len p,g];omega⟩
  ·rw[Aas z,List.filter_cons_of_neg (by unfold Y9;simpa using z)];exact Wq d j (l:=l) (λm a=>c m (.tail _ a)) b h0 (by omega)
def Vq {b:AF}{H:Int}{W o:Nat}(a:o<W):∀{l:List AT}{w:List (List Int)},JY b.A.length W w→RC l w→(∀m∈l,∃p,p<b.A.length∧yA b H W p m)→WE o (Rs w l)+Pw o l=WE o w
 |[],w,_,_,_=>by show WE o w+0=_;omega
 |m::l,w,t,y,u=>by
  obtain⟨⟨x,k,n⟩,c⟩:=y;obtain⟨p,B,q⟩:=u m (.head _);have d:=t.all x (Ab3 k);have i:=n.sub d;have j:w.getD m.M.toNat []=x:=by rw[Ab1,k];rfl
  have g:∀o l,Pw o (m::l)=m.W.getD o 0+Pw o l:=λo l=>by unfold Pw;rw[Abg,Ab4]
  have v:upd w m.M (Ja x m.W)=upd w ((m.M.toNat:Nat):Int) (Ja x m.W):=by rw[q.fr,Abx]
  rw[j] at c;have z:=Vq a (l:=l) (w:=upd w m.M (Ja x m.W)) (t.upd _ i.1) c λm s=>u m (.tail _ s);rw[show Rs w (m::l)=Rs (upd w m.M (Ja (w.getD m.M.toNat []) m.W)) l from rfl,j,g];rw[v,dP k,Yp d.len i.2.2.len a] at z;rw[v];omega
def uY (N:Nat) (l:A8):Prop:=(0≤l.V∧l.V≤64)∧0≤l.Ag∧l.Ag≤l.V
def tM.pos {N:Nat}{b:AF}{l:A8}(c:tM N b l):uY N l:=by
 by_cases h0:l.F=0
 ·have:=c.gate h0;exact⟨this.2.2.1,this.2.2.2.1⟩
 ·by_cases a:l.F=2
  ·have:=c.pump a;exact⟨⟨by omega,this.2.1.2⟩,this.2.2⟩
  ·have:=c.none_ h0 a;exact⟨by omega,by omega⟩
structure AfX (b:AF) (s:AN) (ts:List E4) (r:AN×List AT×List Int) (o3:List (List Int)) (l:List AT):Prop where
 own:JY b.A.length b.H.length r.1.G
 que:QX b.A.length b.H.length r.1.I
 tot:Fs r.1.G+HK r.1.I+LU (l.filter Y9)=Fs o3+HK (Ls s.B s.I)
 ol:r.1.O.length=b.H.length
 o0:∀x∈r.1.O,0≤x
 os:r.1.O.sum=s.O.sum+LU (l.filter Y9)
 oc:∀o,o<b.H.length→r.1.O.getD o 0=s.O.getD o 0+Pw o (l.filter Y9)
 col:∀o,o<b.H.length→WE o r.1.G+Th o r.1.I+Pw o (l.filter Y9)=WE o o3+Th o (Ls s.B s.I)
 ql:r.1.I.length≤s.I.length+(64+b.A.length*(ts.length+b.C.length+2))
 l0:0≤LU (l.filter Y9)
def YN {N:Nat}(X:18446744073709551616<N) {b:AF}(F:Ig b) {s:AN}(c:Aah b s) {u:List E4}{G:List (List Int)}{r:AN×List AT×List Int}{J:List Int}{v:List (List Int)}{l:List AT}(h:YP N b s u G r J v l):AfX b s u r v l:=by
 have Y:=F.own;have g:∀m∈l,PX b.H.length m.W:=λm i=>by obtain⟨p,_,j⟩:=h.lv.mv m i;exact j.px
 have a:QX b.A.length b.H.length (Ls s.B s.I):=λl K=>c.x.que l (Ab8.1 K).1;have d:QX b.A.length b.H.length (l.filterMap (MF b s.B)):=λx k=>by
  obtain⟨m,i,e⟩:=Ady.1 k;obtain⟨p,_,j⟩:=h.lv.mv m i;unfold MF at e;split at e
  ·cases e
  ·cases e;have:=j.to;exact⟨j.px,by show 0≤m.E;omega,by show m.E<_;omega⟩
 have n:=(H9 a 0).2;rw[Acl,show HK ([]:List AV)=0 from rfl] at n;have q:=(H9 c.x.que 0).2;rw[Acl,show HK ([]:List AV)=0 from rfl] at q;have M:=c.x.own.sum0;have Q:=h.lv.ox.sum0;have Z:=h.lv.tot;have h3:=h.os3;have h4:=c.outs;have h5:=c.x.inns;obtain⟨w,y,z,C⟩:=Wq (N:=N) (by omega) (by omega) g c.x.out c.out0 (by omega);rw[←h.lv.out_] at w y z C;have t:=h.ml2;rw[h.lv.ms_,Abi] at t;refine⟨h.lv.ox,?_,?_,w,y,z,C,λo U=>?_,?_,Xq λm i=>g m (Ab8.1 i).1⟩
 ·rw[h.que];exact λx k=>(Abp.1 k).elim (a x) (d x)
 ·have:=(SZ b s.B 0 l).2;rw[h.que,Vo];omega
 ·have V:=(SZ b s.B o l).1;have D:=Vq U h.ox3 h.lv.val h.lv.mv;rw[←h.lv.own] at D;rw[h.que,dO];omega
 ·rw[h.que,Abi];have V:(Ls s.B s.I).length≤s.I.length:=List.length_filter_le _ _;have D:=List.length_filterMap_le (MF b s.B) l;omega
def Q9 {N:Nat}(D:18446744073709551616<N) {b:AF}(Z:Gg N b=some true):Jw b∧TK b∧HI N b=some true∧Ew N b=some true:=by
 obtain⟨v,e,k⟩:=Vi D b;rw[Z] at e;cases e;have k:=k rfl;unfold Gg at Z;obtain⟨Y,_,Z⟩:=bd Z;obtain⟨H,I,Z⟩:=bd Z;obtain⟨J,i,Z⟩:=bd Z;obtain⟨K,j,Z⟩:=bd Z;obtain⟨M,m,Z⟩:=bd Z;obtain⟨Q,n,Z⟩:=bd Z;obtain⟨U,o,Z⟩:=bd Z;obtain⟨V,p,Z⟩:=bd Z;obtain⟨W,q,Z⟩:=bd Z;have a:∀{c:Bool} {x:Option Bool} {d:Bool},cond c (x.bind λy=>some y) (some false)=some d→d=true→c=true∧x=some true:=by
  intro c x d s hd;subst hd;cases c
  ·cases s
  ·cases x with
   |none=>cases s
   |some y=>exact⟨rfl,s⟩
 have t:=Aat Z;have u:=a q t;have w:=a p u.1;have z:=a o w.1;have A:=a n z.1;have B:=a m A.1;have g:=a j B.1;refine⟨k,λl X=>?_,(a i g.1).2,g.2⟩;have C:=ZF D k.head k.links g.2 l X;by_cases h0:l.F=0
 ·have:=C.gate h0;exact⟨this.2.2.1,this.2.2.2.1⟩
 ·by_cases G:l.F=2
  ·have:=C.pump G;exact⟨⟨by omega,this.2.1.2⟩,this.2.2⟩
  ·have:=C.none_ h0 G;exact⟨by omega,by omega⟩
def iX {b:AF}(c:Jw b) {p:Nat}(d:p<b.A.length) (a:Int):0≤Px b p a∧Px b p a≤240:=by
 unfold Px;split
 ·rename_i g;rw[So (show a.toNat<b.C.length by omega)];exact(c.links _ (Aa9 _)).delay
 ·split
  ·exact⟨by decide,by decide⟩
  ·have e:b.A.getD p default=b.A[p]:=by simp [Ab1,d]
   rw[e];exact(c.places _ (Aa9 _)).delay
def Wh {N:Nat}(C:18446744073709551616<N) {b:AF}(i:Jw b) (J:TK b) {s:AN}(c:Zd b s) (hH:s.B<16777216) {in_:By}{K:List E4}{Q:List (List Int)}{r:AN×List AT×List Int}(U:IF N b s in_=some r) {u:List Int}{D:List (List Int)}{l:List AT}(h:YP N b s K Q r u D l) (k1:Fs D+HK (Ls s.B s.I)=Fs s.G+HK s.I+u.sum) (k4:s.L.sum+u.sum≤1152921504606846976):Zd b r.1∧r.1.B=s.B+1:=by
 have j:=i.head.own1;have a:=YN C i.head c.rg h;obtain⟨F,v⟩:=gN C i.head i.places J c U;have z:=KN h.n0;have hh:=c.rg.hour;have o:r.1.B=s.B+1:=by rw[h.hour,D5 (by omega) (by omega)]
 have V:r.1.L.sum=s.L.sum+u.sum:=by rw[h.inn,Lj (by rw[c.rg.x.inn,SH]),UM j]
 have W:=a.tot;have h3:=h.os3;have X:=a.l0;have Y:=a.os;have Z:=c.rg.outs;have aa:=KN c.rg.x.inn0;refine⟨⟨⟨⟨a.own,a.que,by omega,F.1,v.1,by rw[h.inn];exact QC c.rg.x.inn (SH _ _),?_,by omega,a.ol⟩,by omega,λk l g w y=>⟨(v.2 k l g w y).pos,(v.2 k l g w y).tgt⟩,λq d=>?_,a.o0,by omega⟩,F.2,λk l g w y=>(v.2 k l g w y).opn⟩,o⟩
 ·rw[h.inn];refine Ry c.rg.x.inn0 (kY j z ?_).nn;have ab:=c.rg.x.own.sum0;have A:=(H9 c.rg.x.que 0).2;rw[Acl,show HK ([]:List AV)=0 from rfl] at A;omega
 ·rw[o];rw[h.que] at d;rcases Abp.1 d with d|d
  ·obtain⟨q1,H⟩:=Ab8.1 d;have H:=Acf H;exact⟨by omega,(c.rg.at_ q q1).2⟩
  ·obtain⟨m,hm,e⟩:=Ady.1 d;obtain⟨p,hp,t⟩:=h.lv.mv m hm;unfold MF at e;split at e
   ·cases e
   ·cases e;have hd:=iX i hp m.Be;have hf:=t.fr;rw[show p=m.M.toNat by omega] at hd;refine⟨?_,t.pos⟩;show s.B+1≤BO (BO (s.B+1)+Px b m.M.toNat m.Be)
    rw[D5 (n:=s.B+1) (by omega) (by omega),D5 (by omega) (by omega)];omega
structure ZU (i:By):Prop where
 rain:i.T.length≤20
 faults:i.Ab.length≤20
 cmds:i.Ac.length≤20
 takes:i.U.length≤20
 swaps:i.Ae.length≤20
structure fT (b:AF):Prop where
 r:Jw b
 pos:TK b
 p6:b.A.length≤6
 l6:b.C.length≤6
structure xJ (N:Nat) (b:AF) (s:AN) (i:By) (y:AN×List AT×List Int):Prop where
 er:IF N b s i=some y
 rg0:Zd b s
 rg:Zd b y.1
 hour:y.1.B=s.B+1
 h0:s.B<16777216
 ml:y.2.1.length≤232
 ql:y.1.I.length≤s.I.length+232
 pl:y.2.2.length=b.A.length
 ex:∃o1 ns o3 l,(∀gs:List A0,FY N (⟨b,i,({ s with R:=gs}:AN),([]:List AT),(List.replicate ((b.A.length:Int)).toNat (0:Int)),([]:List AV)⟩:AK)=some o1)∧JY b.A.length b.H.length o1∧o1.map List.sum=s.G.map List.sum∧YP N b s i.U o1 y ns o3 l∧Fs o3+HK (Ls s.B s.I)=Fs s.G+HK s.I+ns.sum∧s.L.sum+ns.sum≤1152921504606846976
def bT {N:Nat}(g:18446744073709551616<N) {b:AF}(c:fT b) {s:AN}(d:Zd b s) (q:s.B<16777216) (V:s.I.length≤4000000000000) {i:By}(t:ZU i):∃y,xJ N b s i y:=by
 obtain⟨X,Y,Z,h4,h5⟩:=t;have j:=c.p6;have u:=c.l6;have v:=c.r.head.own;obtain⟨w,k,m,z,D⟩:=aN (N:=N) (by omega) (b:=b) (s:=s) (in_:=i) (W:=b.H.length) (by omega) (by omega) d.rg.x.own;obtain⟨r,F,G,l,n,h,o,_,_,p⟩:=gO g c.r.head c.r.links c.r.places d.rg.x (by omega) (in_:=i) (by omega) (by omega) (by omega) k m z;obtain⟨J,K⟩:=Wh g c.r c.pos d (by omega) n h o p;have a:=YN g c.r.head d.rg h;have hm:b.A.length*(i.U.length+b.C.length+2)≤6*28:=Adp j (by omega);have M:=a.ql;have Q:=h.ml2;exact⟨r,n,d,J,K,q,by omega,by omega,by rw[h.pk,Adv,h.ox3.len],w,F,G,l,k,m,D,h,o,p⟩
inductive ZW (N:Nat) (b:AF):AN→List By→List AN→List AT→List (List Int)→AN→Prop
 |nil (s:AN):ZW N b s [] [] [] [] s
 |cons {s:AN} {i:By} {y:AN×List AT×List Int} {l:List By} {ss:List AN} {ms:List AT} {ps:List (List Int)} {t:AN}:xJ N b s i y→ZW N b y.1 l ss ms ps t→ZW N b s (i::l) (y.1::ss) (y.2.1++ms) (y.2.2::ps) t
def ZW.app {N:Nat}{b:AF}{s t u:AN}{l i:List By}{j a:List AN}{m d:List AT}{n g:List (List Int)}(q:ZW N b s l j m n t) (k:ZW N b t i a d g u):ZW N b s (l++i) (j++a) (m++d) (n++g) u:=by
 induction q with
 |nil s=>exact k
 |cons o c p=>rw[Abz];exact .cons o (p k)
def ZW.len {N:Nat}{b:AF}{s t:AN}{l:List By}{a:List AN}{d:List AT}{g:List (List Int)}(k:ZW N b s l a d g t):a.length=l.length∧g.length=l.length∧d.length≤232*l.length:=by
 induction k with
 |nil s=>exact⟨rfl,rfl,Aaw _⟩
 |cons o c i=>
  have j:=o.ml;simp only[Ac3,Abi];omega
def zX {N:Nat}{b:AF}{s t:AN}{l:List By}{a:List AN}{g:List AT}{i:List (List Int)}(w:ZW N b s l a g i t):∀(k:Nat) u,a[k]? =some u→Zd b u∧u.B=s.B+k+1∧u.I.length≤s.I.length+232*l.length:=by
 induction w with
 |nil s=>intro k u w;cases w
 |cons o c j=>
  intro k u d;have n:=o.hour;have p:=o.ql;rw[Ac3];cases k with
  |zero=>cases d;exact⟨o.rg,by omega,by omega⟩
  |succ k=>obtain⟨m,q,v⟩:=j k u d;exact⟨m,by omega,by omega⟩
def ZW.pk {N:Nat}{b:AF}{s t:AN}{l:List By}{g:List AN}{i:List AT}{d:List (List Int)}(k:ZW N b s l g i d t):∀p∈d,p.length=b.A.length:=by
 induction k with
 |nil s=>intro p a;cases a
 |cons o c j=>
  intro p a;rcases Aay.1 a with rfl|a
  ·exact o.pl
  ·exact j p a
end Go.Proofs.YtabonambpbofgaaGreat
