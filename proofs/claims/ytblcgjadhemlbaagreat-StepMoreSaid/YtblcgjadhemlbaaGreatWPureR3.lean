import Derived.Test.YtblcgjadhemlbaaGreatWPureC2
import Derived.Test.YtblcgjadhemlbaaGreatWPureCurve
import Derived.Test.YtblcgjadhemlbaaGreatWPureEy
import Derived.Test.YtblcgjadhemlbaaGreatWPureT1
import Derived.Test.YtblcgjadhemlbaaGreatWPureSlope
namespace Go.Proofs.YtblcgjadhemlbaaGreat
set_option linter.all false
open Go.RowKit
def ZX (o:Nat) (w:List (List Int)):Int:=(w.map λx=>x.getD o 0).sum
def ZW (o:Nat) (q:List BD):Int:=(q.map λl=>l.Ag.getD o 0).sum
def XZ {o:Nat}{w:List (List Int)}{k:Nat}(a:k<w.length):ZX o (w.take (k+1))=ZX o (w.take k)+(w[k]).getD o 0:=LS (f:=λx:List Int=>x.getD o 0) a
def XY {o:Nat}{q:List BD}{k:Nat}(a:k<q.length):ZW o (q.take (k+1))=ZW o (q.take k)+(q[k]).Ag.getD o 0:=LS (f:=λl:BD=>l.Ag.getD o 0) a
def Vs {N W:Nat}(w:1000000<N) (y:W≤1000) {p q:List Int}(z:p.length=W) (A:q.length=W) (u:∀x∈p, -2305843009213693952≤x∧x≤2305843009213693952) (v:∀x∈q, -2305843009213693952≤x∧x≤2305843009213693952):Ij N p q=some (Fw p q):=by
 unfold Ij
 have o:min (p.length:Int) (q.length:Int)=(q.length:Int):=by omega
 obtain⟨s,⟨t,j,l⟩,e⟩:=Ee q.length (λn i s=>Fp N q p n i s) (λs=>some s) (λk s=>s.length=p.length∧(∀i,k≤i→s[i]? =p[i]?)∧∀i,i<k→s[i]? =(Fw p q)[i]?) (λn k s c=>by
  simp only[Fp];rw[o,E4 c];rfl) (λn k s g c=>by
  obtain⟨t,j,l⟩:=g
  simp only[Fp]
  have a:k<s.length:=by omega
  have b:k<p.length:=by omega
  have m:s[k]=p[k]:=by
   have:=j k (qX _)
   rw[rC a,rC b] at this
   exact qS this
  have B:=u _ (rH b)
  have C:=v _ (rH c)
  rw[o,En c,qO,BR a,qN,qN,BR c,qN,m,PU N (by omega) (by omega) (by omega) (by omega),qN,qN,qN,BT (by omega)]
  refine⟨_,⟨by rw[LH];exact t,λi g=>by rw[Hb (by omega)];exact j i (by omega),λi g=>?_⟩,rfl⟩
  by_cases d:k=i
  ·subst d
   rw[F5 a,Fw,tT,rC b,rC c]
  ·rw[Hb d];exact l i (by omega)) N 0 p ⟨rfl,λi _=>rfl,λi g=>by omega⟩ (by omega) (qW _)
 have:s=Fw p q:=sK λi=>by
  rcases rL i q.length with D|D
  ·exact l i D
  ·rw[rU (by omega),rU (by simp [Fw];omega)]
 subst this
 exact e
def PX.bd {W:Nat}{p:List Int}(b:PX W p):∀x∈p, -2305843009213693952≤x∧x≤2305843009213693952:=λx a=>by
 have:=b.mem a
 omega
def Z3 {N W P:Nat}(x:1000000<N) (y:W≤1000) {s:A7}(b:Ir P W s.F) (J:P≤1000) (K:s.M.length≤900000) (j:QX P W s.M) (p:s.S.length=W) (Q:E8 s.F+HG s.M≤1125899906842624):∃v,Jd N s=some v∧PX W v∧v.sum=E8 s.F+HG s.M∧∀o,o<W→v.getD o 0=ZX o s.F+ZW o s.M:=by
 have B:=b.len
 have C:=b.sum0
 have q:=(Hm j 0).2
 rw[tE,show HG ([]:List BD)=0 from rfl] at q
 have D:List.replicate ((s.S.length:Int)).toNat (0:Int)=List.replicate W 0:=by rw[p];rfl
 have t:∀o,o<W→(List.replicate W (0:Int)).getD o 0=0:=λo b=>by rw[rR,tU,qR b];rfl
 unfold Jd
 rw[Jj (by omega) _ (by decide),D]
 obtain⟨a,⟨d,l,m⟩,G⟩:=Ee s.F.length (λn i a=>GE N s (GF N s) n i a) (GF N s) (λk a=>PX W a∧a.sum=E8 (s.F.take k)∧∀o,o<W→a.getD o 0=ZX o (s.F.take k)) (λn k a c=>by
  simp only[GE];rw[E4 c];rfl) (λn k a u c=>by
  obtain⟨d,l,m⟩:=u
  have g:=b.all _ (rH c)
  have w:=LM b (k+1)
  rw[LR c] at w ⊢
  simp only[GE]
  rw[En c,qO,BR c,qN,Vs x y d.len g.len d.bd g.bd,qN,BT (by omega)]
  refine⟨_,⟨d.add g (by omega),by rw[I1 (d.len.trans g.len.symm),l],λo b=>?_⟩,rfl⟩
  rw[Rl d.len g.len b,XZ c,m o b]) N 0 (List.replicate W 0) ⟨PX.zero W,by simp [E8],λo b=>by rw[t o b];rfl⟩ (by omega) (qW _)
 rw[show GE N s (GF N s) N 0 (List.replicate W 0)=GF N s a from G]
 rw[rY] at l m
 unfold GF
 obtain⟨v,⟨H,z,A⟩,I⟩:=Ee s.M.length (λn i a=>Gq N s (II N) n i a) (II N) (λk a=>PX W a∧a.sum=E8 s.F+HG (s.M.take k)∧∀o,o<W→a.getD o 0=ZX o s.F+ZW o (s.M.take k)) (λn k a c=>by
  simp only[Gq];rw[E4 c];rfl) (λn k a u c=>by
  obtain⟨d,l,m⟩:=u
  have g:=(j _ (rH c)).1
  have w:=Hm j (k+1)
  rw[Kd c] at w ⊢
  simp only[Gq]
  rw[En c,qO,BR c,qN,Vs x y d.len g.len d.bd g.bd,qN,BT (by omega)]
  refine⟨_,⟨d.add g (by omega),by rw[I1 (d.len.trans g.len.symm),l];omega,λo b=>?_⟩,rfl⟩
  rw[Rl d.len g.len b,XY c,m o b];omega) N 0 a ⟨d,by rw[l];simp [HG],λo b=>by rw[m o b];simp [ZW]⟩ (by omega) (qW _)
 rw[rY] at z A
 exact⟨v,I,H,z,A⟩
end Go.Proofs.YtblcgjadhemlbaaGreat
namespace Go.Proofs.YtblcgjadhemlbaaGreat
set_option linter.all false
open Go.RowKit
def sm (f:Nat→Int):Nat→Int
 |0=>0
 |n+1=>sm f n+f n
end Go.Proofs.YtblcgjadhemlbaaGreat
namespace Go.Proofs.YtblcgjadhemlbaaGreat
set_option linter.all false
open Go.RowKit
def UP (R:List Int) {n:Nat}(a:R.length≤n):∀d,Nn R (n+d)=Nn R n
 |0=>rfl
 |d+1=>by
  show Nn R (n+d)+gk R (n+d)=_
  have:R.getD (n+d) 0=0:=by rw[rR,rU (by omega)];rfl
  rw[UP R a d]
  unfold gk
  rw[this]
  omega
def VR (R:List Int):∀n:Nat,0≤Nn R n∧Nn R n≤(n:Int)*1125899906842624
 |0=>⟨rN _,rN _⟩
 |n+1=>by
  have:=VR R n
  simp only[Nn,gk]
  omega
end Go.Proofs.YtblcgjadhemlbaaGreat
namespace Go.Proofs.YtblcgjadhemlbaaGreat
set_option linter.all false
open Go.RowKit
end Go.Proofs.YtblcgjadhemlbaaGreat
namespace Go.Proofs.YtblcgjadhemlbaaGreat
set_option linter.all false
open Go.RowKit
structure oL (b:AU) (s:A7):Prop where
 rg:RgX b s
 rem:∀(k:Nat) p m,b.A[k]? =some p→s.O[k]? =some m→0≤m∧m≤max 0 (p.I-1)
 opn:∀(k:Nat) l g,b.E[k]? =some l→s.P[k]? =some g→g.Ao=true→l.B=5∨l.B=3
def Rq {N:Nat}(H:1000000<N) {b:AU}(K:IB b) (w:∀p∈b.A,HZ b p) (s:A7) (hq:s.M.length≤1000):∃v,IQ N b s=some v∧(v=true→oL b s):=by
 have hP:=K.pl
 have hL:=K.li
 have hW:=K.own
 unfold IQ
 generalize hB:(_||decide ((s.U.length:Int)≠(b.J.length:Int)))=B
 cases B
 ·simp only[rS,rO,ne_eq,Decidable.not_not] at hB
  obtain⟨⟨⟨⟨⟨⟨b1,b2⟩,b3⟩,b4⟩,b5⟩,b6⟩,b7⟩:=hB
  rw[qQ]
  rcases LN b.A.length (λn i (_:Unit)=>GH N b s (GJ N b s) n i) (λ_=>GJ N b s) (some false) (λi _=>∀(k:Nat) p m,k<i→b.A[k]? =some p→s.O[k]? =some m→0≤m∧m≤max 0 (p.I-1)) (λn k t c=>by
   simp only[GH];rw[E4 c];rfl) (λn k t Q c=>by
   simp only[GH]
   have y:k<s.O.length:=by omega
   have hd:=(w _ (rH c)).den
   unfold Hu at hd
   rw[En c,qO,BR c,BR y,BT (by omega)]
   simp only[qN,GC,Ke]
   rw[Cx (n:=(b.A[k]).I-1) (by omega) (by omega)]
   cases G:(decide (s.O[k]<0)||decide (max 0 ((b.A[k]).I-1)<s.O[k]))
   ·simp only[rS,rO] at G
    refine .inr ⟨(),λj p m hj q z=>?_,rfl⟩
    by_cases d:j=k
    ·subst d
     rw[rC c] at q
     rw[rC y] at z
     cases q;cases z
     omega
    ·exact Q j p m (by omega) q z
   ·exact .inl rfl) N 0 () (λk p m h=>by omega) (by omega) (qW _) with e|⟨_,i1,e⟩
  ·exact⟨_,e,λh=>by cases h⟩
  ·rw[show GH N b s (GJ N b s) N 0=GJ N b s from e]
   unfold GJ
   rcases LN b.E.length (λn i (_:Unit)=>GG N b s (GI N b s) n i) (λ_=>GI N b s) (some false) (λi _=>∀(k:Nat) l g,k<i→b.E[k]? =some l→s.P[k]? =some g→((0≤g.W∧g.W≤l.R)∧(0≤g.Z∧g.Z≤l.R))∧(g.Ao=true→l.B=5∨l.B=3)) (λn k t c=>by
    simp only[GG];rw[E4 c];rfl) (λn i t Q c=>by
    simp only[GG]
    have y:i<s.P.length:=by omega
    rw[En c,qO,BR c,BR y,BT (by omega)]
    simp only[qN]
    cases G:(((decide ((s.P[i]).W<0)||decide ((b.E[i]).R<(s.P[i]).W))||decide ((s.P[i]).Z<0))||decide ((b.E[i]).R<(s.P[i]).Z))
    ·simp only[rS,rO] at G
     obtain⟨⟨⟨c1,c2⟩,c3⟩,c4⟩:=G
     rw[qQ]
     cases V:(((s.P[i]).Ao&&decide ((b.E[i]).B≠5))&&decide ((b.E[i]).B≠3))
     ·refine .inr ⟨(),λk l g ae a o=>?_,rfl⟩
      by_cases d:k=i
      ·subst d
       rw[rC c] at a
       rw[rC y] at o
       cases a;cases o
       refine⟨⟨⟨by omega,by omega⟩,by omega,by omega⟩,λX=>?_⟩
       rw[X,Bool.true_and,Bool.and_eq_false_iff] at V
       simp only[rO,ne_eq,Decidable.not_not] at V
       exact V
      ·exact Q k l g (by omega) a o
     ·exact .inl rfl
    ·exact .inl rfl) N 0 () (λk l g h=>by omega) (by omega) (qW _) with e|⟨_,i2,e⟩
   ·exact⟨_,e,λh=>by cases h⟩
   ·rw[show GG N b s (GI N b s) N 0=GI N b s from e]
    unfold GI
    obtain⟨r,er,Y⟩:=XK H b s (by omega) hq
    rw[er,qN]
    cases aa:r.2
    ·exact⟨_,rfl,λh=>by cases h⟩
    ·obtain⟨Y,k2,k3,k4⟩:=Y aa
     have C:Ir b.A.length b.J.length s.F:=⟨by omega,Y⟩
     have D:QX b.A.length b.J.length s.M:=λl a=>(k2 l a).1
     have af:=C.sum0
     have ab:=(Hm D 0).2
     rw[tE,show HG ([]:List BD)=0 from rfl] at ab
     obtain⟨u,hu,ku⟩:=Ts H (l:=s.S) (by omega) (m:=1152921504606846976) (by decide)
     rw[sH,qQ,hu,qN]
     cases ac:u.2
     ·exact⟨_,rfl,λh=>by cases h⟩
     ·obtain⟨u1,u2,u3⟩:=ku ac
      have u0:=J5 u1
      rw[Cx (n:=u.1+1125899906842624) (by omega) (by omega),Cx (n:=u.1+1125899906842624-r.1) (by omega) (by omega)]
      obtain⟨x,hx,kx⟩:=Ts H (l:=s.U) (by omega) (m:=u.1+1125899906842624-r.1) ⟨by omega,by omega⟩
      rw[sH,qQ,hx,qN]
      refine⟨_,rfl,λad=>?_⟩
      obtain⟨x1,x2,x3⟩:=kx ad
      exact⟨⟨⟨C,D,by omega,by omega,by omega,by omega,u1,u2,by omega⟩,⟨by omega,by omega⟩,λk l g a o=>(i2 k l g (rB.1 a).1 a o).1,λl a=>(k2 l a).2,x1,by omega⟩,λk p m q z=>i1 k p m (rB.1 q).1 q z,λk l g a o=>(i2 k l g (rB.1 a).1 a o).2⟩
 ·exact⟨_,rfl,λh=>by cases h⟩
end Go.Proofs.YtblcgjadhemlbaaGreat
namespace Go.Proofs.YtblcgjadhemlbaaGreat
set_option linter.all false
open Go.RowKit
structure Uw (l:BL) (g:BG):Prop where
 pos:0≤g.W∧g.W≤l.R
 tgt:0≤g.Z∧g.Z≤l.R
 opn:g.Ao=true→l.B=5∨l.B=3
def Lp (b:AU) (a:List BG):Prop:=a.length=b.E.length∧∀(k:Nat) l g,b.E[k]? =some l→a[k]? =some g→Uw l g
def SQ (b:AU):Prop:=∀l∈b.E,(0≤l.R∧l.R≤64)∧0≤l.Ab∧l.Ab≤l.R
def Lp.at_ {b:AU}{a:List BG}(j:Lp b a) {i:Int}{l:BL}{g:BG}(c:ix b.E i=some l) (d:ix a i=some g):Uw l g:=j.2 _ _ _ (D0 c).2 (D0 d).2
def Lp.upd {b:AU}{j:List BG}(p:Lp b j) {i:Int}{l:BL}{g:BG}(d:ix b.E i=some l) (m:Uw l g):Lp b (upd j i g):=by
 obtain⟨h0,d⟩:=D0 d
 refine⟨by rw[LH];exact p.1,λk n o c a=>?_⟩
 unfold Go.Proofs.YtblcgjadhemlbaaGreat.upd at a
 by_cases e:i.toNat=k
 ·rw[e] at d a
  rw[d] at c
  cases c
  rw[tV (by rw[p.1];exact(rB.1 d).1)] at a
  cases a
  exact m
 ·rw[tM e] at a
  exact p.2 k n o c a
def Uw.fault {N:Nat}{l:BL}{g a:BG}{k:Int}(m:Uw l g) (e:Ho N l g k=some a):Uw l a:=by
 have d:∀c:Bool,Gv N l g k (GK N g) c=some a→Uw l a:=λc e=>by
  unfold Gv at e
  cases c
  ·cases e;exact⟨m.pos,m.tgt,m.opn⟩
  ·by_cases b:l.B=5
   ·rw[rF b] at e
    cases e
    exact⟨m.pos,m.tgt,λ_=> .inl b⟩
   ·rw[rD b] at e
    cases e
    exact⟨m.pos,m.tgt,m.opn⟩
 unfold Ho at e
 cases h0:decide (k=0)<;>rw[h0] at e
 ·cases i:decide (k=1)<;>rw[i] at e
  ·cases j:decide (k=2)<;>rw[j] at e
   ·exact d (decide (k=3)) e
   ·exact d true e
  ·cases e;exact⟨m.pos,m.tgt,m.opn⟩
 ·cases e;exact⟨m.pos,m.tgt,m.opn⟩
def Uw.aim {N:Nat}{l:BL}{g a:BG}{t:Int}(c:0≤l.R) (o:Uw l g) (e:Ix N l g t=some a):Uw l a:=by
 obtain⟨x,d,i,n,j⟩:=Zh N l g t
 have b:a=x:=qS (e.symm.trans d)
 have k:a.Ao=g.Ao:=by
  unfold Ix at e
  cases m:decide (l.R≠0)<;>rw[m] at e
  ·cases e;rfl
  ·obtain⟨y,_,e⟩:=bd e
   cases e;rfl
 exact⟨by rw[b,i];exact o.pos,by rw[b];exact j c o.tgt.1 o.tgt.2,by rw[k];exact o.opn⟩
def Uw.move {N:Nat}{l:BL}{g a:BG}(b:(0≤l.R∧l.R≤64)∧0≤l.Ab∧l.Ab≤l.R) (k:Uw l g) (e:Hr N l g=some a):Uw l a:=by
 have i:gM N l g=a:=qS ((Yv N l g).symm.trans e)
 have c:=(fS N l g b.1.2 b.2 k.pos k.tgt).1
 rw[i] at c
 have d:a.Z=g.Z∧a.Ao=g.Ao:=by
  unfold Hr at e
  cases j:g.Az<;>rw[j] at e
  ·rw[qQ] at e
   obtain⟨_,_,e⟩:=bd e
   obtain⟨_,_,e⟩:=bd e
   obtain⟨_,_,e⟩:=bd e
   obtain⟨_,_,e⟩:=bd e
   cases e;exact⟨rfl,rfl⟩
  ·cases e;exact⟨rfl,rfl⟩
 exact⟨c,by rw[d.1];exact k.tgt,by rw[d.2];exact k.opn⟩
def Uw.siphon {N:Nat}{l:BL}{g b:BG}{v:Int}(d:Uw l g) (e:HB N l g v=some b):Uw l b:=by
 unfold HB at e
 by_cases a:l.B=3
 ·rw[show decide (l.B≠3)=false by simp [a],qQ] at e
  cases c:decide (l.Ah≤v)<;>rw[c] at e
  ·cases hd:decide (v≤l.Ai)<;>rw[hd] at e<;>cases e
   ·exact⟨d.pos,d.tgt,λ_=> .inr a⟩
   ·exact⟨d.pos,d.tgt,λ_=> .inr a⟩
  ·cases e
   exact⟨d.pos,d.tgt,λ_=> .inr a⟩
 ·rw[show decide (l.B≠3)=true by simp [a],qO] at e
  cases e
  exact d
def R3 {N:Nat}{w:AX}(j:SQ w.b):∀(n:Nat) (i:Int) {a r:List BG},Lp w.b a→C6 N w n i a=some r→Lp w.b r
 |0,_,_,_,_,e=>by cases e
 |n+1,i,a,r,q,e=>by
  simp only[C6] at e
  cases k:decide (i<(w.b.E.length:Int))<;>rw[k] at e
  ·cases e;exact q
  ·rw[qO] at e
   obtain⟨l,c,e⟩:=bd e
   obtain⟨o,_,e⟩:=bd e
   obtain⟨g,m,e⟩:=bd e
   obtain⟨p,d,e⟩:=bd e
   obtain⟨_,_,e⟩:=bd e
   obtain⟨_,_,e⟩:=bd e
   exact R3 j n _ (q.upd c ((q.at_ c m).move (j l (sC (D0 c).2)) d)) e
def PP {N:Nat}{w:AX}(a:SQ w.b):∀(n:Nat) (i:Int) {c r:List BG},Lp w.b c→CS N w (Cb N w) n i c=some r→Lp w.b r
 |0,_,_,_,_,e=>by cases e
 |n+1,i,c,r,q,e=>by
  simp only[CS,FA] at e
  cases k:decide (i<(w.in_.At.length:Int))<;>rw[k] at e
  ·exact R3 a N 0 q e
  ·rw[qO] at e
   obtain⟨x,_,e⟩:=bd e
   obtain⟨y,_,e⟩:=bd e
   cases y with
   |false=>exact PP a n _ q e
   |true=>
    rw[qO] at e
    obtain⟨l,d,e⟩:=bd e
    obtain⟨o,_,e⟩:=bd e
    obtain⟨g,m,e⟩:=bd e
    obtain⟨p,j,e⟩:=bd e
    obtain⟨_,_,e⟩:=bd e
    obtain⟨_,_,e⟩:=bd e
    exact PP a n _ (q.upd d ((q.at_ d m).aim (a l (sC (D0 d).2)).1.1 j)) e
def PQ {N:Nat}{w:AX}(a:SQ w.b):∀(n:Nat) (i:Int) {c r:List BG},Lp w.b c→CT N w (Cc N w) n i c=some r→Lp w.b r
 |0,_,_,_,_,e=>by cases e
 |n+1,i,c,r,q,e=>by
  simp only[CT,FB] at e
  cases k:decide (i<(w.in_.Ap.length:Int))<;>rw[k] at e
  ·exact PP a N 0 q e
  ·rw[qO] at e
   obtain⟨x,_,e⟩:=bd e
   obtain⟨y,_,e⟩:=bd e
   cases y with
   |false=>exact PQ a n _ q e
   |true=>
    rw[qO] at e
    obtain⟨l,j,e⟩:=bd e
    obtain⟨o,_,e⟩:=bd e
    obtain⟨g,m,e⟩:=bd e
    obtain⟨p,d,e⟩:=bd e
    obtain⟨_,_,e⟩:=bd e
    obtain⟨_,_,e⟩:=bd e
    exact PQ a n _ (q.upd j ((q.at_ j m).fault d)) e
def TR {N:Nat}{w:AX}{y:List (List Int)×List BD}{o:List (List Int)}{j:List Int}:∀(n:Nat) (i:Int) {a:List BG}{r:List (List Int)×List BD×List BG×List Int},Lp w.b a→B3 N w y o j n i a=some r→Lp w.b r.2.2.1
 |0,_,_,_,_,e=>by cases e
 |n+1,i,a,r,t,e=>by
  simp only[B3,Du] at e
  cases k:decide (i<(w.b.E.length:Int))<;>rw[k] at e
  ·cases e;exact t
  ·rw[qO] at e
   obtain⟨l,d,e⟩:=bd e
   cases m:decide (l.B=3)<;>rw[m] at e
   ·exact TR n _ t e
   ·rw[qO] at e
    obtain⟨q,_,e⟩:=bd e
    obtain⟨g,p,e⟩:=bd e
    obtain⟨_,_,e⟩:=bd e
    obtain⟨v,_,e⟩:=bd e
    obtain⟨s,c,e⟩:=bd e
    obtain⟨_,_,e⟩:=bd e
    obtain⟨_,_,e⟩:=bd e
    exact TR n _ (t.upd d ((t.at_ d p).siphon c)) e
def Wm {N:Nat}{w:AX}{y:List (List Int)×List BD}:∀(n:Nat) (i:Int) {o:List (List Int)}{a:List Int}{r:List (List Int)×List BD×List BG×List Int},Lp w.b w.s.P→CZ N w y (C7 N w y) n i o a=some r→Lp w.b r.2.2.1
 |0,_,_,_,_,_,e=>by cases e
 |n+1,i,o,a,r,d,e=>by
  simp only[CZ] at e
  cases c:decide (i<(w.b.A.length:Int))<;>rw[c] at e
  ·exact TR N 0 d e
  ·rw[qO] at e
   iterate 12 (replace e:=(bd e).choose_spec.2)
   exact Wm n _ d e
def TV (b:AU) (rem:List Int):Prop:=rem.length=b.A.length∧∀(k:Nat) p m,b.A[k]? =some p→rem[k]? =some m→0≤m∧m≤max 0 (p.I-1)
def TV.upd {b:AU}{rem:List Int}(n:TV b rem) {i:Int}{p:Dm}{m:Int}(d:ix b.A i=some p) (g:0≤m∧m≤max 0 (p.I-1)):TV b (upd rem i m):=by
 obtain⟨h0,d⟩:=D0 d
 refine⟨by rw[LH];exact n.1,λk j l c a=>?_⟩
 unfold Go.Proofs.YtblcgjadhemlbaaGreat.upd at a
 by_cases e:i.toNat=k
 ·rw[e] at d a
  rw[d] at c
  cases c
  rw[tV (by rw[n.1];exact(rB.1 d).1)] at a
  cases a
  exact g
 ·rw[tM e] at a
  exact n.2 k j l c a
def XE {N:Nat}(d:18446744073709551616<N) {pl:Dm}(hd:0≤pl.I∧pl.I≤1125899906842624) {v m:Int}{y:Int×Int}(e:Gg N pl v m=some y):0≤y.2∧y.2≤max 0 (pl.I-1):=by
 unfold Gg at e
 rw[KH d,qN] at e
 unfold Zv at e
 split at e
 ·rename_i g
  obtain⟨_,_,⟨i,j⟩,_⟩:=g
  have k:=Int.emod_nonneg (v*pl.L) (show pl.I≠0 by omega)
  have l:=Int.emod_lt_of_pos (v*pl.L) (show 0<pl.I by omega)
  have c:∀a,0≤a→a<pl.I→FU N pl (v*pl.L/pl.I,v*pl.L%pl.I,true) a=some y→0≤y.2∧y.2≤max 0 (pl.I-1):=λa h0 o e=>by
   unfold FU at e
   simp only at e
   rw[Cx (n:=v*pl.L%pl.I+a) (by omega) (by omega)] at e
   by_cases p:v*pl.L%pl.I+a<pl.I
   ·rw[rF p,qO] at e
    cases e
    show 0≤v*pl.L%pl.I+a∧v*pl.L%pl.I+a≤_
    omega
   ·rw[rD p,qQ,Cx (n:=v*pl.L%pl.I+a-pl.I) (by omega) (by omega)] at e
    cases e
    show 0≤v*pl.L%pl.I+a-pl.I∧v*pl.L%pl.I+a-pl.I≤_
    omega
  simp only[sH,qQ] at e
  cases b:(decide (0≤m)&&decide (m<pl.I))<;>rw[b] at e
  ·exact c 0 (by omega) (by omega) e
  ·simp only[qT,rJ] at b
   exact c m b.1 b.2 e
 ·simp only[Bool.not_false,qO] at e
  cases e
  show(0:Int)≤0∧(0:Int)≤_
  omega
def R5 {N:Nat}{w:AX}{p:Int}{d:List AK}{g:List (List Int)→List Int→List BB→List BD→Option (List (List Int)×List Int×List Int×List BB×List BD)}:∀(n:Nat) (i:Int) {o:List (List Int)}{a:List Int}{b:List BB}{c:List BD}{r},Cd N w p d g n i o a b c=some r→∃o a b c,g o a b c=some r
 |0,_,_,_,_,_,_,e=>by cases e
 |n+1,i,o,a,b,c,r,e=>by
  simp only[Cd] at e
  cases j:decide (i<(d.length:Int))<;>rw[j] at e
  ·exact⟨_,_,_,_,e⟩
  ·rw[qO] at e
   iterate 3 (replace e:=(bd e).choose_spec.2)
   exact R5 n _ e
def R8 {N:Nat}{w:AX}{p:Int}{pl:Dm}{o:List (List Int)}{a:List Int}{b:List BB}{c:List BD}{rem:List Int}{r}(e:CF N w p pl o a b c rem=some r):r.2.1=rem:=by
 unfold CF at e
 obtain⟨_,_,e⟩:=bd e
 obtain⟨_,_,e⟩:=bd e
 obtain⟨v,_,e⟩:=bd e
 cases d:decide (0<Bw (v-pl.Ae))<;>rw[d] at e
 ·cases e;rfl
 ·rw[qO] at e
  obtain⟨_,_,e⟩:=bd e
  obtain⟨_,_,e⟩:=bd e
  cases e;rfl
def VQ {N:Nat}(j:18446744073709551616<N) {w:AX}(c:∀p∈w.b.A,HZ w.b p) {p:Int}{r}(u:TV w.b w.s.O) (e:D6 N w p=some r):TV w.b r.2.1:=by
 unfold D6 at e
 obtain⟨pl,a,e⟩:=bd e
 obtain⟨_,_,e⟩:=bd e
 obtain⟨_,_,e⟩:=bd e
 obtain⟨q,_,e⟩:=bd e
 obtain⟨o,d,k,l,e⟩:=R5 N 0 e
 have hd:=(c _ (sC (D0 a).2)).den
 unfold Hu at hd
 unfold D5 at e
 cases m:decide (pl.I≠0)<;>rw[m] at e
 ·rw[R8 e];exact u
 ·rw[qO] at e
  obtain⟨_,_,e⟩:=bd e
  obtain⟨_,_,e⟩:=bd e
  obtain⟨_,_,e⟩:=bd e
  obtain⟨_,_,e⟩:=bd e
  obtain⟨y,n,e⟩:=bd e
  obtain⟨_,_,e⟩:=bd e
  obtain⟨_,_,e⟩:=bd e
  obtain⟨_,_,e⟩:=bd e
  obtain⟨_,_,e⟩:=bd e
  obtain⟨t,_,e⟩:=bd e
  have h0:TV w.b (upd w.s.O p 0):=u.upd a (by omega)
  have i:∀rem,DI N w p pl o d k l y (CF N w p pl) rem=some r→r.2.1=rem:=λrem e=>by
   unfold DI at e
   obtain⟨_,_,e⟩:=bd e
   obtain⟨_,_,e⟩:=bd e
   exact R8 e
  cases g:decide (y.1≤t)<;>rw[g] at e
  ·rw[i _ e];exact h0
  ·rw[qO] at e
   obtain⟨_,_,e⟩:=bd e
   obtain⟨_,_,e⟩:=bd e
   rw[i _ e]
   exact h0.upd a (XE j hd n)
def Tv {N:Nat}(k:18446744073709551616<N) {b:AU}(a:∀p∈b.A,HZ b p) {in_:DO}{s:A7}{y z}:∀(n:Nat) (i:Int) {o:List (List Int)}{d c:List Int}{g:List BB}{j:List BD}{r},TV b d→DM N b in_ s y z (DT N s y z) n i o d c g j=some r→TV b r.1.O∧r.1.P=z.2.2.1
 |0,_,_,_,_,_,_,_,_,e=>by cases e
 |n+1,i,o,d,c,g,j,r,q,e=>by
  simp only[DM] at e
  cases l:decide (i<(b.A.length:Int))<;>rw[l] at e
  ·rw[qQ] at e
   unfold DT at e
   obtain⟨_,e⟩:=LO e
   cases e
   exact⟨q,rfl⟩
  ·rw[qO] at e
   obtain⟨x,m,e⟩:=bd e
   exact Tv k a n _ (VQ k (w:=(⟨b,in_,(⟨s.D,o,d,z.2.1,z.2.2.1,y.2.1,c⟩:A7),g,z.2.2.2,j⟩:AX)) a q m) e
def Z8 {N:Nat}(u:18446744073709551616<N) {b:AU}(m:IB b) (c:∀p∈b.A,HZ b p) (v:SQ b) {s:A7}(d:oL b s) {in_:DO}{r}(e:Gr N b s in_=some r):TV b r.1.O∧Lp b r.1.P:=by
 have B:=m.pl
 have J:=m.li
 have K:=m.own
 have a:=d.rg.x
 have C:Lp b s.P:=⟨a.gates,λk l g n o=>⟨(d.rg.gts k l g n o).1,(d.rg.gts k l g n o).2,d.opn k l g n o⟩⟩
 unfold Gr at e
 rw[SH (by omega) (by have:=a.own.len;omega) (λx q=>by have:=(a.own.all x q).len;omega) (by have:=a.rem;omega) (by have:=a.gates;omega) (by have:=a.inn;omega) (by have:=a.out;omega),qN] at e
 obtain⟨_,e⟩:=LO e
 obtain⟨t,i,e⟩:=bd e
 obtain⟨Q,_,e⟩:=bd e
 obtain⟨y,_,e⟩:=bd e
 obtain⟨z,j,e⟩:=bd e
 have F:Lp b t:=by
  unfold E6 at i
  exact PQ (w:=(⟨b,in_,s,([]:List BB),(List.replicate ((b.A.length:Int)).toNat (0:Int)),([]:List BD)⟩:AX)) v N 0 C i
 have G:Lp b z.2.2.1:=by
  unfold DR at j
  obtain⟨_,_,j⟩:=bd j
  exact Wm (w:=(⟨b,in_,(⟨s.D,y.1,s.O,s.M,t,y.2.1,s.U⟩:A7),y.2.2,(List.replicate ((b.A.length:Int)).toNat (0:Int)),([]:List BD)⟩:AX)) N 0 F j
 obtain⟨H,I⟩:=Tv u c N 0 ⟨a.rem,d.rem⟩ e
 exact⟨H,by rw[I];exact G⟩
end Go.Proofs.YtblcgjadhemlbaaGreat
namespace Go.Proofs.YtblcgjadhemlbaaGreat
set_option linter.all false
open Go.RowKit
def Xb {N:Nat}(F:18446744073709551616<N) {b:AU}(Z:GB N b=some true):J1 b∧SQ b∧Hg N b=some true∧EE N b=some true:=by
 obtain⟨v,e,k⟩:=Qm F b
 rw[Z] at e
 cases e
 have k:=k rfl
 unfold GB at Z
 obtain⟨Y,_,Z⟩:=bd Z
 obtain⟨H,I,Z⟩:=bd Z
 obtain⟨J,i,Z⟩:=bd Z
 obtain⟨K,j,Z⟩:=bd Z
 obtain⟨M,m,Z⟩:=bd Z
 obtain⟨Q,n,Z⟩:=bd Z
 obtain⟨U,o,Z⟩:=bd Z
 obtain⟨V,p,Z⟩:=bd Z
 obtain⟨W,q,Z⟩:=bd Z
 have a:∀{c:Bool} {x:Option Bool} {d:Bool},cond c (x.bind λy=>some y) (some false)=some d→d=true→c=true∧x=some true:=by
  intro c x d s hd
  subst hd
  cases c
  ·cases s
  ·cases x with
   |none=>cases s
   |some y=>exact⟨rfl,s⟩
 have t:=qS Z
 have u:=a q t
 have w:=a p u.1
 have z:=a o w.1
 have A:=a n z.1
 have C:=a m A.1
 have g:=a j C.1
 refine⟨k,λl X=>?_,(a i g.1).2,g.2⟩
 have D:=R4 F k.head k.links g.2 l X
 by_cases h0:l.B=0
 ·have:=D.gate h0;exact⟨this.2.2.1,this.2.2.2.1⟩
 ·by_cases G:l.B=2
  ·have:=D.pump G;exact⟨⟨by omega,this.2.1.2⟩,this.2.2⟩
  ·have:=D.none_ h0 G;exact⟨by omega,by omega⟩
end Go.Proofs.YtblcgjadhemlbaaGreat
