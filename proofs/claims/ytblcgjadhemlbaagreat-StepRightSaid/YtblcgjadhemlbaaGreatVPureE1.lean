import Derived.Test.YtblcgjadhemlbaaGreatVPureEy
import Derived.Test.YtblcgjadhemlbaaGreatVPureBase
import Derived.Test.YtblcgjadhemlbaaGreatVPureEx
namespace Go.Proofs.YtblcgjadhemlbaaGreat
set_option linter.all false
open Go.RowKit
structure IG (P W:Nat) (o:List (List Int)):Prop where
 len:o.length=P
 all:∀x∈o,PX W x
def EO (o:List (List Int)):Int:=(o.map List.sum).sum
def Fu (q:List BE):Int:=(q.map λl=>l.X.sum).sum
def IG.ix {P W:Nat}{o:List (List Int)}(c:IG P W o) {k:Nat}(a:k<P):∃x,Go.Proofs.YtblcgjadhemlbaaGreat.ix o (k:Int)=some x∧o[k]? =some x∧PX W x:=by
 obtain⟨x,e,b⟩:=mJ (l:=o) (i:=k) (by rw[c.len];exact a)
 exact⟨x,e,by rw[BS (by rw[c.len];exact a)] at e;rw[nO (by rw[c.len];exact a)];exact e,c.all x b⟩
def IG.upd {P W:Nat}{o:List (List Int)}(c:IG P W o) (i:Int) {x:List Int}(b:PX W x):IG P W (upd o i x):=
 ⟨by rw[K0];exact c.len,λy a=>by
  rcases rE a with a|rfl
  ·exact c.all y a
  ·exact b⟩
def IG.nn {P W:Nat}{o:List (List Int)}(c:IG P W o):∀x∈o.map List.sum,0≤x:=λx a=>by
 obtain⟨y,b,rfl⟩:=oC.1 a
 exact(c.all y b).sum0
def OE {o:List (List Int)}{k:Nat}{x y:List Int}(a:o[k]? =some x):EO (upd o (k:Int) y)=EO o-x.sum+y.sum:=by
 have b:=(nK.1 a).1
 have c:=(nK.1 a).2
 unfold EO upd
 rw[oW,List.map_set,L7 (by simpa using b),List.getElem_map,c]
def IG.le {P W:Nat}{o:List (List Int)}(b:IG P W o) {k:Nat}{x:List Int}(a:o[k]? =some x):x.sum≤EO o:=Hg b.nn _ (oC.2 ⟨x,oM a,rfl⟩)
def IG.sum0 {P W:Nat}{o:List (List Int)}(a:IG P W o):0≤EO o:=I0 a.nn
def K7 {o:List (List Int)}{k:Nat}(a:k<o.length):EO (o.take (k+1))=EO (o.take k)+(o[k]).sum:=Ot a
def KD {q:List BE}{k:Nat}(a:k<q.length):Fu (q.take (k+1))=Fu (q.take k)+(q[k]).X.sum:=Ot (f:=λl:BE=>l.X.sum) a
def Jp {P W:Nat}{o:List (List Int)}(a:IG P W o) (k:Nat):0≤EO (o.take k)∧EO (o.take k)≤EO o:=by
 have:=Fw a.nn k
 rw[←List.map_take] at this
 exact this
def QX (P W:Nat) (q:List BE):Prop:=∀l∈q,PX W l.X∧0≤l.D∧l.D<P
def QX.nn {P W:Nat}{q:List BE}(c:QX P W q):∀x∈q.map (λl=>l.X.sum),0≤x:=λx a=>by
 obtain⟨y,b,rfl⟩:=oC.1 a
 exact(c y b).1.sum0
def E9 {P W:Nat}{q:List BE}(a:QX P W q) (k:Nat):0≤Fu (q.take k)∧Fu (q.take k)≤Fu q:=by
 have:=Fw a.nn k
 rw[←List.map_take] at this
 exact this
def v1 (W:Nat) (n:Int):List Int:=upd (List.replicate W 0) 0 n
def Pv (W:Nat) (n:Int):(v1 W n).length=W:=by unfold v1;rw[K0];simp
def Rj {W:Nat}(a:1≤W) (n:Int):(v1 W n).sum=n:=by
 unfold v1 upd
 rw[show (0:Int).toNat=0 from rfl,L7 (by simp;omega)]
 simp
def Zw {W:Nat}(c:1≤W) {n:Int}(h0:0≤n) (b:n≤1125899906842624):PX W (v1 W n):=
 ⟨Pv W n,λx a=>by
  rcases rE a with a|rfl
  ·rw[(qL.1 a).2];exact oA 0
  ·exact h0,by rw[Rj c];exact b⟩
def Ur (W:Nat):v1 W 0=List.replicate W 0:=by
 unfold v1 upd
 apply oR
 intro i
 by_cases a:0=i
 ·subst a
  rcases rM W with a|a
  ·subst a;rfl
  ·rw[show (0:Int).toNat=0 from rfl,pU (by simp;omega),qG,nD a]
 ·rw[show (0:Int).toNat=0 from rfl,pN a]
def Q6 {W:Nat}{p:List Int}(b:p.length=W):Gp p (List.replicate W 0)=p:=by
 apply oR
 intro i
 rw[Gp,qA,qG]
 rcases nT i W with a|a
 ·rw[nD a,nO (by omega)];simp
 ·rw[nB (by omega),oE (show p.length≤i by omega)]
def Pu:∀(p q r:List Int),Gp (Gp p q) r=Gp p (Gp q r)
 |[],_,_=>by simp [Gp]
 |_::_,[],_=>by simp [Gp]
 |_::_,_::_,[]=>by simp [Gp]
 |a::p,b::q,c::r=>by
  have:=Pu p q r
  simp only[Gp,List.zipWith_cons_cons] at this ⊢
  rw[this,Int.add_assoc]
def Uq {W:Nat}{p:List Int}(g:p.length=W) (d:1≤W) (n x:Int) (c:ix p 0=some x):upd p 0 (x+n)=Gp p (v1 W n):=by
 have b:p[0]? =some x:=(Eu c).2
 apply oR
 intro i
 unfold v1 upd
 rw[Gp,qA,show(0:Int).toNat=0 from rfl]
 by_cases a:0=i
 ·subst a
  rw[pU (by omega),pU (by simp;omega),b]
 ·rw[pN a,pN a,qG]
  rcases nT i W with a|a
  ·rw[nD a,nO (show i<p.length by omega)];simp
  ·rw[nB (by omega),oE (show p.length≤i by omega)]
def bK {W:Nat}(g:1≤W) (a b:Int):Gp (v1 W a) (v1 W b)=v1 W (a+b):=by
 apply oR
 intro i
 rw[Gp,qA]
 unfold v1 upd
 rw[show (0:Int).toNat=0 from rfl]
 by_cases c:0=i
 ·subst c
  rw[pU (by simp;omega),pU (by simp;omega),pU (by simp;omega)]
 ·rw[pN c,pN c,pN c,qG]
  by_cases d:i<W<;>simp [d]
def WQ (H:Int) (W:Nat):Nat→List Int→List BA
 |_,[]=>[]
 |i,n::l=>(if 0<n then [⟨H, -1,(i:Int), -4,v1 W n⟩] else [])++WQ H W (i+1) l
def P6 (H:Int) (W:Nat) (n:Int):∀(l:List Int) (i:Nat),WQ H W i (l++[n])=WQ H W i l++(if 0<n then [⟨H, -1,((i+l.length:Nat):Int), -4,v1 W n⟩] else [])
 |[],i=>by simp [WQ]
 |a::l,i=>by
  have e:i+(a::l).length=i+1+l.length:=by simp;omega
  rw[oG,WQ,P6 H W n l (i+1),WQ,e,rA]
def Ru (H:Int) (W:Nat):∀(l:List Int) (i:Nat),(WQ H W i l).length≤l.length
 |[],_=>by simp [WQ]
 |a::l,i=>by
  have:=Ru H W l (i+1)
  rw[WQ,oD]
  split<;>simp<;>omega
structure lX (w:A4) (W k:Nat) (l:List Int) (s:Int×Int×List BA×List (List Int)×List Int):Prop where
 ll:l.length=k
 l0:∀n∈l,0≤n
 ms:s.2.2.1=WQ w.s.B W 0 l
 own:IG w.b.A.length W s.2.2.2.1
 lo:∀(i:Nat) x n,w.s.G[i]? =some x→l[i]? =some n→s.2.2.2.1[i]? =some (Gp x (v1 W n))
 hi:∀i,k≤i→s.2.2.2.1[i]? =w.s.G[i]?
 th:s.1=EO s.2.2.2.1+Fu w.s.J∧s.1≤1125899906842624
 inn:s.2.2.2.2=Gp w.s.O (v1 W l.sum)
 en:s.2.1=w.s.O.sum+l.sum∧s.2.1≤1152921504606846976
 os:EO s.2.2.2.1=EO w.s.G+l.sum
end Go.Proofs.YtblcgjadhemlbaaGreat
namespace Go.Proofs.YtblcgjadhemlbaaGreat
set_option linter.all false
open Go.RowKit
def SZ (W:Nat) (t:Int) (q:List BE) (p:Nat):List Int:=(q.filter λl=>decide (l.Ad≤t)&&decide (l.D=(p:Int))).foldl (λa l=>Gp a l.X) (List.replicate W 0)
def Kv (t:Int) (q:List BE):List BE:=q.filter λl=>decide (t<l.Ad)
def Rc {W:Nat}{t:Int}{q:List BE}{p k:Nat}(d:k<q.length):SZ W t (q.take (k+1)) p=if (q[k]).Ad≤t∧(q[k]).D=(p:Int) then Gp (SZ W t (q.take k) p) (q[k]).X else SZ W t (q.take k) p:=by
 unfold SZ
 rw[pO d,qU,qT]
 by_cases a:(q[k]).Ad≤t∧(q[k]).D=(p:Int)
 ·rw[nD a];simp [a.1,a.2]
 ·rw[nB a]
  have:(decide ((q[k]).Ad≤t)&&decide ((q[k]).D=(p:Int)))=false:=by
   rw[Bool.and_eq_false_iff]
   simp only[nV]
   by_cases b:(q[k]).Ad≤t
   ·exact .inr λc=>a ⟨b,c⟩
   ·exact .inl b
  simp [this]
def P7 {t:Int}{q:List BE}{k:Nat}(b:k<q.length):Kv t (q.take (k+1))=if (q[k]).Ad≤t then Kv t (q.take k) else Kv t (q.take k)++[q[k]]:=by
 unfold Kv
 rw[pO b,qU]
 by_cases a:(q[k]).Ad≤t
 ·rw[nD a];simp;omega
 ·rw[nB a]
  have:t<(q[k]).Ad:=by omega
  simp [this]
def TV (a b:List BE):Fu (a++b)=Fu a+Fu b:=by unfold Fu;rw[qQ,pK]
structure mU (P W:Nat) (t:Int) (q:List BE) (k:Nat) (s:List BE×List (List Int)):Prop where
 rest:s.1=Kv t (q.take k)
 own:IG P W s.2
 at_:∀p,p<P→s.2[p]? =some (SZ W t (q.take k) p)
 tot:EO s.2+Fu s.1=Fu (q.take k)
def Ta (W:Nat):∀P:Nat,EO (List.replicate P (List.replicate W 0))=0
 |0=>rfl
 |P+1=>by
  have:=Ta W P
  unfold EO at this ⊢
  rw[List.replicate_succ,oJ,oU,this,Rv];rfl
def cP {N:Nat}(Y:1000000<N) {P W:Nat}(hP:P≤64) (hW:W≤16) {q:List BE}(hq:q.length≤1000) (c:QX P W q) (Z:Fu q≤1125899906842624) (t:Int):
  ∃s,Kb N q t (P:Int) (W:Int)=some (s.2,s.1)∧mU P W t q q.length s:=by
 unfold Kb
 rw[M0,mV,M0,mV,nB (show ¬(P:Int)<0 by omega),nB (show ¬64<(P:Int) by omega),nB (show ¬(W:Int)<0 by omega),nB (show ¬16<(W:Int) by omega),IM (by omega) _ (by decide)]
 obtain⟨o,⟨i1,K⟩,e⟩:=EQ P (λn i l=>GT N (P:Int) (W:Int) (GU N q t (P:Int)) n i l) (GU N q t (P:Int)) (λk (l:List (List Int))=>l.length=P∧∀i,i<k→l[i]? =some (List.replicate W 0)) (λn k l a=>by
  simp only[GT];rw[Mt,E7 a];rfl) (λn k l m a=>by
  simp only[GT]
  have w:k<l.length:=by rw[m.1];exact a
  rw[Mt,Ev a,mW,IM (by omega) _ (by decide),BS w,mV,mV,BX (by omega)]
  refine⟨_,⟨by rw[K0];exact m.1,λi aa=>?_⟩,rfl⟩
  by_cases z:k=i
  ·subst z;rw[GO w];rfl
  ·rw[IC z];exact m.2 i (by omega)) N 0 (List.replicate ((P:Int)).toNat ([]:List Int)) ⟨Mt _ _,λi m=>by omega⟩ (by omega) (nE _)
 rw[show GT N (P:Int) (W:Int) (GU N q t (P:Int)) N 0 _=GU N q t (P:Int) o from e]
 have M:o=List.replicate P (List.replicate W 0):=oR λi=>by
  rcases nT i P with h|h
  ·rw[K i h,qG,nD h]
  ·rw[oE (by omega),oE (by simp;omega)]
 have I:IG P W o:=⟨i1,λx Q=>by rw[M] at Q;rw[(qL.1 Q).2];exact PX.zero W⟩
 unfold GU
 obtain⟨s,i3,e2⟩:=EQ q.length (λn i (s:List BE×List (List Int))=>Fh N q t (P:Int) (Hi N) n s.1 i s.2) (λs=>Hi N s.1 s.2) (λk s=>mU P W t q k s) (λn k s a=>by
  simp only[Fh];rw[E7 a];rfl) (λn k s m a=>by
  obtain⟨F,o⟩:=s
  obtain⟨A,d,G,U⟩:=m
  simp only at A d G U
  obtain⟨H,V,X⟩:=c _ (nP a)
  have h2:=E9 c (k+1)
  rw[KD a] at h2
  have ab:F.length≤k:=by rw[A];exact oZ (List.length_filter_le _ _) (by rw[pD];omega)
  have ac:0≤Fu F:=by
   rw[A]
   exact Pe λl hl=>(c l (rN ((oX.1 hl).1))).1.sum0
  simp only[Fh,I9]
  rw[Ev a,mW,BS a,mV,BX (by omega),nW V,nW X,Bool.and_true,Bool.and_true]
  by_cases u:(q[k]).Ad≤t
  ·obtain⟨j,J,B⟩:=aE (l:=o) V (by rw[d.len];exact X)
   obtain⟨y,hy,b,g⟩:=d.ix (k:=j) (by rw[←d.len];exact B)
   have ad:=d.le b
   have C:=g.add H (by omega)
   rw[nW u,mW,J,hy,mV,mV,g.padd Y (by omega) H,mV,mV,mV]
   refine⟨(_,_),⟨by rw[P7 a,nD u];exact A,d.upd _ C,λp v=>?_,?_⟩,rfl⟩
   ·show(upd o (j:Int) _)[p]? =_
    rw[Rc a]
    by_cases D:j=p
    ·subst D
     rw[GO B,nD ⟨u,J⟩]
     rw[G j v] at b
     rw[mZ b]
    ·rw[IC D,nB (by rw[J];omega)];exact G p v
   ·show EO (upd o (j:Int) _)+Fu F=_
    rw[OE b,KW (g.len.trans H.len.symm),KD a]
    omega
  ·rw[nL u,mX,KH N (by rw[H.len];omega),mV,KC (by simp;omega)]
   refine⟨(_,_),⟨by rw[P7 a,nB u,←A],d,λp v=>?_,?_⟩,rfl⟩
   ·rw[Rc a,nB λh=>u h.1];exact G p v
   ·show EO o+Fu (F++[_])=_
    rw[TV,KD a]
    simp only[Fu,oJ,List.map_nil,oU,List.sum_nil] at U ⊢
    omega) N 0 ([],o) ⟨rfl,I,λp v=>by
   show o[p]? =_
   rw[K p v];rfl,by
   show EO o+Fu []=Fu (q.take 0)
   rw[M,Ta];rfl⟩ (by omega) (nE _)
 exact⟨s,e2,i3⟩
structure ArX (w:A4) (W:Nat) (r:List (List Int)×List BE×List BH×List Int):Prop where
 own:IG w.b.A.length W r.1
 at_:∀(p:Nat) x,w.s.G[p]? =some x→r.1[p]? =some (Gp x (SZ W w.s.B w.s.J p))
 rest:r.2.1=Kv w.s.B w.s.J
 pk:r.2.2.2=r.1.map List.sum
 tot:EO r.1+Fu r.2.1=EO w.s.G+Fu w.s.J
def dD {N:Nat}(hN:1000000<N) {w:A4}{W:Nat}(hW:w.b.H.length=W) (ab:W≤16) (hP:w.b.A.length≤64) (hL:w.b.E.length≤96) (ac:∀l∈w.b.E,JO w.b l) (ho:IG w.b.A.length W w.s.G) (hq:w.s.J.length≤1000) (z:QX w.b.A.length W w.s.J) (ht:EO w.s.G+Fu w.s.J≤1125899906842624) (g:w.peaks.length=w.b.A.length) (hg:w.s.Q.length=w.b.E.length):
  ∃r,Ex N w=some r∧ArX w W r∧r.2.2.1.length=w.b.E.length:=by
 have ai:=ho.sum0
 have ad:=(E9 z 0).2
 rw[pB,show Fu ([]:List BE)=0 from rfl] at ad
 unfold Ex
 rw[hW]
 obtain⟨⟨t,q⟩,hy,⟨y1,K,y3,y4⟩⟩:=cP hN hP ab hq z (by omega) w.s.B
 simp only at y1 K y3 y4 hy
 rw[oL] at y1 y3 y4
 rw[hy,mV]
 have ag:0≤Fu t:=by
  rw[y1]
  exact Pe λl hl=>(z l ((oX.1 hl).1)).1.sum0
 have ah:=K.sum0
 obtain⟨⟨o,y⟩,⟨m,M,U,V,X,Y⟩,e⟩:=EQ w.b.A.length (λn i (s:List (List Int)×List Int)=>Cq N w (q,t) (C6 N w (q,t)) n i s.1 s.2) (λs=>C6 N w (q,t) s.1 s.2) (λk s=>IG w.b.A.length W s.1∧s.2.length=w.b.A.length∧(∀(p:Nat) x,p<k→w.s.G[p]? =some x→s.1[p]? =some (Gp x (SZ W w.s.B w.s.J p)))∧(∀p,k≤p→s.1[p]? =w.s.G[p]?)∧(∀(p:Nat) x,p<k→s.1[p]? =some x→s.2[p]? =some x.sum)∧EO s.1=EO w.s.G+EO (q.take k)) (λn k s d=>by
  simp only[Cq];rw[E7 d];rfl) (λn k s hi d=>by
  obtain⟨o,y⟩:=s
  obtain⟨m,M,U,V,X,Y⟩:=hi
  simp only at m M U V X Y
  obtain⟨a,ha,u,D⟩:=m.ix d
  obtain⟨c,hc,v,F⟩:=K.ix d
  have I:k<q.length:=by rw[K.len];exact d
  have Z:q[k]=c:=by rw[nO I] at v;exact mZ v
  have t1:=Jp K (k+1)
  rw[K7 I,Z] at t1
  have t2:=m.le u
  have hd:=D.add F (by omega)
  have aa:k<(upd o (k:Int) (Gp a c)).length:=by rw[K0,m.len];exact d
  simp only[Cq]
  rw[Ev d,mW,BX (by omega),ha,mV,mV,hc,mV,mV,D.padd hN (by omega) F,mV,mV,mV]
  have ae:ix (upd o (k:Int) (Gp a c)) (k:Int)=some (Gp a c):=by
   rw[BS aa]
   have:=GO (l:=o) (k:=k) (by rw[m.len];exact d) (Gp a c)
   rw[nO aa] at this
   exact this
  rw[ae,mV,mV,hd.total hN (by omega),mV,BS (show k<y.length by omega),mV,mV]
  refine⟨(_,_),⟨m.upd _ hd,by show(upd y _ _).length=_;rw[K0];exact M,λp x hp j=>?_,λp hp=>?_,λp x hp j=>?_,?_⟩,rfl⟩
  ·show(upd o (k:Int) _)[p]? =_
   by_cases g:k=p
   ·subst g
    rw[GO (by rw[m.len];exact d)]
    rw[V k (nJ _),j] at u
    cases u
    rw[y3 k d] at v
    rw[mZ v]
   ·rw[IC g];exact U p x (by omega) j
  ·show(upd o (k:Int) _)[p]? =_
   rw[IC (by omega)];exact V p (by omega)
  ·change (upd o (k:Int) (Gp a c))[p]? =some x at j
   show(upd y (k:Int) _)[p]? =_
   by_cases g:k=p
   ·subst g
    rw[GO (by rw[m.len];exact d)] at j
    rw[GO (by omega),mZ j]
   ·rw[IC g] at j ⊢;exact X p x (by omega) j
  ·show EO (upd o (k:Int) _)=_
   rw[OE u,KW (D.len.trans F.len.symm),K7 I,Z,Y]
   omega) N 0 (w.s.G,w.peaks) ⟨ho,g,λp x hp=>by omega,λp _=>rfl,λp x hp=>by omega,by simp [EO]⟩ (by omega) (nE _)
 rw[show Cq N w (q,t) (C6 N w (q,t)) N 0 w.s.G w.peaks=C6 N w (q,t) o y from e]
 simp only at m M U V X Y
 have af:q.take w.b.A.length=q:=by rw[←K.len,oL]
 rw[af] at Y
 unfold C6
 obtain⟨gs,j1,e2⟩:=EQ w.b.E.length (λn i s=>Ca N w (q,t) o y n i s) (λs=>some (o,t,s,y)) (λi s=>s.length=w.b.E.length) (λn k s d=>by
  simp only[Ca];rw[E7 d];rfl) (λn i s hi d=>by
  simp only[Ca,Es]
  have ok:=ac _ (nP d)
  rw[Ev d,mW,BS d,mV,BX (by omega)]
  cases decide ((w.b.E[i]).C=3)
  ·exact⟨s,hi,rfl⟩
  ·rw[mW,BS (show i<s.length by omega),mV,mV,cA ok.fr.1 (by rw[M];exact ok.fr.2),mV,mV,(gO N _ _ _).1,mV,mV,mV]
   exact⟨_,by rw[K0];exact hi,rfl⟩) N 0 w.s.Q hg (by omega) (nE _)
 refine⟨_,e2,⟨m,λp x j=>U p x ?_ j,y1,?_,?_⟩,j1⟩
 ·rw[←ho.len];exact(nK.1 j).1
 ·show y=o.map List.sum
  apply oR
  intro p
  rcases nT p w.b.A.length with h|h
  ·obtain⟨x,_,j,_⟩:=m.ix h
   rw[X p x h j,pZ,j];rfl
  ·rw[oE (by omega),oE (by rw[qX,m.len];omega)]
 ·show EO o+Fu t=_
  omega
end Go.Proofs.YtblcgjadhemlbaaGreat
