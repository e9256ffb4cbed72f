import Derived.Test.YtibidnaedddfdaaGreatTForms
import Derived.Test.YtibidnaedddfdaaGreatTPureHStep
import Derived.Test.YtibidnaedddfdaaGreatTWalk0
namespace Go.Proofs.YtibidnaedddfdaaGreat
set_option linter.all false
open Go.RowKit
def WL:DG=Dz:=rfl
def Y7:Cy=Da:=rfl
def aH:JJ=Kk:=rfl
def pS:G5=HV:=rfl
def kE:Fp=Jj:=rfl
def eY (N:Nat) (s:AB):DV N s=HO N s:=by
 simp only[DV,HO,Int.max_comm]
def aI (N:Nat) (h:AX) (k:Int→Option Int):∀n a i,Fq N h k n a i=HB N h k n a i
 |0,a,i=>rfl
 |n+1,a,i=>by simp only[Fq,HB,aI N h k n,aH,WL]
def aJ (N:Nat) (h:AX) (k:Int→Option Int):∀n a i,Fs N h k n a i=GR N h k n a i
 |0,a,i=>rfl
 |n+1,a,i=>by simp only[Fs,GR,aJ N h k n,aH,WL]
def pQ:Jl=J7:=by
 funext N h;unfold Jl J7;rw[aJ];congr 1;funext a;unfold IM Hw;rw[aI];rfl
def Xz (N:Nat) (h:AX) (k:Option Bool):∀n i,FG N h k n i=El N h k n i
 |0,i=>rfl
 |n+1,i=>by
  simp only[FG,El,Xz N h k n,D4,Ei,OM,wC];congr 2;funext x;generalize decide (0≤x.B)=a
  generalize decide (x.B≤x.A)=b
  generalize decide (x.A≤1125899906842624)=c
  cases a<;>cases b<;>cases c<;>rfl
def fD (x y:AY):decide (0≤Sc x y)=(decide (y.K<x.K)||(decide (x.K=y.K)&&decide (y.C≤x.C))):=by
 have:Sc x y<0↔Qs x.K x.C y.K y.C:=Qg;unfold Qs at this;rw[Bool.eq_iff_iff];simp only[wW,wZ,wI];omega
def Xy {N:Nat}(t:5<N) (b:AH) (h:AX) (k:Option Bool):∀n i,FE N b h k n i=Ek N b h k n i
 |0,i=>rfl
 |n+1,i=>by
  simp only[FE,Ek,Xy t b h k n,D4,Fe,HQ,Ei,OM,wC,Rs t,fD];congr 2;funext x;have a:((decide (0≤x.G.B)&&decide (x.G.B≤x.G.A))&&decide (x.G.A≤1125899906842624))=true→decide (x.G.A=0)=decide (x.G.A≤0):=λe=>by
   simp only[wI,wW] at e;exact Aah.2 ⟨λh=>by omega,λh=>by omega⟩
  revert a;generalize decide (x.G.A=0)=p
  generalize decide (x.G.A≤0)=q
  generalize decide (0≤x.G.B)=j
  generalize decide (x.G.B≤x.G.A)=l
  generalize decide (x.G.A≤1125899906842624)=m
  generalize decide (x.K<h.H)=c
  generalize (decide (0≤x.C)&&decide (x.C<(b.F.length:Int)))=d
  generalize decide (0<i)=w
  intro a;have a:j=true→l=true→m=true→p=q:=λo s u=>a (by rw[o,s,u];rfl);cases v:ix h.E (BV (i-1)) with
  |none=>
   simp only[Option.bind_none];cases j<;>cases l<;>cases m<;>first|rfl|(have:=a rfl rfl rfl;subst this;cases p<;>cases c<;>cases d<;>cases w<;>rfl)
  |some y=>
   simp only[wC];generalize decide (x.K<y.K)=o
   generalize decide (y.K=x.K)=s
   generalize decide (x.C≤y.C)=u
   cases j<;>cases l<;>cases m<;>first|rfl|(have:=a rfl rfl rfl;subst this;cases p<;>cases c<;>cases d<;>cases w<;>cases o<;>cases s<;>rfl)
def pX {N:Nat}(l:AS) (x:AF) (A:Option Bool):((cond (decide (l.I=5)) (some true) (some (decide (l.I=3)))).bind λb=>cond (((!((decide (0≤x.P.B)&&decide (x.P.B≤x.P.A))&&decide (x.P.A≤l.X))|| !((decide (0≤x.N.B)&&decide (x.N.B≤x.N.A))&&decide (x.N.A≤cond b 1 0)))||decide (x.S<0))||decide (l.X<x.S)) (some false) A)=(IT N l x).bind λy=>cond (!y) (some false) A:=by
 obtain⟨v,d,g⟩:=Xv N l x;rw[d,wC];have i:(cond (decide (l.I=5)) (some true) (some (decide (l.I=3))))=some (decide (l.I=5∨l.I=3)):=by
  by_cases j:l.I=5<;>by_cases k:l.I=3<;>simp [j,k]
 rw[i,wC];congr 1;rw[Bool.eq_iff_iff,xC,←yN,g];have o:∀c:Bool,(x.N.A≤cond c 1 0)↔(x.N.A≤0∨(c=true∧x.N.A≤1)):=λc=>by cases c<;>simp<;>omega
 simp only[wZ,xC,wW,Aaw,xA,o];have a:∀n m:Int,x.N=⟨n,m⟩↔(x.N.B=n∧x.N.A=m):=λn m=>by cases x.N;simp
 have p:TP l x↔((0≤x.P.B∧x.P.B≤x.P.A∧x.P.A≤l.X)∧(0≤x.S∧x.S≤l.X)∧((x.N=⟨0,0⟩)∨((l.I=5∨l.I=3)∧(x.N=⟨1,1⟩∨x.N=⟨0,1⟩)))):=⟨λh=>⟨h.pos,h.tgt,h.opn⟩,λh=>⟨h.1,h.2.1,h.2.2⟩⟩
 rw[p,a,a,a];by_cases q:l.I=5∨l.I=3<;>simp only[q,true_and,false_and,xF]<;>omega
def Xx (N:Nat) (b:AH) (h:AX) (k:Option Bool):∀n i,Dp N b h k n i=Ej N b h k n i
 |0,i=>rfl
 |n+1,i=>by
  simp only[Dp,Ej,H3,Xx N b h k n,D4,wC];congr 2;funext x;cases m:ix b.D i with
  |none=>rfl
  |some l=>
   simp only[wC];rw[←pX (N:=N)];congr 1;funext c;generalize ((decide (0≤x.P.B)&&decide (x.P.B≤x.P.A))&&decide (x.P.A≤l.X))=d
   generalize decide (x.S<0)=g
   generalize decide (l.X<x.S)=j
   cases c<;>simp only[wD,wE]
   ·generalize ((decide (0≤x.N.B)&&decide (x.N.B≤x.N.A))&&decide (x.N.A≤0))=a
    cases d<;>cases g<;>cases j<;>cases a<;>rfl
   ·generalize ((decide (0≤x.N.B)&&decide (x.N.B≤x.N.A))&&decide (x.N.A≤1))=a
    cases d<;>cases g<;>cases j<;>cases a<;>rfl
def jZ {N:Nat}(a:5<N) (b:AH) (h:AX):JE N b h=JO N b h:=by
 unfold JE JO;rw[Xz];congr 2;unfold H6 FX;rw[Xy a];congr 1;unfold H5 FW;rw[Xx];rfl
def ZJ (s:AB):AB:=⟨min s.B 1125899906842624,min s.A 1125899906842624⟩
def tI (x:AY) (s:AB):AY:={ x with G:=ZJ ⟨x.G.B+s.B,x.G.A+s.A⟩}
def pq (a t:Int) (s:AB):List AY→Bool→List AY×Bool
 |[],b=>([],b)
 |x::r,b=>
  if x.K=a∧x.C=t then (tI x s::(pq a t s r true).1,(pq a t s r true).2)
  else if b=false∧(a<x.K∨(x.K=a∧t<x.C)) then (⟨a,t,ZJ s⟩::x::(pq a t s r true).1,(pq a t s r true).2)
  else (x::(pq a t s r b).1,(pq a t s r b).2)
def WM {N:Nat}{a t:Int}{s:AB}(p:IK s) (q:List AY) (o:∀e∈q,IK e.G) (u:q.length<4398048311104) (kj:List AY→Bool→Option (List AY)):∀n (k:Nat) l b,k≤q.length→q.length<n+k→l.length≤k+(if b then 1 else 0)→
  Dc N q a t s kj n l b (k:Int)=kj (l++(pq a t s (q.drop k) b).1) (pq a t s (q.drop k) b).2
 |0,k,l,b,v,w,i=>by omega
 |n+1,k,l,b,v,w,i=>by
  obtain⟨y,z,A⟩:=p;simp only[Dc];rcases xB k q.length with g|g
  ·obtain⟨⟨D,F,H⟩⟩:=And.intro (o _ (wT g)) trivial;rw[D2 g,wD,BC g,Aac g];have j:=λl b i=>WM (N:=N) ⟨y,z,A⟩ q o u kj (a:=a) (t:=t) n (k+1) l b (by omega) (by omega) i;generalize q[k]=x at*
   have B:(if b then 1 else 0)≤1:=by split<;>omega
   simp only[wC,Im,Il,pS,kE,Na,HV,BF (show k<4611686018427387904 by omega)];rw[La N (by omega) (by omega) (by omega) (by omega),wC,La N (by omega) (by omega) (by omega) (by omega)];simp only[wC,xE,zB,wE];unfold pq;by_cases c:x.K=a∧x.C=t
   ·rw[wG c,show(decide (x.K=a)&&decide (x.C=t))=true by simp [c],wD,Ou (by omega) (by decide)];rw[j _ true (by simp;omega),yX];rfl
   ·rw[wF c,show(decide (x.K=a)&&decide (x.C=t))=false by simpa using c,wE];by_cases d:b=false∧(a<x.K∨(x.K=a∧t<x.C))
    ·rw[wG d,show(!b&&(decide (a<x.K)||(decide (x.K=a)&&decide (t<x.C))))=true by simpa using d,wD];have m:=d.1;subst m;simp only[yL,if_false] at i;rw[Ou (by omega) (by decide),Ou (by simp;omega) (by decide),j _ true (by simp;omega)];simp only[yX];rfl
    ·rw[wF d,show(!b&&(decide (a<x.K)||(decide (x.K=a)&&decide (t<x.C))))=false by
      rw[←yN];simpa using d,wE,Ou (by omega) (by decide),j _ b (by simp;omega),yX]
     rfl
  ·have:k=q.length:=by omega
   subst this;rw[Dk (wV _),wE,List.drop_length];simp [pq]
def VN (a t:Int) (s:AB) (x:AY) (r:List AY) (b:Bool):pq a t s (x::r) b=if x.K=a∧x.C=t then (tI x s::(pq a t s r true).1,(pq a t s r true).2)
  else if b=false∧(a<x.K∨(x.K=a∧t<x.C)) then (⟨a,t,ZJ s⟩::x::(pq a t s r true).1,(pq a t s r true).2)
  else (x::(pq a t s r b).1,(pq a t s r b).2):=by rw[pq]
def kQ {a t:Int}{s:AB}:∀{r:List AY},(∀e∈r,¬(e.K=a∧e.C=t))→pq a t s r true=(r,true)
 |[],_=>rfl
 |x::r,h=>by
  unfold pq;rw[wF (h x xL),wF (by simp),kQ λe b=>h e (xP _ b)]
def aM {a t:Int}{s:AB}{r:List AY}:∀{p:List AY},(∀e∈p,Qs e.K e.C a t)→pq a t s (p++r) false=(p++(pq a t s r false).1,(pq a t s r false).2)
 |[],_=>rfl
 |x::p,h=>by
  have b:=h x xL;unfold Qs at b;rw[yY,VN,wF (by omega),wF (by omega),aM λe c=>h e (xP _ c)];rfl
def kA {N:Nat}(W:9007199254740992<N) {q:List AY}(d:XN q) (g:∀e∈q,IK e.G) (X:q.length<4398048311104) {a t:Int}{s:AB}(I:IK s):H7 N q a t s=KJ N q a t s:=by
 unfold H7 KJ;cases hz:decide (s.A≤0)
 case true=>rfl
 rw[wE,wE];have J:=WM (N:=N) (a:=a) (t:=t) I q g X (Dd N a t s) N 0 [] false (wL _) (by omega) (by simp);rw[List.drop_zero,yD] at J;rw[show Dc N q a t s (Dd N a t s) N [] false 0=_ from J];obtain⟨r,v,h2,Y,M⟩:=dE W q d (by omega) (⟨a,t,⟨0,0⟩⟩:AY);have v:A7 N q (⟨a,t,⟨0,0⟩⟩:AY) (λx=>E7 N x.1 x.2)=_:=v;rw[v];simp only[wC];have w:∀e∈q.take r,Qs e.K e.C a t:=λe b=>by
  obtain⟨i,c⟩:=xY.1 b;rw[zR] at c;split at c
  ·exact Y i e (by assumption) c
  ·cases c
 have m:=aM (a:=a) (t:=t) (s:=s) (r:=q.drop r) w;rw[zD] at m;rw[m];by_cases B:∃y,q[r]? =some y∧y.K=a∧y.C=t
 ·obtain⟨y,n,k,l⟩:=B;obtain⟨u,D⟩:=wU.1 n;rw[wJ ⟨y,n,k,l⟩,wD,BC u];obtain⟨v1,v2,v3⟩:=g _ (wT u);obtain⟨s1,s2,s3⟩:=I;simp only[wC,HV];rw[La N (by omega) (by omega) (by omega) (by omega),wC,La N (by omega) (by omega) (by omega) (by omega)];simp only[wC,Na,SR];rw[Aac u,VN,wG (by rw[D];exact⟨k,l⟩),kQ λe b j=>?_]
  ·simp only[Dd,xE,wE,GT];rw[List.set_eq_take_append_cons_drop,wG u];rfl
  ·obtain⟨i,c⟩:=xY.1 b;rw[yS] at c;have:=Xo d n c ⟨k.trans j.1.symm,l.trans j.2.symm⟩;omega
 ·rw[wM B,wE,Na];simp only[wC];unfold J0 ZQ;rw[wG ⟨by omega,by omega,rfl,by unfold room;simp;omega⟩,Aan];have F:∀(i:Nat) e,r≤i→q[i]? =some e→Qs a t e.K e.C:=λi e c b=>by
   have Z:=M i e c b;refine VP Z λj=>?_;rcases xB r i with Q|Q
   ·have H:=(wU.1 b).1;have U:=Aav.1 d r i (by omega) H Q;rw[(wU.1 b).2,j.1,j.2] at U;exact M r _ (wV _) (wR (by omega)) U
   ·have:i=r:=by omega
    subst this;exact B ⟨e,b,j.1,j.2⟩
  have o:∀e∈q.drop r,Qs a t e.K e.C:=λe b=>by
   obtain⟨i,c⟩:=xY.1 b;rw[yS] at c;exact F (r+i) e (by omega) c
  have V:(q.take r).length≤r:=by rw[xT];exact Nat.min_le_left _ _
  generalize q.take r=p at*
  generalize q.drop r=z at*
  cases z with
  |nil=>
   simp only[pq,xK,Dd,Bool.not_false,wD,kE,Na,wC,GT];rw[Ou (by omega) (by decide)]
  |cons y z=>
   have n:=o y xL;unfold Qs at n;rw[VN,wF (by omega),wG ⟨rfl,by omega⟩,kQ λe b j=>by
    have:=o e (xP _ b);unfold Qs at this;omega]
   simp only[Dd,xE,wE,GT,wC,ZJ,yX,List.singleton_append,yY,yD]
structure PB (p:List Int):Prop where
 pos:∀x∈p,0≤x
 le:p.sum≤MV
def PB.nn {p:List Int}(h:PB p):0≤p.sum:=RO h.pos
def Mq {N:Nat}{p:List Int}(h:PB p) (j:p.length<N) (l:p.length<4611686018427387904):Gh N p=some p.sum:=by
 unfold Gh;obtain⟨s,b,c⟩:=F4 p.length (λn i s=>Gb N p (J2 N) n s i) (J2 N) (λk s=>s=(p.take k).sum) (λn k s a=>by
  simp only[Gb];rw[Dk a];rfl) (λn k s d a=>by
  refine⟨_,rfl,?_⟩;simp only[Gb];have m:=JV h.pos k;have o:p.sum≤1125899906842624:=h.le;have q:=h.pos p[k] (wT a);have g:=JV h.pos (k+1);rw[OO a] at g;rw[D2 a,wD,BC a,BF (by omega),d];simp only[wC];rw[La N (by omega) (by omega) (by omega) (by omega)];simp only[wC,OO a]) N 0 0 (by simp) (by omega) (wL _)
 rw[xU] at b;subst b;exact c
def Y8 {N:Nat}(p:List Int) (o:p.length<N) (q:p.length<4611686018427387904):∃v,ME N p=some v∧(v=true→PB p):=by
 unfold ME;rcases Rw p.length (λn i s=>IJ N p (J1 N) n s i) (λ_=>J1 N) (some false) (λk s=>s=(p.take k).sum∧(∀x∈p.take k,0≤x)∧(p.take k).sum≤MV) (λn k s a=>by
  simp only[IJ];rw[Dk a];rfl) (λn k s g a=>by
  obtain⟨rfl,c,d⟩:=g;have h0:=RO c;simp only[IJ];rw[D2 a,wD,BC a,BF (by omega)];simp only[wC];have j:BV (1125899906842624-(p.take k).sum)=1125899906842624-(p.take k).sum:=Cw (by unfold MV at d;omega) (by omega);rw[j];cases l:(decide (p[k]<0)||decide (1125899906842624-(p.take k).sum<p[k]))
  ·simp only[xI,xA] at l;refine .inr ⟨_,⟨rfl,λx b=>?_,?_⟩,?_⟩
   ·rw[yM a,xX] at b;rcases b with b|b
    ·exact c x b
    ·simp only[xV] at b;subst b;omega
   ·rw[OO a];unfold MV;omega
   ·have m:BV ((p.take k).sum+p[k])=(p.take (k+1)).sum:=by rw[OO a];exact Cw (by omega) (by omega)
    rw[m];rfl
  ·exact .inl rfl) N 0 0 ⟨by simp,by simp,by simp⟩ (by omega) (wL _) with h|⟨s,⟨_,c,d⟩,h⟩
 ·exact⟨false,h,λh=>by cases h⟩
 ·rw[xU] at c d;exact⟨true,h,λ_=>⟨c,d⟩⟩
def Uo {N:Nat}(d:100<N) (p:List Int) (o:Nat):∃v,LR N p (o:Int)=some v∧(v=true→PB p∧p.length=o∧o≤16):=by
 unfold LR;cases a:((decide ((0:Int)≤(o:Int))&&decide ((o:Int)≤16))&&decide ((p.length:Int)=(o:Int)))
 ·exact⟨false,rfl,λh=>by cases h⟩
 ·simp only[wI,wW] at a;obtain⟨v,b,c⟩:=Y8 (N:=N) p (by omega) (by omega);rw[wD,b];exact⟨v,rfl,λh=>⟨c h,by omega,by omega⟩⟩
abbrev kS (s:BQ):List Int:=s.Af.map List.sum
abbrev OU (l:List Hp):List Int:=l.map λx=>x.Ad.sum
structure XX (b:AH) (s:BQ) (l:Hp):Prop where
 at_:s.H≤l.K
 to_:0≤l.C∧l.C<b.F.length
 part:PB l.Ad
 plen:l.Ad.length≤16
 pos:0<l.Ad.sum
structure eA (l:AS) (g:Cs):Prop where
 pos:0≤g.P∧g.P≤l.X
 tgt:0≤g.S∧g.S≤l.X
 opn:g.N=true→l.I=5∨l.I=3
structure LU (b:AH) (s:BQ):Prop where
 hour:0≤s.H∧s.H≤16777216
 own:s.Af.length=b.F.length
 gat:s.At.length=b.D.length
 pools:∀p∈s.Af,PB p∧p.length≤16
 queue:∀l∈s.E,XX b s l
 tot:(kS s).sum+(OU s.E).sum≤MV
 gates:∀(k:Nat) l g,b.D[k]? =some l→s.At[k]? =some g→eA l g
def ZH {N:Nat}(W:5000<N) (b:AH) (G:JT b) (s:BQ) (X:s.Af.length≤64) (Y:s.E.length≤1000):∃r,Lh N b s=some r∧(r.2=true→
  (∀p∈s.Af,PB p∧p.length≤16)∧(∀l∈s.E,XX b s l)∧(kS s).sum+(OU s.E).sum≤MV):=by
 have D:=G.own;unfold Lh;rcases Rw s.Af.length (λn i x=>FZ N b s (Fa N b s) n x i) (Fa N b s) (some (0,false)) (λk x=>x=((s.Af.take k).map List.sum).sum∧(∀p∈s.Af.take k,PB p∧p.length≤16)∧x≤MV) (λn k x a=>by
  simp only[FZ];rw[Dk a];rfl) (λn k x j a=>by
  obtain⟨rfl,d,m⟩:=j;have h0:=Ml (f:=List.sum) (l:=s.Af.take k) λp o=>(d p o).1.nn;simp only[FZ];rw[D2 a,wD,BC a,BF (by omega)];simp only[wC];obtain⟨v,q,t⟩:=Uo (N:=N) (by omega) s.Af[k] b.Z.length;rw[q];simp only[wC];cases v with
  |false=>exact .inl rfl
  |true=>
   obtain⟨c,I,J⟩:=t rfl;have M:=c.nn;have Q:s.Af[k].sum≤1125899906842624:=c.le;rw[Mq c (by omega) (by omega)];have u:BV (((s.Af.take k).map List.sum).sum+s.Af[k].sum)=((s.Af.take (k+1)).map List.sum).sum:=by rw[OV a];exact Cw (by omega) (by unfold MV at m;omega)
   simp only[wC,xE,wE];rw[u];cases w:decide (1125899906842624<((s.Af.take (k+1)).map List.sum).sum) with
   |true=>exact .inl rfl
   |false=>
    simp only[xA] at w;exact .inr ⟨_,⟨rfl,N9 a d ⟨c,by omega⟩,by unfold MV;omega⟩,rfl⟩) N 0 0 ⟨by simp,by simp,by simp⟩ (by omega) (wL _) with h|⟨x,⟨hx,d,m⟩,h⟩
 ·exact⟨_,h,λh=>by cases h⟩
 ·rw[xU] at hx d;have U:0≤x:=by rw[hx];exact Ml λp o=>(d p o).1.nn
  show ∃r,FZ N b s (Fa N b s) N 0 0=some r∧_
  have h:FZ N b s (Fa N b s) N 0 0=Fa N b s x:=h;rw[h];unfold Fa;rcases Rw s.E.length (λn i y=>Ha N b s (Jc N) n y i) (Jc N) (some (0,false)) (λk y=>y=x+((s.E.take k).map λz=>z.Ad.sum).sum∧(∀l∈s.E.take k,XX b s l)∧y≤MV) (λn k y a=>by
   simp only[Ha];rw[Dk a];rfl) (λn k y j a=>by
   obtain⟨rfl,g,A⟩:=j;have g0:=Ml (f:=λz:Hp=>z.Ad.sum) (l:=s.E.take k) λl V=>(g l V).part.nn;simp only[Ha];rw[D2 a,wD,BC a,BF (by omega)];simp only[wC,NM];cases w:decide ((s.E[k]).K<s.H) with
   |true=>simp only[wD,wC];exact .inl (by trivial)
   |false=>
    simp only[wE,wC];cases hd:(decide (0≤(s.E[k]).C)&&decide ((s.E[k]).C<(b.F.length:Int))) with
    |false=>simp only[Bool.not_false,wD,wC];exact .inl (by trivial)
    |true=>
     simp only[xE,wE,wC];simp only[xA] at w;simp only[wI,wW] at hd;obtain⟨v,q,t⟩:=Uo (N:=N) (by omega) (s.E[k]).Ad b.Z.length;rw[q];simp only[wC];cases v with
     |false=>exact .inl rfl
     |true=>
      obtain⟨c,I,J⟩:=t rfl;have M:=c.nn;have Q:(s.E[k]).Ad.sum≤1125899906842624:=c.le;simp only[xE,wE];rw[Mq c (by omega) (by omega)];have u:BV (x+((s.E.take k).map λz=>z.Ad.sum).sum+(s.E[k]).Ad.sum)=x+((s.E.take (k+1)).map λz=>z.Ad.sum).sum:=by
       rw[OV a,←Int.add_assoc];exact Cw (by omega) (by unfold MV at A;omega)
      simp only[wC];rw[u];cases B:(decide ((s.E[k]).Ad.sum≤0)||decide (1125899906842624<x+((s.E.take (k+1)).map λz=>z.Ad.sum).sum)) with
      |true=>exact .inl rfl
      |false=>
       simp only[xI,xA] at B;exact .inr ⟨_,⟨rfl,N9 a g ⟨by omega,hd,c,by omega,by omega⟩,by unfold MV;omega⟩,rfl⟩) N 0 x ⟨by simp,by simp,m⟩ (by omega) (wL _) with h'|⟨y,⟨hy,g,A⟩,h'⟩
  ·exact⟨_,h',λh=>by cases h⟩
  ·rw[xU] at hy g;exact⟨_,h',λ_=>⟨d,g,by rw[hx] at hy;rw[←hy];exact A⟩⟩
def Xg {N:Nat}(l:List Int) (d:l.length<N) (c:l.length<4611686018427387904) (a:Int):Df (KW N l a):=by
 unfold KW;rcases Rw l.length (λn i x=>G3 N l a (Ir N) n x i) (Ir N) (some (0,false)) (λk x=>True) (λn k x b=>by
  simp only[G3];rw[Dk b];rfl) (λn k x g b=>by
  simp only[G3];rw[D2 b,wD,BC b,BF (by omega)];simp only[wC];cases (decide (l[k]<0)||decide (BV (a-x)<l[k]))
  ·exact .inr ⟨_,trivial,rfl⟩
  ·exact .inl rfl) N 0 0 trivial (by omega) (wL _) with h|⟨x,_,h⟩
 ·exact⟨_,h⟩
 ·exact⟨_,h⟩
def Y2 {N:Nat}(u:5000<N) (b:AH) (c:JT b) (s:BQ) (w:s.E.length≤1000):∃v,MD N b s=some v∧(v=true→LU b s):=by
 have x:=c.pl;have y:=c.li;have m:=c.own;unfold MD;generalize o:(_||decide ((s.Bn.length:Int)≠(b.Z.length:Int)))=B
 rcases (by cases B<;>simp:B=true∨B=false) with rfl|rfl
 ·exact⟨false,rfl,λh=>by cases h⟩
 simp only[xI,xA,ne_eq,Decidable.not_not] at o;obtain⟨⟨⟨⟨⟨⟨M,Q⟩,U⟩,V⟩,W⟩,Y⟩,q7⟩:=o;simp only[wE];rcases Ic b.F.length (HK N b s (HM N b s)) (HM N b s) (λ_=>True) (λn k h=>by
  simp only[HK];rw[Dk h];rfl) (λn k h=>by
  simp only[HK];have a:k<s.Bj.length:=by omega
  rw[D2 h,wD,BC h,BC a,BF (by omega)];simp only[wC,Eb];cases cond (decide (s.Bj[k]<0)) true (decide (max 0 (BV ((b.F[k]).R-1))<s.Bj[k]))
  ·exact .inr ⟨trivial,rfl⟩
  ·exact .inl rfl) N 0 (by omega) (wL _) with h|⟨_,h⟩
 ·exact⟨false,h,λh=>by cases h⟩
 have h:HK N b s (HM N b s) N 0=HM N b s:=h;rw[h];unfold HM;rcases Ic b.D.length (HJ N b s (HL N b s)) (HL N b s) (λk=>∀l g,b.D[k]? =some l→s.At[k]? =some g→eA l g) (λn k h=>by
  simp only[HJ];rw[Dk h];rfl) (λn k h=>by
  simp only[HJ];have a:k<s.At.length:=by omega
  rw[D2 h,wD,BC h,BC a,BF (by omega)];simp only[wC];cases p:(((decide ((s.At[k]).P<0)||decide ((b.D[k]).X<(s.At[k]).P))||decide ((s.At[k]).S<0))||decide ((b.D[k]).X<(s.At[k]).S)) with
  |true=>exact .inl rfl
  |false=>
   simp only[xI,xA] at p;obtain⟨⟨⟨c1,c2⟩,c3⟩,c4⟩:=p;simp only[wE];cases hd:(((s.At[k]).N&&decide ((b.D[k]).I≠5))&&decide ((b.D[k]).I≠3)) with
   |true=>exact .inl rfl
   |false=>
    refine .inr ⟨λl g d i=>?_,rfl⟩;rw[wR h] at d;rw[wR a] at i;cases d;cases i;refine⟨⟨by omega,by omega⟩,⟨by omega,by omega⟩,λz=>?_⟩;rw[z] at hd;simp only[zE,Aaw,xA,ne_eq,Decidable.not_not] at hd;exact hd) N 0 (by omega) (wL _) with h|⟨hg,h⟩
 ·exact⟨false,h,λh=>by cases h⟩
 have h:HJ N b s (HL N b s) N 0=HL N b s:=h;rw[h];unfold HL;obtain⟨r,d,i⟩:=ZH u b c s (by omega) w;rw[d];simp only[wC];cases A:r.2 with
 |false=>exact⟨false,rfl,λh=>by cases h⟩
 |true=>
  obtain⟨C,G,H⟩:=i A;simp only[xE,wE];obtain⟨q,J⟩:=Xg (N:=N) s.Bo (by omega) (by omega) 1152921504606846976;rw[J];simp only[wC];have j:LU b s:=⟨⟨by omega,by omega⟩,by omega,by omega,C,G,H,λk l g t a=>hg k (wL _) (wU.1 t).1 l g t a⟩
  cases q.2
  ·exact⟨false,rfl,λh=>by cases h⟩
  ·simp only[xE,wE];obtain⟨y2,K⟩:=Xg (N:=N) s.Bn (by omega) (by omega) (BV (BV (q.1+1125899906842624)-r.1));rw[K];exact⟨_,rfl,λ_=>j⟩
instance (a t a' t':Int):Decidable (Qs a t a' t'):=by unfold Qs;infer_instance
def MT (l:List Hp) (a t:Int):Int:=(l.map λx=>if x.K=a∧x.C=t then x.Ad.sum else 0).sum
def TV (l:List Hp) (x:Hp) (a t:Int):MT (l++[x]) a t=MT l a t+if x.K=a∧x.C=t then x.Ad.sum else 0:=by
 unfold MT;rw[yP,Aau];simp
def VC {l:List Hp}(h:∀x∈l,0≤x.Ad.sum) (a t:Int):0≤MT l a t:=Ml λx b=>by
 split
 ·exact h x b
 ·exact yE _
def SS:∀{l:List Hp},(∀x∈l,0≤x.Ad.sum)→∀(a t:Int),MT l a t≤(OU l).sum
 |[],_,a,t=>by simp [MT]
 |x::l,h,a,t=>by
  have b:=SS (l:=l) (λy c=>h y (xP _ c)) a t;have d:=h x (xL ..);unfold MT at b ⊢;simp only[xQ,Aag,OU] at b ⊢;split<;>omega
def Zv {l:List Hp}{a t:Int}(h:∀x∈l,¬(x.K=a∧x.C=t)):MT l a t=0:=by
 induction l with
 |nil=>rfl
 |cons x l c=>
  have b:=c λy d=>h y (xP _ d);have g:=h x (xL ..);unfold MT at b ⊢;simp only[xQ,Aag,wF g,b];rfl
def eP {l:List Hp}(h:∀x∈l,0≤x.Ad.sum) {x:Hp}(a:x∈l) (g:0<x.Ad.sum):0<MT l x.K x.C:=by
 induction l with
 |nil=>cases a
 |cons y l c=>
  have h0:=VC (l:=l) (λz b=>h z (xP _ b)) x.K x.C;unfold MT at h0 ⊢;simp only[xQ,Aag];rcases wN.1 a with rfl|a
  ·rw[wG ⟨rfl,rfl⟩];omega
  ·have d:=c (λz b=>h z (xP _ b)) a;have i:=h y (xL ..);unfold MT at d;split<;>omega
structure QI (l:List Hp) (q:List AY):Prop where
 srt:XN q
 val:∀e∈q,e.G.B=MT l e.K e.C∧e.G.A=MT l e.K e.C∧0<MT l e.K e.C
 key:∀x∈l,∃e∈q,e.K=x.K∧e.C=x.C
 bk:∀e∈q,∃x∈l,x.K=e.K∧x.C=e.C
 len:q.length≤l.length
def QI.nil:QI [] []:=⟨List.Pairwise.nil,λe h=>(by cases h),λe h=>(by cases h),λe h=>(by cases h),wV _⟩
def QI.add {N:Nat}(hN:9007199254740992<N) {l:List Hp}{q:List AY}(k:QI l q) (hl:l.length<1000) {x:Hp}(hp:0<x.Ad.sum) (F:∀y∈l,0≤y.Ad.sum) (hM:(OU l).sum+x.Ad.sum≤MV):∃X,KJ N q x.K x.C ⟨x.Ad.sum,x.Ad.sum⟩=some X∧QI (l++[x]) X:=by
 have aa:=k.len;have h0:=RO (l:=OU l) λy B=>by obtain⟨z,c,rfl⟩:=xR.1 B;exact F z c
 unfold MV at hM;unfold KJ;rw[show decide (x.Ad.sum≤0)=false by simp;omega,wE];obtain⟨r,I,h2,Y,Z⟩:=dE hN q k.srt (by omega) (⟨x.K,x.C,⟨0,0⟩⟩:AY);have I:A7 N q (⟨x.K,x.C,⟨0,0⟩⟩:AY) (λx=>E7 N x.1 x.2)=_:=I;rw[I];simp only[wC];by_cases J:∃y,q[r]? =some y∧y.K=x.K∧y.C=x.C
 ·obtain⟨y,B,j,m⟩:=J;obtain⟨D,p⟩:=wU.1 B;rw[wJ ⟨y,B,j,m⟩,wD,BC D,p];obtain⟨v1,v2,v3⟩:=k.val y (p▸wT D);have ab:=SS F x.K x.C;rw[j,m] at v1 v2 v3;simp only[wC,HV];rw[v1,v2,La N (by omega) (by omega) (by omega) (by omega)];simp only[wC,Na];have M:min (MT l x.K x.C+x.Ad.sum) 1125899906842624=MT l x.K x.C+x.Ad.sum:=by omega
  rw[M];refine⟨_,rfl,?_⟩;have Q:oJ ({ y with G:=⟨MT l x.K x.C+x.Ad.sum,MT l x.K x.C+x.Ad.sum⟩}:AY)=oJ q[r]:=by rw[p]
  have hu:upd q (r:Int) ({ y with G:=⟨MT l x.K x.C+x.Ad.sum,MT l x.K x.C+x.Ad.sum⟩}:AY)=q.set r { y with G:=⟨MT l x.K x.C+x.Ad.sum,MT l x.K x.C+x.Ad.sum⟩}:=rfl;rw[hu];have H:∀e,e∈q.set r ({ y with G:=⟨MT l x.K x.C+x.Ad.sum,MT l x.K x.C+x.Ad.sum⟩}:AY)→e=({ y with G:=⟨MT l x.K x.C+x.Ad.sum,MT l x.K x.C+x.Ad.sum⟩}:AY)∨(e∈q∧¬(x.K=e.K∧x.C=e.C)):=by
   intro e a;obtain⟨i,b⟩:=xY.1 a;by_cases n:r=i
   ·subst n;rw[Aax D] at b;cases b;exact .inl rfl
   ·rw[Aai n] at b;refine .inr ⟨yJ b,λd=>n (Xo k.srt B b ⟨j.trans d.1,m.trans d.2⟩)⟩
  refine⟨Xn k.srt D Q,λe a=>?_,λz c=>?_,λe a=>?_,by simp only[Aae,yA];omega⟩
  ·rw[TV];rcases H e a with rfl|⟨a,hne⟩
   ·show MT l x.K x.C+x.Ad.sum=MT l y.K y.C+(if x.K=y.K∧x.C=y.C then x.Ad.sum else 0)∧MT l x.K x.C+x.Ad.sum=MT l y.K y.C+(if x.K=y.K∧x.C=y.C then x.Ad.sum else 0)∧0<MT l y.K y.C+(if x.K=y.K∧x.C=y.C then x.Ad.sum else 0)
    rw[j,m,wG ⟨rfl,rfl⟩];exact⟨rfl,rfl,by omega⟩
   ·rw[wF hne];obtain⟨w1,w2,w3⟩:=k.val e a;omega
  ·have U:∃e∈q,e.K=z.K∧e.C=z.C:=by
    rcases xX.1 c with c|c
    ·exact k.key z c
    ·simp only[xV] at c;subst c;exact⟨y,p▸wT D,j,m⟩
   obtain⟨e,a,s,t⟩:=U;obtain⟨i,b⟩:=xY.1 a;by_cases n:r=i
   ·subst n;rw[B] at b;cases b;exact⟨_,yJ (Aax D),s,t⟩
   ·exact⟨e,yJ (by rw[Aai n];exact b),s,t⟩
  ·rcases H e a with rfl|⟨a,_⟩
   ·exact⟨x,Aa3 _ (xV.2 rfl),j.symm,m.symm⟩
   ·obtain⟨z,c,h⟩:=k.bk e a;exact⟨z,yV _ c,h⟩
 ·rw[wM J,wE,Na];simp only[wC];have M:min x.Ad.sum 1125899906842624=x.Ad.sum:=by omega
  rw[M];unfold J0 ZQ;rw[wG ⟨by omega,by omega,rfl,by unfold room;simp;omega⟩];refine⟨_,rfl,?_⟩;rw[Aan];have g:∀e∈q,¬(x.K=e.K∧x.C=e.C):=by
   intro e a d;obtain⟨i,b⟩:=xY.1 a;rcases xB i r with v|hge
   ·have:=Y i e v b;rw[d.1,d.2] at this;exact Tb this
   ·rcases xB r i with h5|h5
    ·have V:=(wU.1 b).1;have h6:=Aav.1 k.srt r i (by omega) V h5;rw[(wU.1 b).2,←d.1,←d.2] at h6;exact Z r _ (wV _) (wR (by omega)) h6
    ·have:i=r:=by omega
     subst this;exact J ⟨e,b,d.1.symm,d.2.symm⟩
  have z0:MT l x.K x.C=0:=Zv λz c d=>by
   obtain⟨e,a,s,t⟩:=k.key z c;exact g e a ⟨(s.trans d.1).symm,(t.trans d.2).symm⟩
  have u:∀e,e∈q.take r++[(⟨x.K,x.C,⟨x.Ad.sum,x.Ad.sum⟩⟩:AY)]++q.drop r→e=⟨x.K,x.C,⟨x.Ad.sum,x.Ad.sum⟩⟩∨e∈q:=λe a=>by
   simp only[xX,xV] at a;rcases a with (a|a)|a
   ·exact .inr (zA a)
   ·exact .inl a
   ·exact .inr (Abg a)
  have w:∀e,e∈q→e∈q.take r++[(⟨x.K,x.C,⟨x.Ad.sum,x.Ad.sum⟩⟩:AY)]++q.drop r:=λe a=>by
   rw[←zD r q] at a;simp only[xX,xV] at a ⊢;exact a.elim (λh=> .inl (.inl h)) .inr
  refine⟨?_,λe a=>?_,λz c=>?_,λe a=>?_,by simp only[yA,xT,zV,Aa4];omega⟩
  ·have v:∀e∈q.take r,Qs e.K e.C x.K x.C:=λe a=>by
    obtain⟨i,b⟩:=xY.1 a;rw[zR] at b;split at b
    ·exact Y i e (by assumption) b
    ·cases b
   have W:∀e∈q.drop r,Qs x.K x.C e.K e.C:=λe a=>by
    have hq:=Abg a;obtain⟨i,b⟩:=xY.1 a;rw[yS] at b;exact VP (Z (r+i) e (by omega) b) λd=>g e hq ⟨d.1.symm,d.2.symm⟩
   unfold XN;rw[yX,List.pairwise_append];have o:=k.srt;unfold XN at o;rw[←zD r q,List.pairwise_append] at o;refine⟨o.1,List.pairwise_cons.2 ⟨λe a=>W e a,o.2.1⟩,λe a e' A=>?_⟩;rcases wN.1 A with rfl|A
   ·exact v e a
   ·exact o.2.2 e a e' A
  ·rw[TV];rcases u e a with rfl|a
   ·simp only[and_self,if_true,z0];omega
   ·rw[wF (g e a)];obtain⟨w1,w2,w3⟩:=k.val e a;omega
  ·rcases xX.1 c with c|c
   ·obtain⟨e,a,h⟩:=k.key z c;exact⟨e,w e a,h⟩
   ·simp only[xV] at c;subst c;exact⟨⟨z.K,z.C,⟨z.Ad.sum,z.Ad.sum⟩⟩,by simp,rfl,rfl⟩
  ·rcases u e a with rfl|a
   ·exact⟨x,by simp,rfl,rfl⟩
   ·obtain⟨z,c,h⟩:=k.bk e a;exact⟨z,yV _ c,h⟩
abbrev Zf (n:Int):AB:=⟨n,n⟩
def Ub (b:Bool):Int:=cond b 1 0
def XL (N:Nat) (b:Bool):Mf N b=some (Ub b):=by cases b<;>rfl
abbrev vX (a:Cs):AF:=⟨Zf a.P,a.S,Zf (Ub a.N)⟩
abbrev WW (s:BQ) (q:List AY):AX:=⟨s.H,s.Af.map (λp=>Zf p.sum),q,s.At.map vX⟩
def LU.nn {b:AH}{s:BQ}(h:LU b s):∀x∈s.E,0≤x.Ad.sum:=λx a=>Int.le_of_lt (h.queue x a).pos
def LU.ownle {b:AH}{s:BQ}(h:LU b s):0≤(kS s).sum∧0≤(OU s.E).sum:=⟨Ml λp a=>(h.pools p a).1.nn,Ml h.nn⟩
def rD {N:Nat}(F:9007199254740992<N) {b:AH}(v:JT b) {s:BQ}(h:LU b s) (Y:s.E.length≤500):∃q,LS N b s=some (WW s q)∧QI s.E q:=by
 have G:=v.pl;have H:=v.li;have I:=h.own;have J:=h.gat;unfold LS;obtain⟨K,w,j⟩:=F4 s.Af.length (λn i x=>Hz N s (Id N s) n i x) (Id N s) (λk x=>x=(s.Af.take k).map λp=>Zf p.sum) (λn k x a=>by
  simp only[Hz];rw[Dk a];rfl) (λn k x d a=>by
  refine⟨_,rfl,?_⟩;subst d;obtain⟨M,Z⟩:=h.pools _ (wT a);simp only[Hz];rw[D2 a,wD,BC a,BF (by omega)];simp only[wC];rw[Mq M (by omega) (by omega)];simp only[wC,DO];rw[K4 (by simp only[xH,xT,Aa4];omega),Q9 a]) N 0 [] (by simp) (by omega) (wL _)
 have j:Hz N s (Id N s) N 0 []=Id N s K:=j;rw[j];rw[xU] at w;subst w;unfold Id;obtain⟨c,A,l⟩:=F4 s.E.length (λn i x=>Hy N s (H0 N s (s.Af.map λp=>Zf p.sum)) n i x) (H0 N s (s.Af.map λp=>Zf p.sum)) (λk x=>QI (s.E.take k) x) (λn k x a=>by
  simp only[Hy];rw[Dk a];rfl) (λn k x d a=>by
  have Q:=wT a;have m:=h.queue _ Q;have B:=h.nn;have g:(OU (s.E.take k)).sum+(s.E[k]).Ad.sum≤MV:=by
   have e:=OV (f:=λz:Hp=>z.Ad.sum) a;have C:((s.E.take (k+1)).map λz:Hp=>z.Ad.sum).sum≤(OU s.E).sum:=by
    rw[List.map_take];exact(JV (λy o=>by obtain⟨z,U,rfl⟩:=xR.1 o;exact B z U) _).2
   have:=h.tot;have:=h.ownle.1;simp only[OU] at*;omega
  obtain⟨V,W,C⟩:=d.add F (by simp only[xT];omega) m.pos (λy o=>B y (zA o)) g;refine⟨V,by rw[yM a];exact C,?_⟩;simp only[Hy];have t:=m.plen;rw[D2 a,wD,BC a,BF (by omega)];simp only[wC];rw[Mq m.part (by omega) (by omega)];simp only[wC,DO];rw[W];rfl) N 0 [] QI.nil (by omega) (wL _)
 have l:Hy N s (H0 N s (s.Af.map λp=>Zf p.sum)) N 0 []=H0 N s (s.Af.map λp=>Zf p.sum) c:=l;rw[l];rw[xU] at A;unfold H0;obtain⟨X,D,u⟩:=F4 s.At.length (λn i x=>Hx N s (J8 N s (s.Af.map λp=>Zf p.sum) c) n i x) (J8 N s (s.Af.map λp=>Zf p.sum) c) (λk x=>x=(s.At.take k).map vX) (λn k x a=>by
  simp only[Hx];rw[Dk a];rfl) (λn k x d a=>by
  refine⟨_,rfl,?_⟩;subst d;simp only[Hx];rw[D2 a,wD,BC a,BF (by omega)];simp only[wC,DO,XL];rw[K4 (by simp only[xH,xT,Aa4];omega),Q9 a]) N 0 [] (by simp) (by omega) (wL _)
 have u:Hx N s (J8 N s (s.Af.map λp=>Zf p.sum) c) N 0 []=J8 N s (s.Af.map λp=>Zf p.sum) c X:=u;rw[u];rw[xU] at D;subst D;exact⟨c,rfl,A⟩
abbrev kK (k:AQ):Value:=Value.agg (AQ.v k).toArray
def rL (k b:AQ):M7 (kK k) (kK b)=true↔k=b:=by
 obtain⟨a,t⟩:=k;obtain⟨c,t'⟩:=b;simp [M7,M8,VV]
instance:DecidableEq AQ:=λa b=>decidable_of_iff (M7 (kK a) (kK b)=true) (rL a b)
section
variable {β:Type}
def NT (a:AQ) (y:β) (r:List (AQ×β)) (k:AQ):Lu kK ((a,y)::r) k=if k=a then some y else Lu kK r k:=by
 unfold Lu;rw[List.find?_cons];by_cases h:k=a
 ·rw[wG h,show M7 (kK k) (kK (a,y).1)=true from(rL _ _).2 h];rfl
 ·rw[wF h];cases b:M7 (kK k) (kK (a,y).1) with
  |true=>exact absurd ((rL _ _).1 b) h
  |false=>rfl
def Uq (a:AQ) (y:β) (r:List (AQ×β)) (k:AQ) (x:β):M5 kK ((a,y)::r) k x=if k=a then (k,x)::r else (a,y)::M5 kK r k x:=by
 by_cases h:k=a
 ·rw[wG h,M5,wG ((rL _ _).2 h)]
 ·rw[wF h,M5,wF λb=>h ((rL _ _).1 b)]
def Se:∀(m:List (AQ×β)) (k:AQ) (x:β) (a:AQ),Lu kK (M5 kK m k x) a=if a=k then some x else Lu kK m a
 |[],k,x,a=>by unfold M5;rw[NT]
 |(c,y)::r,k,x,a=>by
  rw[Uq];by_cases h:k=c
  ·subst h;rw[wG rfl,NT,NT];split<;>rfl
  ·rw[wF h,NT,Se r k x a,NT];by_cases b:a=c
   ·rw[wG b,wG b,wF λe=>h (e.symm.trans b)]
   ·rw[wF b,wF b]
def Sd:∀(m:List (AQ×β)) (k:AQ) (x:β),(M5 kK m k x).map (·.1)=if k∈m.map (·.1) then m.map (·.1) else m.map (·.1)++[k]
 |[],k,x=>by simp [M5]
 |(b,y)::r,k,x=>by
  rw[Uq];by_cases h:k=b
  ·subst h;simp
  ·rw[wF h,xQ,Sd r k x];by_cases a:k∈r.map (·.1)
   ·have c:k∈((b,y)::r).map (·.1):=xP _ a;rw[wG a,wG c];rfl
   ·have c:¬k∈((b,y)::r).map (·.1):=λd=>(wN.1 d).elim h a;rw[wF a,wF c];rfl
def fI {m:List (AQ×β)}(h:(m.map (·.1)).Nodup) (k:AQ) (x:β):((M5 kK m k x).map (·.1)).Nodup:=by
 rw[Sd];split
 ·exact h
 ·rename_i d;rw[List.nodup_append];exact⟨h,by simp,λa g b c=>by simp only[xV] at c;subst c;exact λe=>d (e▸g)⟩
def WQ:∀{m:List (AQ×β)},(m.map (·.1)).Nodup→∀e∈m,Lu kK m e.1=some e.2
 |[],_,e,h=>by cases h
 |(b,y)::r,a,e,h=>by
  rw[NT];rw[xQ,zH] at a;rcases wN.1 h with rfl|h
  ·rw[wG rfl]
  ·have:e.1≠b:=λc=>a.1 (c▸xR.2 ⟨e,h,rfl⟩);rw[wF this];exact WQ a.2 e h
def aP (m:List (AQ×β)) (k:AQ) (x:β) (a:AQ):a∈(M5 kK m k x).map (·.1)↔a=k∨a∈m.map (·.1):=by
 rw[Sd];split
 ·rename_i h;exact⟨.inr,λb=>b.elim (λe=>e▸h) id⟩
 ·simp only[xX,xV];exact Or.comm
end
structure SI (l:List Hp) (m:List (AQ×Int)):Prop where
 uq:(m.map (·.1)).Nodup
 get:∀k,(Lu kK m k).getD 0=MT l k.at_ k.to_
 key:∀k,k∈m.map (·.1)↔∃x∈l,x.K=k.at_∧x.C=k.to_
def SI.nil:SI [] []:=⟨List.nodup_nil,λk=>rfl,λk=>by simp⟩
def SI.put {l:List Hp}{m:List (AQ×Int)}(h:SI l m) (x:Hp):SI (l++[x]) (M5 kK m ⟨x.K,x.C⟩ (MT l x.K x.C+x.Ad.sum)):=by
 refine⟨fI h.uq _ _,λk=>?_,λk=>?_⟩
 ·rw[Se,TV];by_cases c:k=⟨x.K,x.C⟩
  ·subst c;rw[wG rfl,wG ⟨rfl,rfl⟩];rfl
  ·rw[wF c,wF λd=>c (by cases k;simp only at d;rw[d.1,d.2]),h.get];omega
 ·rw[aP,h.key];constructor
  ·rintro(rfl|⟨y,a,b⟩)
   ·exact⟨x,by simp,rfl,rfl⟩
   ·exact⟨y,yV _ a,b⟩
  ·rintro⟨y,a,b,g⟩;rcases xX.1 a with a|a
   ·exact .inr ⟨y,a,b,g⟩
   ·simp only[xV] at a;subst a;left;cases k;simp only at b g;rw[b,g]
def YA {σ β:Type}(L:Nat) (f:Nat→Int→σ→Option β) (kj:σ→Option β) (g:Option β) (c:Prop) (I:Nat→σ→Prop) (a:∀n (k:Nat) s,L≤k→f (n+1) (k:Int) s=kj s) (b:∀n (k:Nat) s,I k s→k<L→(c∧f (n+1) (k:Int) s=g)∨∃s',I (k+1) s'∧f (n+1) (k:Int) s=f n ((k+1:Nat):Int) s'):
  ∀n (k:Nat) s,I k s→L<n+k→k≤L→(c∧f n (k:Int) s=g)∨∃s',I L s'∧f n (k:Int) s=kj s'
 |0,k,s,_,h,m=>by omega
 |n+1,k,s,l,h,m=>by
  rcases xB k L with i|i
  ·rcases b n k s l i with ⟨h0,d⟩|⟨s1,i1,d⟩
   ·exact .inl ⟨h0,d⟩
   ·rcases YA L f kj g c I a b n (k+1) s1 i1 (by omega) (by omega) with ⟨h0,j⟩|⟨s2,i2,j⟩
    ·exact .inl ⟨h0,d.trans j⟩
    ·exact .inr ⟨s2,i2,d.trans j⟩
  ·have:k=L:=by omega
   subst this;exact .inr ⟨s,l,a n k s i⟩
def Zw {b:AH}{s:BQ}(h:LU b s) (a t:Int):0≤MT s.E a t∧MT s.E a t≤1125899906842624:=by
 have d:=VC h.nn a t;have g:=SS h.nn a t;have c:=h.tot;have i:=h.ownle;unfold MV at c;omega
def gZ (N:Nat) (p:List Int) (k:Int→Option Int):∀n a i,FJ N p k n a i=Gb N p k n a i
 |0,a,i=>rfl
 |n+1,a,i=>by simp only[FJ,Gb,gZ N p k n,WL]
def VK:Fk=Gh:=by
 funext N p;unfold Fk Gh;rw[gZ];rfl
def qC:J9=Mf:=rfl
def pT:Cx=DO:=rfl
def pW (N:Nat) (s:BQ) (k:List AB→Option AX):∀n i l,Gw N s k n i l=Hz N s k n i l
 |0,i,l=>rfl
 |n+1,i,l=>by simp only[Gw,Hz,pW N s k n,VK,pT]
def pU (N:Nat) (s:BQ) (k:List AF→Option AX):∀n i l,Gu N s k n i l=Hx N s k n i l
 |0,i,l=>rfl
 |n+1,i,l=>by simp only[Gu,Hx,pU N s k n,qC,pT]
def pV {N:Nat}(o:9007199254740992<N) {b:AH}{s:BQ}(h:LU b s) (x:s.E.length≤500) (d:b.Z.length≤1000000) (kj:List AY→Option AX):∀n (k:Nat) l,QI (s.E.take k) l→k≤s.E.length→Gv N s kj n (k:Int) l=Hy N s kj n (k:Int) l
 |0,k,l,g,a=>rfl
 |n+1,k,l,g,a=>by
  simp only[Gv,Hy];rcases xB k s.E.length with a|a
  ·have A:=wT a;have m:=h.queue _ A;have u:=h.nn;have i:(OU (s.E.take k)).sum+(s.E[k]).Ad.sum≤MV:=by
    have e:=OV (f:=λz:Hp=>z.Ad.sum) a;have v:((s.E.take (k+1)).map λz:Hp=>z.Ad.sum).sum≤(OU s.E).sum:=by
     rw[List.map_take];exact(JV (λy p=>by obtain⟨z,B,rfl⟩:=xR.1 p;exact u z B) _).2
    have:=h.tot;have:=h.ownle.1;simp only[OU] at*;omega
   have c:∀y∈s.E.take k,0≤y.Ad.sum:=λy p=>u y (zA p);obtain⟨D,F,v⟩:=g.add o (by simp only[xT];omega) m.pos c i;have w:=m.pos;have H:0≤(OU (s.E.take k)).sum:=Ml c;have I:MV=1125899906842624:=rfl;have j:=g.len;rw[D2 a,wD,wD,BC a,BF (by omega)];simp only[wC,VK];have q:=m.plen;rw[Mq m.part (by omega) (by omega)];simp only[wC,Cx,DO];have t:∀e∈l,IK e.G:=λe J=>by
    obtain⟨M,Q,U⟩:=g.val e J;have:=SS c e.K e.C;exact⟨by omega,by omega,by omega⟩
   rw[kA o g.srt t (by rw[xT] at j;omega) ⟨?_,?_,?_⟩]
   ·rw[F];simp only[wC];exact pV o h x d kj n (k+1) D (by rw[yM a];exact v) (by omega)
   ·show 0≤(s.E[k]).Ad.sum
    omega
   ·exact yE _
   ·show(s.E[k]).Ad.sum≤_
    omega
  ·rw[Dk a];rfl
def rOf {N:Nat}(c:9007199254740992<N) {b:AH}{s:BQ}(h:LU b s) (d:s.E.length≤500) (a:b.Z.length≤1000000):Kd N b s=LS N b s:=by
 unfold Kd LS;rw[pW];congr 1;funext l;unfold JF Id;have e:IF N s l=H0 N s l:=by
  funext q;unfold IF H0;rw[pU];rfl
 rw[e];exact pV c h d a _ N 0 [] QI.nil (wL _)
def Qd {α:Type}(L:Nat) (f:Nat→Int→Option Bool) (b:∀n (k:Nat),k<L→f (n+1) (k:Int)=f n ((k+1:Nat):Int)) (z:Option Bool) (c:∀n (k:Nat),L≤k→f (n+1) (k:Int)=z):∀n (k:Nat),L<n+k→k≤L→f n (k:Int)=z
 |0,k,h,d=>by omega
 |n+1,k,h,d=>by
  rcases xB k L with a|a
  ·rw[b n k a];exact Qd (α:=α) L f b z c n (k+1) (by omega) (by omega)
  ·exact c n k a
def Oo {N:Nat}(b:18446744073709551616<N) (l:List AB) (c:l.length<4398048311104):Fu N l l=some true:=by
 unfold Fu;rw[wM (by simp),wE];exact Qd (α:=Unit) l.length (D0 N l l (HG N)) (λn k a=>by
  simp only[D0];rw[D2 a,wD,BC a,BF (by omega)];simp only[wC,T6,decide_true,zG,xE,wE]) _ (λn k a=>by
  simp only[D0];rw[Dk a];rfl) N 0 (by omega) (wL _)
def Uj {N:Nat}(b:18446744073709551616<N) (h:AX) (c:h.G.length<4398048311104) (d:h.E.length<4398048311104) (g:h.D.length<4398048311104):IU N h h=some true:=by
 unfold IU;rw[Oo b _ c,wC];simp only[ne_eq,Aa9,Aaj,xE,Bool.or_self,wE];rw[show D6 N h h (Ft N h h) N 0=Ft N h h from Qd (α:=Unit) h.E.length (D6 N h h (Ft N h h)) (λn k a=>by
  simp only[D6];rw[D2 a,wD,BC a,BF (by omega)];simp only[wC];rw[show M8 (h.E[k]).v (h.E[k]).v=true by simp [AY.v,M8,VV]];rfl) _ (λn k a=>by
  simp only[D6];rw[Dk a];rfl) N 0 (by omega) (wL _)]
 exact Qd (α:=Unit) h.D.length (Ed N h h (IN N)) (λn k a=>by
  simp only[Ed];rw[D2 a,wD,BC a,BF (by omega)];simp only[wC];rw[show M8 (h.D[k]).v (h.D[k]).v=true by simp [AF.v,M8,VV]];rfl) _ (λn k a=>by
  simp only[Ed];rw[Dk a];rfl) N 0 (by omega) (wL _)
def aK:Gx=Ie:=rfl
def uO:K6=Mg:=rfl
def eX (N:Nat) (l:AS) (k:AF) (p:Int):Hl N p k.S l.Am=Ik N l k p:=by
 unfold Hl Ik Mw;simp only[wE,Y7,WL,aK,Option.bind_assoc,wC]
def kH:JG=Km:=by
 funext N l k b;unfold JG Km;simp only[eX,Y7,WL,aK]
def X3 (N:Nat) (b:AH) (h:AX) (p a:List AB) (in_:Cn) (k:List AF→Option (List AF)):∀n i l,CO N ⟨b,h,p⟩ in_ k n i l=CC N ⟨b,h,a⟩ in_ k n i l
 |0,i,l=>rfl
 |n+1,i,l=>by
  simp only[CO,CC,Dn,GB,EO,X3 N b h p a in_ k n,HQ,Fe,DO,Cx,wC];congr 1;cases j:ix in_.Bb i with
  |none=>rfl
  |some x=>
   simp only[wC];cases hd:(decide (0≤x.Aa)&&decide (x.Aa<(b.D.length:Int)))
   ·rfl
   ·simp only[xE,wE];cases m:ix b.D x.Aa with
    |none=>rfl
    |some lk=>
     simp only[wC];by_cases c:lk.I=5
     ·simp only[c,decide_true,wD,wC,ne_eq,Aa9,Aaj,wE];by_cases d:x.I=2
      ·simp only[d,decide_true,wD];cases ix l x.Aa<;>rfl
      ·by_cases g:x.I=3
       ·simp only[g,decide_true,wD,show decide ((3:Int)=2)=false from rfl,wE]
       ·simp only[d,g,Aaj,wE]
     ·simp only[c,Aaj,wE,wC,ne_eq,not_false_eq_true,decide_true,wD]
def X2 (N:Nat) (b:AH) (h:AX) (p a:List AB) (in_:Cn) (k:List AF→Option (List AF)):∀n i l,C6 N ⟨b,h,p⟩ in_ k n i l=CY N ⟨b,h,a⟩ in_ k n i l
 |0,i,l=>rfl
 |n+1,i,l=>by
  simp only[C6,CY,GA,GP,X2 N b h p a in_ k n,HQ,Fe,uO,wC];congr 1;cases c:ix in_.Az i with
  |none=>rfl
  |some x=>
   simp only[wC];congr 1;cases ix b.D x.Aa<;>cases ix l x.Aa<;>rfl
def X1 (N:Nat) (b:AH) (h:AX) (p a:List AB) (sure:List Bool):∀n i l,C5 N ⟨b,h,p⟩ sure n i l=Dy N ⟨b,h,a⟩ sure n i l
 |0,i,l=>rfl
 |n+1,i,l=>by
  simp only[C5,Dy,F9,X1 N b h p a sure n,kH];congr 1;cases decide (i<(sure.length:Int))
  ·simp only[wE,wC]
  ·simp only[wD];cases ix sure i<;>cases ix b.D i<;>cases ix l i<;>rfl
def kD (N:Nat) (b:AH) (h:AX) (p a:List AB) (in_:Cn) (sure:List Bool):HD N ⟨b,h,p⟩ in_ sure=Ht N ⟨b,h,a⟩ in_ sure:=by
 unfold HD Ht;rw[X3];congr 1;funext l;unfold Do C0;rw[X2];congr 1;funext l;unfold EY Cz;exact X1 N b h p a sure N 0 l
def ZN (s:Int×Int×Bool) (a:Int):Int×Int×Bool:=if s.2.2 then (min s.1 a,max s.2.1 a,true) else (a,a,true)
def Px (l:AS) (x o:Int):Int:=if l.Ae≤x then 1 else if x≤l.Ab then 0 else o
def Lv (k:AF) (o:Int):Bool:=decide (k.N.B≤o)&&decide (o≤k.N.A)
def Wy (l:AS) (k:AF) (x:Int) (s:Int×Int×Bool):Int×Int×Bool:=
 let a:=if Lv k 0 then ZN s (Px l x 0) else s
 if Lv k 1 then ZN a (Px l x 1) else a
def siph {N:Nat}(l:AS) (c:l.I=3) (x o:Int) (d:o=0∨o=1) {A:Int→Option (Bool×(Int×Int×Bool))}:((KI N l (⟨0,0,false,(decide (o=1))⟩:Cs) x).bind λy=>cond y.N (A 1) (A 0))=A (Px l x o):=by
 unfold KI Px IS;rw[c];simp only[ne_eq,Aa9,Aaj,wE];by_cases a:l.Ae≤x
 ·simp [a]
 ·by_cases b:x≤l.Ab
  ·simp [a,b]
  ·rcases d with rfl|rfl<;>simp [a,b]
def j3M (N:Nat) (s:Int×Int×Bool) (kj:Int→Int→Bool→Option (Bool×(Int×Int×Bool))) (a:Int):HN N s.1 s.2.1 s.2.2 kj a=kj (ZN s a).1 (ZN s a).2.1 (ZN s a).2.2:=by
 obtain⟨i,j,b⟩:=s;unfold HN ZN;cases b<;>rfl
def rC {N:Nat}(l:AS) (c:l.I=3) (k:AF) (x:Int) (n:Nat) (o:Int) (b:o=0∨o=1) (s:Int×Int×Bool):CZ N l k x (n+1) o s.1 s.2.1 s.2.2=(λs':Int×Int×Bool=>CZ N l k x n (o+1) s'.1 s'.2.1 s'.2.2) (if Lv k o then ZN s (Px l x o) else s):=by
 rw[CZ];rw[wJ (show o<2 by omega),wD,GM,wC];have d:BV (o+1)=o+1:=by rcases b with rfl|rfl<;>decide
 rw[siph (A:=λa=>HN N s.1 s.2.1 s.2.2 (EK N o (CZ N l k x n)) a) l c x o b,j3M];unfold EK Lv;rw[d];cases decide (k.N.B≤o)&&decide (o≤k.N.A)<;>rfl
def y0M {N:Nat}(b:10<N) (l:AS) (a:l.I=3) (k:AF) (x:Int) (s:Int×Int×Bool):Ga N l k x s.1 s.2.1 s.2.2=some (true,Wy l k x s):=by
 obtain⟨n,rfl⟩:∃n,N=n+3:=⟨N-3,by omega⟩
 unfold Ga;rw[show n+3=(n+2)+1 from rfl,rC l a k x (n+2) 0 (.inl rfl) s];show CZ _ l k x ((n+1)+1) (0+1) _ _ _=_
 rw[show (0:Int)+1=1 from rfl,rC l a k x (n+1) 1 (.inr rfl)];show CZ _ l k x (n+1) (1+1) _ _ _=_
 rw[CZ,show decide ((1:Int)+1<2)=false from rfl,wE];rfl
def lS (l:AS) (k:AF) (v:AB):Int×Int×Bool:=
 let s:=Wy l k v.A (Wy l k v.B (0,0,false))
 if v.B≤l.Ab+1∧l.Ab+1≤v.A then Wy l k (l.Ab+1) s else s
def kY {N:Nat}(c:10<N) (l:AS) (b:l.I=3) (k:AF) (v:AB) (d:v.B≤v.A) (i: -4611686018427387903≤l.Ab∧l.Ab≤4611686018427387903):J5 N l k v=some { k with N:=if (lS l k v).2.2 then ⟨(lS l k v).1,(lS l k v).2.1⟩ else k.N}:=by
 unfold J5 LI Jd;rw[b];simp only[ne_eq,Aa9,Aaj,wE,wC,Ei,wJ d,xE];have y:=λ(x:Int) (s:Int×Int×Bool)=>y0M c l b k x s;rw[show Ga N l k v.B (0,0,false).1 (0,0,false).2.1 (0,0,false).2.2=_ from y v.B (0,0,false)];simp only[wC,wD,y];rw[wJ (show l.Ab<9223372036854775807 by omega),wD,show BV (l.Ab+1)=l.Ab+1 from Cw (by omega) (by omega),GM];simp only[wC];unfold lS;by_cases a:v.B≤l.Ab+1∧l.Ab+1≤v.A
 ·rw[show (decide (v.B≤l.Ab+1)&&decide (l.Ab+1≤v.A))=true by simp [a],wD,wG a];simp only[wC,wD];cases g:(Wy l k (l.Ab+1) (Wy l k v.A (Wy l k v.B (0,0,false)))).2.2<;>rfl
 ·rw[show (decide (v.B≤l.Ab+1)&&decide (l.Ab+1≤v.A))=false by simpa using a,wE,wF a];simp only[wC,wD];cases g:(Wy l k v.A (Wy l k v.B (0,0,false))).2.2<;>rfl
def ZL (a b c:Int):ZN (a,b,true) c=(min a c,max b c,true):=rfl
def ZM (a b c:Int):ZN (a,b,false) c=(c,c,true):=rfl
def pI (l:AS) {k:AF}(a:k.N=⟨0,0⟩) (x:Int) (s:Int×Int×Bool):Wy l k x s=ZN s (Px l x 0):=by simp [Wy,Lv,a]
def pG (l:AS) {k:AF}(a:k.N=⟨1,1⟩) (x:Int) (s:Int×Int×Bool):Wy l k x s=ZN s (Px l x 1):=by simp [Wy,Lv,a]
def pH (l:AS) {k:AF}(a:k.N=⟨0,1⟩) (x:Int) (s:Int×Int×Bool):Wy l k x s=ZN (ZN s (Px l x 0)) (Px l x 1):=by simp [Wy,Lv,a]
def Ti (l:AS) (x o:Int):(l.Ae≤x∧Px l x o=1)∨(x<l.Ae∧x≤l.Ab∧Px l x o=0)∨(x<l.Ae∧l.Ab<x∧Px l x o=o):=by
 unfold Px;split
 ·exact .inl ⟨by assumption,rfl⟩
 ·split
  ·exact .inr (.inl ⟨by omega,by assumption,rfl⟩)
  ·exact .inr (.inr ⟨by omega,by omega,rfl⟩)
def rB (l:AS) (v:AB) (a:Bool):Bool:=decide (l.Ae≤v.A)||((decide (l.Ab<l.Ae)&&decide (max v.B (l.Ab+1)≤min v.A (l.Ae-1)))&&a)
def tY (l:AS) (v:AB) (h0:Bool):Bool:=(decide (v.B≤l.Ab)&&decide (v.B<l.Ae))||((decide (l.Ab<l.Ae)&&decide (max v.B (l.Ab+1)≤min v.A (l.Ae-1)))&&h0)
def kX (N:Nat) (l:AS) (j:l.I=3) (k:AF) (v:AB) (o:v.B≤v.A) (i:Lv k 0=true∨Lv k 1=true) (p: -4611686018427387903≤l.Ab∧l.Ab≤4611686018427387903) (q: -4611686018427387903≤l.Ae∧l.Ae≤4611686018427387903):
  IG N l k v=some { k with N:=if rB l v (Lv k 1)&&tY l v (Lv k 0) then ⟨0,1⟩ else if rB l v (Lv k 1) then ⟨1,1⟩ else ⟨0,0⟩}:=by
 unfold IG KB FH H8;rw[j,wM (show ¬v.A<v.B by omega),show BV (l.Ab+1)=l.Ab+1 from Cw (by omega) (by omega),show BV (l.Ae-1)=l.Ae-1 from Cw (by omega) (by omega)];simp only[ne_eq,Aa9,Aaj,Bool.or_self,wE];have m:(decide (k.N.B≤0)&&decide (0≤k.N.A))=Lv k 0:=rfl;have n:(decide (k.N.B≤1)&&decide (1≤k.N.A))=Lv k 1:=rfl;rw[m,n];unfold rB tY;generalize decide (l.Ae≤v.A)=a
 generalize decide (l.Ab<l.Ae)=b
 generalize decide (max v.B (l.Ab+1)≤min v.A (l.Ae-1))=c
 generalize decide (v.B≤l.Ab)=d
 generalize decide (v.B<l.Ae)=e
 generalize Lv k 0=f at*
 generalize Lv k 1=s at*
 cases f<;>cases s<;>first|((rcases i with i|i<;>cases i);done)|(cases a<;>cases b<;>cases c<;>cases d<;>cases e<;>rfl)
set_option maxHeartbeats 4000000 in
def kC {N:Nat}(G:10<N) (l:AS) (u:l.I=3) (k:AF) (v:AB) (w:v.B≤v.A) (t:k.N=⟨0,0⟩∨k.N=⟨1,1⟩∨k.N=⟨0,1⟩) (x: -4611686018427387903≤l.Ab∧l.Ab≤4611686018427387903) (H: -4611686018427387903≤l.Ae∧l.Ae≤4611686018427387903):
  IG N l k v=J5 N l k v:=by
 have J:Lv k 0=true∨Lv k 1=true:=by rcases t with h|h|h<;>simp [Lv,h]
 rw[kX N l u k v w J x H,kY G l u k v w x];congr 2;have n:∀b,rB l v b=true↔(l.Ae≤v.A∨((l.Ab<l.Ae∧max v.B (l.Ab+1)≤min v.A (l.Ae-1))∧b=true)):=λb=>by simp [rB]
 have o:∀b,tY l v b=true↔((v.B≤l.Ab∧v.B<l.Ae)∨((l.Ab<l.Ae∧max v.B (l.Ab+1)≤min v.A (l.Ae-1))∧b=true)):=λb=>by simp [tY]
 simp only[wI,n,o];have y:(lS l k v).2.2=true:=by
  unfold lS;rcases t with h|h|h
  ·simp only[pI l h,ZM,ZL];split<;>rfl
  ·simp only[pG l h,ZM,ZL];split<;>rfl
  ·simp only[pH l h,ZM,ZL];split<;>rfl
 rw[wG y];have d:=Ti l v.B;have g:=Ti l v.A;have i:=Ti l (l.Ab+1);unfold lS;rcases t with h|h|h
 ·have p:Lv k 0=true:=by simp [Lv,h]
  have q:Lv k 1=false:=by simp [Lv,h]
  rw[p,q];simp only[pI l h,ZM,ZL,yL,and_false,xF,and_true];have d:=d 0;have g:=g 0;have i:=i 0;generalize Px l v.B 0=a at*
  generalize Px l v.A 0=b at*
  generalize Px l (l.Ab+1) 0=c at*
  (repeat' split)<;>simp only[AB.mk.injEq]<;>omega
 ·have p:Lv k 0=false:=by simp [Lv,h]
  have q:Lv k 1=true:=by simp [Lv,h]
  rw[p,q];simp only[pG l h,ZM,ZL,yL,and_false,xF,and_true];have d:=d 1;have g:=g 1;have i:=i 1;generalize Px l v.B 1=a at*
  generalize Px l v.A 1=b at*
  generalize Px l (l.Ab+1) 1=c at*
  (repeat' split)<;>simp only[AB.mk.injEq]<;>omega
 ·have p:Lv k 0=true:=by simp [Lv,h]
  have q:Lv k 1=true:=by simp [Lv,h]
  rw[p,q];simp only[pH l h,ZM,ZL,and_true];have K:(l.Ae≤v.B∧Px l v.B 0=1)∨(v.B<l.Ae∧Px l v.B 0=0):=by have:=d 0;omega
  have M:(l.Ae≤v.A∧Px l v.A 0=1)∨(v.A<l.Ae∧Px l v.A 0=0):=by have:=g 0;omega
  have Q:(l.Ae≤l.Ab+1∧Px l (l.Ab+1) 0=1)∨(l.Ab+1<l.Ae∧Px l (l.Ab+1) 0=0):=by have:=i 0;omega
  have U:((v.B<l.Ae∧v.B≤l.Ab)∧Px l v.B 1=0)∨((l.Ae≤v.B∨l.Ab<v.B)∧Px l v.B 1=1):=by have:=d 1;omega
  have V:((v.A<l.Ae∧v.A≤l.Ab)∧Px l v.A 1=0)∨((l.Ae≤v.A∨l.Ab<v.A)∧Px l v.A 1=1):=by have:=g 1;omega
  have s:Px l (l.Ab+1) 1=1:=by have:=i 1;omega
  rw[s];generalize Px l v.B 0=a at*
  generalize Px l v.A 0=b at*
  generalize Px l (l.Ab+1) 0=c at*
  generalize Px l v.B 1=j at*
  generalize Px l v.A 1=m at*
  clear d g i n o y s;have W:a≤j:=by omega
  have X:b≤m:=by omega
  have Y:c≤1:=by omega
  have z:min (min (min a j) b) m=min a b:=by omega
  have C:max (max (max a j) b) m=max j m:=by omega
  have D:min (min (min (min (min a j) b) m) c) 1=min (min a b) c:=by omega
  have F:max (max (max (max (max a j) b) m) c) 1=1:=by omega
  rw[D,F,z,C];clear z C D F
  (repeat' split)<;>(try dsimp only)<;>(simp only[AB.mk.injEq];constructor<;>first|trivial|omega)
def iA (N:Nat) (c:List A9) (k:Option Bool):∀n i,FL N c k n i=DK N c k n i
 |0,i=>rfl
 |n+1,i=>by
  simp only[FL,DK,KD,iA N c k n,wC];congr 1;cases m:ix c i with
  |none=>rfl
  |some x=>
   simp only[wC];rw[show decide (x.M<0)= !decide (0≤x.M) by rw[←decide_not];exact Aah.2 (by omega),show decide (1125899906842624<x.M)= !decide (x.M≤1125899906842624) by rw[←decide_not];exact Aah.2 (by omega),show decide (x.Q<0)= !decide (0≤x.Q) by rw[←decide_not];exact Aah.2 (by omega),show decide (1125899906842624<x.Q)= !decide (x.Q≤1125899906842624) by rw[←decide_not];exact Aah.2 (by omega)];generalize decide (0≤x.M)=a
   generalize decide (x.M≤1125899906842624)=b
   generalize decide (0≤x.Q)=d
   generalize decide (x.Q≤1125899906842624)=j
   generalize decide (0<i)=o
   cases ix c (BV (i-1)) with
   |none=>cases a<;>cases b<;>cases d<;>cases j<;>cases o<;>rfl
   |some y=>
    simp only[wC];generalize decide (x.M≤y.M)=l
    cases a<;>cases b<;>cases d<;>cases j<;>cases o<;>cases l<;>rfl
def qA {N:Nat}(c:List A9) (i:c.length<N) (j:c.length<4398048311104):DK N c (some false) N 0=some false:=by
 rcases Ic c.length (DK N c (some false)) (some false) (λ_=>True) (λn k b=>by
  simp only[DK];rw[Dk b];rfl) (λn k b=>by
  simp only[DK];rw[D2 b,wD,BC b,BF (by omega)];simp only[wC];generalize (((decide ((c[k]).M<0)||decide (1125899906842624<(c[k]).M))||decide ((c[k]).Q<0))||decide (1125899906842624<(c[k]).Q))=a
  cases a
  ·rw[wE];rcases Aa8 k with h0|h0
   ·subst h0;exact .inr ⟨trivial,rfl⟩
   ·rw[wJ (show(0:Int)<(k:Int) by omega),wD,show BV ((k:Int)-1)=((k-1:Nat):Int) by rw[Cw (by omega) (by omega)];omega,BC (show k-1<c.length by omega)];simp only[wC];generalize decide ((c[k]).M≤(c[k-1]).M)=d
    generalize decide ((c[k]).Q<(c[k-1]).Q)=g
    cases d<;>cases g<;>first|exact .inl rfl|exact .inr ⟨trivial,rfl⟩
  ·exact .inl rfl) N 0 (by omega) (wL _) with h|⟨_,h⟩
 ·exact h
 ·exact h
def kI {N:Nat}(c:List A9) (a:c.length<N) (b:c.length<4398048311104):JI N c=EV N c:=by
 unfold JI EV H9 Hj;rw[iA];by_cases h:1≤c.length∧c.length≤32
 ·rw[show (decide (1≤(c.length:Int))&&decide ((c.length:Int)≤32))=true by simp;omega,show(decide ((c.length:Int)<1)||decide (32<(c.length:Int)))=false by simp;omega,wE]
 ·rw[show (decide (1≤(c.length:Int))&&decide ((c.length:Int)≤32))=false by simp;omega,show(decide ((c.length:Int)<1)||decide (32<(c.length:Int)))=true by simp;omega,wD];exact qA c a b
def vH (a b:Nat) (g:a<9223372036854775808) (i:b<9223372036854775808):Jp .and .i64 (a:Int) (b:Int)=((a&&&b:Nat):Int):=by
 have c:(BitVec.ofInt 64 (a:Int)).toNat=a:=by rw[Aa5,Aa6];exact zL (by omega)
 have d:(BitVec.ofInt 64 (b:Int)).toNat=b:=by rw[Aa5,Aa6];exact zL (by omega)
 have j:a&&&b<2^63:=Nat.and_lt_two_pow _ (by omega);show IntKind.i64.wrap (((BitVec.ofInt 64 (a:Int))&&&(BitVec.ofInt 64 (b:Int))).toNat:Int)=_
 rw[BitVec.toNat_and,c,d];exact Cw (by omega) (by omega)
def tH (m j:Nat) (a:m<9223372036854775808) (b:2^j<9223372036854775808):decide ((Jp .and .i64 (m:Int) ((2^j:Nat):Int))≠0)=decide (m/2^j%2=1):=by
 rw[vH _ _ a b,←Nat.testBit_eq_decide_div_mod_eq];cases h:m.testBit j
 ·have:m&&&2^j=0:=Nat.eq_of_testBit_eq λi=>by
   rw[Nat.testBit_and,Nat.testBit_two_pow,Nat.zero_testBit];by_cases e:j=i
   ·subst e;rw[h];rfl
   ·simp [e]
  rw[this];rfl
 ·refine wJ λh0=>?_;have h0:m&&&2^j=0:=by omega
  have:(m&&&2^j).testBit j=true:=by rw[Nat.testBit_and,Nat.testBit_two_pow,h];simp
  rw[h0,Nat.zero_testBit] at this;cases this
def qD (x y:Nat) (a:y≠0) (b:x<9223372036854775808):Qq .i64 (x:Int) (y:Int)=some ((x/y:Nat):Int):=by
 unfold Qq;rw[wF (by omega)];have e:(x:Int).tdiv (y:Int)=((x/y:Nat):Int):=rfl;have:x/y≤x:=Nat.div_le_self _ _;rw[e];congr 1;generalize x/y=z at*
 exact Cw (by omega) (by omega)
def aA (N:Nat) {d q b t:Nat}(hd:1≤d) (c:q≤1125899906842624) (g:t≤9007199254740992) (i:b≤1125899906842624) (a:Int→Int→Int→Option (Int×Int×Bool)):
  Gk N d q b a t=if 1125899906842624<2*q+t/d then some (0,0,false) else a ((2*q+t/d:Nat):Int) ((t%d:Nat):Int) ((b/2:Nat):Int):=by
 have j:t/d≤t:=Nat.div_le_self _ _;unfold Gk;rw[qD t d (by omega) (by omega),pP t d (by omega),show((2:Int))=((2:Nat):Int) from rfl,qD b 2 (by omega) (by omega)];simp only[wC];generalize t/d=z at*
 generalize t%d=k at*
 generalize b/2=l at*
 rw[P7,Cw (n:=((2*q:Nat):Int)) (by omega) (by omega),TA,Cw (n:=((2*q+z:Nat):Int)) (by omega) (by omega)];by_cases h:1125899906842624<2*q+z
 ·rw[wG h,wJ (show(1125899906842624:Int)<((2*q+z:Nat):Int) by omega),wD]
 ·rw[wF h,wM (show ¬(1125899906842624:Int)<((2*q+z:Nat):Int) by omega),wE]
def Xs (N:Nat) {a m d:Nat}(z:a≤1125899906842624) (A:m≤1125899906842624) (hd:1≤d) (p:d≤1125899906842624) (kj:Int→Int→Option (Int×Int×Bool)) (n j:Nat) (s:j≤50) (o:a*(m/2^(j+1))/d≤1125899906842624):
  Ce N a m d kj (n+1) ((a*(m/2^(j+1))/d:Nat):Int) ((a*(m/2^(j+1))%d:Nat):Int) ((2^j:Nat):Int)=
   if 1125899906842624<a*(m/2^j)/d then some (0,0,false) else Ce N a m d kj n ((a*(m/2^j)/d:Nat):Int) ((a*(m/2^j)%d:Nat):Int) ((2^j/2:Nat):Int):=by
 have i:2^j≤2^50:=Nat.pow_le_pow_right (by omega) s;have i:2^j≤1125899906842624:=i;have t:0<2^j:=Aaq j;have c:=tH m j (by omega) (by omega);have u:m/2^j=2*(m/2^(j+1))+m/2^j%2:=by
  rw[Nat.pow_succ,←Nat.div_div_eq_div_mul];omega
 simp only[Ce];rw[wJ (show(0:Int)<((2^j:Nat):Int) by omega),wD,c];have v:m/2^j%2<2:=yF _ (by omega);generalize m/2^j%2=b at*
 generalize m/2^j=k at*
 generalize m/2^(j+1)=M at*
 generalize 2^j=w at*
 have B:a*M%d<d:=yF _ (by omega);have l:=Aas (a*M) d;generalize a*M/d=q at*
 generalize a*M%d=r at*
 have g:a*k=d*(2*q)+(2*r+b*a):=by
  subst u;have:a*(2*M+b)=2*(a*M)+b*a:=by grind
  rw[this,←l];grind
 have x:a*k/d=2*q+(2*r+b*a)/d:=by rw[g,Nat.mul_add_div (by omega)]
 have y:a*k%d=(2*r+b*a)%d:=by rw[g,Nat.mul_add_mod]
 rw[x,y,show(2:Int)*(r:Int)=((2*r:Nat):Int) from P7 2 r,Cw (n:=((2*r:Nat):Int)) (by omega) (by omega)];rcases (by omega:b=0∨b=1) with rfl|rfl
 ·rw[show decide (0=1)=false from rfl,wE,aA N hd o (by omega) i,Nat.zero_mul,Nat.add_zero]
 ·rw[show decide (1=1)=true from rfl,wD,TA,Cw (n:=((2*r+a:Nat):Int)) (by omega) (by omega),aA N hd o (by omega) i,Nat.one_mul]
def WA (N:Nat) {a m d:Nat}(g:a≤1125899906842624) (i:m≤1125899906842624) (hd:1≤d) (b:d≤1125899906842624):∀(j n:Nat),j≤50→j+1<n→a*(m/2^(j+1))/d≤1125899906842624→
  Ce N a m d (FM N) n ((a*(m/2^(j+1))/d:Nat):Int) ((a*(m/2^(j+1))%d:Nat):Int) ((2^j:Nat):Int)=
   if a*m/d≤1125899906842624 then some (((a*m/d:Nat):Int),((a*m%d:Nat):Int),true) else some (0,0,false)
 |j,0,c,o,_=>by omega
 |0,n+1,c,o,l=>by
  rw[Xs N g i hd b _ n 0 c l];simp only[Nat.pow_zero,Nat.div_one];obtain⟨n,rfl⟩:∃k,n=k+1:=⟨n-1,by omega⟩
  by_cases h:a*m/d≤1125899906842624
  ·rw[wF (by omega),wG h];simp only[Ce];rfl
  ·rw[wG (by omega),wF h]
 |j+1,n+1,c,o,l=>by
  rw[Xs N g i hd b _ n (j+1) c l];have p:a*(m/2^(j+1))/d≤a*m/d:=Nat.div_le_div_right (Nat.mul_le_mul_left _ (Nat.div_le_self _ _));by_cases h:1125899906842624<a*(m/2^(j+1))/d
  ·rw[wG h,wF (by omega)]
  ·rw[wF h,show 2^(j+1)/2=2^j by rw[Nat.pow_succ];omega];exact WA N g i hd b j n (by omega) (by omega) (by omega)
def VL {N:Nat}(j:18446744073709551616<N) (a n d:Int):Fl N a n d=HC N a n d:=by
 rw[MA j];unfold Fl eI;cases i:(((((decide (a<0)||decide (1125899906842624<a))||decide (n<0))||decide (1125899906842624<n))||decide (d<1))||decide (1125899906842624<d))
 ·simp only[xI,xA] at i;obtain⟨⟨⟨⟨⟨q,s⟩,t⟩,u⟩,v⟩,w⟩:=i;obtain⟨c,rfl⟩:∃k:Nat,a=k:=⟨a.toNat,by omega⟩
  obtain⟨b,rfl⟩:∃k:Nat,n=k:=⟨n.toNat,by omega⟩
  obtain⟨g,rfl⟩:∃k:Nat,d=k:=⟨d.toNat,by omega⟩
  have z:b/2^(50+1)=0:=Nat.div_eq_of_lt (by omega);have e:=WA N (a:=c) (m:=b) (d:=g) (by omega) (by omega) (by omega) (by omega) 50 N (by omega) (by omega) (by rw[z];simp);rw[z] at e;simp only[Nat.mul_zero,Nat.zero_div,Nat.zero_mod] at e;rw[wE,show Ce N c b g (FM N) N 0 0 1125899906842624=_ from e];have l:(c:Int)*(b:Int)/(g:Int)=((c*b/g:Nat):Int):=by rw[Int.natCast_ediv,zO]
  have o:(c:Int)*(b:Int)%(g:Int)=((c*b%g:Nat):Int):=by rw[Int.natCast_emod,zO]
  rw[l,o];by_cases h:c*b/g≤1125899906842624
  ·rw[wG h,wG ⟨by omega,by omega,by omega,by omega⟩]
  ·rw[wF h,wF (λp=>h (by have:=p.2.2.2;omega))]
 ·rw[wD,wF];intro h;simp only[wZ,wW] at i;omega
def Uk {N:Nat}(a:18446744073709551616<N) (v n d:Int):FI N v n d=Ii N v n d:=by
 rw[Nd a];unfold FI pt;rw[VL a,MA a,wC]
def X0 {N:Nat}(a:18446744073709551616<N) (v n d:Int):IW N v n d=LH N v n d:=by
 rw[Tp a];unfold IW pt;rw[VL a,MA a,wC]
def jY {N:Nat}(a:18446744073709551616<N) (p:EW) (v m:Int):IH N p v m=JX N p v m:=by
 unfold IH JX;rw[VL a,MA a,wC,wC];congr 1;by_cases b:m<0
 ·rw[wJ b,wM (show ¬0≤m by omega)];rfl
 ·by_cases c:p.R≤m
  ·rw[wJ c,wM (show ¬m<p.R by omega),Bool.or_true,Bool.and_false];rfl
  ·rw[wM b,wM c,wJ (show 0≤m by omega),wJ (show m<p.R by omega)];rfl
def hO {N:Nat}(a:18446744073709551616<N) (l:AS) (f t:Int):Iv N l f t=LK N l f t:=by
 unfold Iv LK;rw[X0 a,X0 a]
def WI {N:Nat}(a:18446744073709551616<N) (l:AS) (f t:AB):Ez N l f t=JW N l f t:=by
 unfold Ez JW;rw[hO a,hO a]
def Y0 {l r:A9}(h:l.M<r.M):Ih l r r.M=r.Q:=by
 unfold Ih;rw[Int.mul_comm,Int.mul_ediv_cancel _ (by omega)];omega
def uN {N:Nat}(w:18446744073709551616<N) {c:List A9}(h:DY c) {x:Int}(J:0≤x∧x≤1125899906842624):∃k l r,XO (Ko c) x k l r∧JH N c x=some (Ih l r x,decide (0<Pw l r x)):=by
 have z:=h.1;have K:=h.2.1;have h0:c[0]? =some c[0]:=by simp
 unfold JH;rw[show ix c 0=some c[0] from BC (i:=0) (by omega),wC];by_cases o:x≤(c[0]).M
 ·rw[wJ o,wD,wC];refine⟨0,_,_,⟨Sz c,(N4 c (by omega)).trans h0,by show(-1:Int)≤x;omega,o⟩,?_⟩;have s:=Oz h0;rw[s];simp [Ih,Pw]
 ·rw[wM o,wE];have A:∀n (k:Nat),1≤k→k≤c.length→c.length<n+k→(∀p,c[k-1]? =some p→p.M<x)→∃j l r,XO (Ko c) x j l r∧FK N c x (Gj N c) n (k:Int)=some (Ih l r x,decide (0<Pw l r x)):=by
   intro n
   induction n with
   |zero=>intro k B C D _;omega
   |succ n F=>
    intro k B C D G;simp only[FK];have a:c[k-1]? =some c[k-1]:=by simp
    have U:=G _ a;have H:=h.vol a;have y:BV ((k:Int)-1)=((k-1:Nat):Int):=by rw[Cw (by omega) (by omega)];omega
    have u:(Ko c)[k-1+1]? =some c[k-1]:=(N4 c (by omega)).trans a;rw[show k-1+1=k by omega] at u;by_cases m:k<c.length
    ·have b:c[k]? =some c[k]:=by simp [m]
     have I:=h.vol b;have V:=h.step a (q:=c[k]) (by rw[show k-1+1=k by omega];exact b);rw[D2 m,wD,BC m,wC];by_cases v:x≤(c[k]).M
     ·rw[wJ v,wD,y,BC (show k-1<c.length by omega)];simp only[wC];refine⟨k,_,_,⟨u,(N4 c m).trans b,by omega,v⟩,?_⟩;unfold Jg at H I;generalize c[k-1]=p at*
      generalize c[k]=q at*
      rw[Cw (n:=x-p.M) (by omega) (by omega),Cw (n:=q.Q-p.Q) (by omega) (by omega),Cw (n:=q.M-p.M) (by omega) (by omega),VL w,MA w];have W:(x-p.M)*(q.Q-p.Q)/(q.M-p.M)≤q.Q-p.Q:=by
       refine Int.ediv_le_of_le_mul (by omega) ?_;rw[Int.mul_comm];exact zF (by omega) (by omega)
      have X:=QD (t:=x-p.M) (n:=q.Q-p.Q) (d:=q.M-p.M) (by omega) (by omega) (by omega);rw[W1 (by omega) (by omega) (by omega) (by omega),wC];unfold Ih Pw;rw[Cw (by omega) (by omega)]
     ·rw[wM v,wE,BF (by omega)];exact F (k+1) (by omega) (by omega) (by omega) λp g=>by
       rw[Aar,b] at g;cases g;omega
    ·have:k=c.length:=by omega
     subst this;rw[Dk (wV _),wE];have s:=Ow a;refine⟨c.length,_,_,⟨u,T5 c,by omega,by show x≤(2251799813685248:Int);omega⟩,?_⟩;unfold Gj;rw[y,BC (show c.length-1<c.length by omega),wC,s];simp [Ih,Pw]
  exact A N 1 (wV _) z (by omega) λp g=>by
   rw[Nat.sub_self,h0] at g;cases g;omega
def rAt {N:Nat}(a:18446744073709551616<N) {c:List A9}(h:DY c) {x:Int}(b:0≤x∧x≤1125899906842624):Ke N c x=Mh N c x:=by
 obtain⟨k,l,r,s,e⟩:=Rf a h b;obtain⟨i,j,r',s',g⟩:=uN a h b;have m:=h.2.1;rw[e];unfold Ke;rw[kI c (by omega) (by omega),Lx (by omega) h,wC,xE,wE,g,wC];congr 1;have d:=Mn h;rcases UK d s' s with ⟨_,rfl,rfl⟩|⟨rfl,rfl,rfl⟩
 ·rfl
 ·have:=(d _ _ _ s'.l_ s'.r_).1;rw[Y0 this,Ww]
def Tj (N:Nat) (a b:Int):∃y,Da N a b=some y:=by
 unfold Da;exact Df.cond (λ_=>Df.mk _) λ_=>Df.cond (λ_=>Df.mk _) λ_=>Df.mk _
def iB {N:Nat}(a:18446744073709551616<N) {l:AS}{c:List A9}(n:l.I=0→DY c) (d:Int) (o:Bool) {fr:Int}(to:Int) (j:0≤fr∧fr≤1125899906842624):IX N l d o c fr to=Ja N l d o c fr to:=by
 unfold IX Ja;obtain⟨y,i⟩:=Tj N fr l.Ax;rw[Y7,i,wC,Uk a];have p:∀{A:Int→Option Int},(cond (decide (l.C≠ -1)) ((Ii N to l.Aj l.Ag).bind λy=>(Da N fr y).bind λz=>A (max 0 z)) (A fr))=A (MC l fr to):=λ{A}=>by
  unfold MC;rw[Nd a];have:=Mt to l.Aj l.Ag;by_cases h:l.C= -1
  ·rw[wG h,show decide (l.C≠ -1)=false by simp [h],wE]
  ·rw[wF h,show decide (l.C≠ -1)=true by simp [h],wD,wC,K3 N (by omega) (by omega) (by omega) (by omega),wC]
 rw[p];unfold IP;by_cases h0:l.I=0
 ·rw[wJ h0,wD,wD];unfold LM;rw[Uu a l j,wC,rAt a (n h0) (OZ l to j)];congr 1;funext y;rw[Uk a,WL]
 ·rw[wM h0,wE,wE];by_cases b:l.I=1
  ·rw[show decide (l.I=2)=false by simp [b],show decide (l.I=3)=false by simp [b],show decide (l.I=5)=false by simp [b],wJ b];simp only[Bool.true_or,wD,wE];unfold GS;rw[Uk a,i,wC]
  ·by_cases g:l.I=5
   ·rw[show decide (l.I=2)=false by simp [g],show decide (l.I=3)=false by simp [g],wJ g,wM b];simp only[yU,zE,wD,wE,zB];unfold Kc GS;cases o
    ·rfl
    ·simp only[wD,xE,wE];rw[Uk a,i,wC]
   ·rw[wM b,wM g];simp only[yU,zB,wE];by_cases k:l.I=2
    ·rw[wJ k,wD,wD];unfold Ka;rw[Uk a]
    ·rw[wM k,wE,wE];by_cases m:l.I=3
     ·rw[wJ m,wD];unfold Kb;cases o
      ·rfl
      ·simp only[zE,wD];rw[Uk a]
     ·rw[wM m];rfl
def WK {N:Nat}(a:18446744073709551616<N) {l:AS}{s t:Int}(b:Vv N l s t) (k:AF) {fr:AB}(to:AB) (c:0≤fr.B∧fr.B≤1125899906842624) (d:0≤fr.A∧fr.A≤1125899906842624):GX N l k fr to=Ep N l k fr to:=by
 unfold GX Ep;rw[iB a (λh=>(b.gate h).2.1) _ _ _ c,iB a (λh=>(b.gate h).2.2.1) _ _ _ d]
end Go.Proofs.YtibidnaedddfdaaGreat
