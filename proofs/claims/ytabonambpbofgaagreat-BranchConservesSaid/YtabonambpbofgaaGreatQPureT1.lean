import Derived.Test.YtabonambpbofgaaGreatQPureEx
namespace Go.Proofs.YtabonambpbofgaaGreat
set_option linter.all false
open Go.RowKit
variable {g:A8}{L M N P k p r:Nat}{l:BG}{cs:List L9}{a:List A8}{w:AS}{S m t to:Int}{o:List xq}{e:AD}{d j ms u:List AM}{out rem:xq}{s:List AY}{c:Prop}{y:Int×Int}{in_:AX}
def QA(N:Nat)(n a b:Int):I1 N n a b=some (if n<a then a else if b<n then b else n):=by
 unfold I1;by_cases c:n<a
 ·rw[Ag8 c,Agp c];rfl
 ·rw[Agx c,Agn c];by_cases d:b<n
  ·rw[Ag8 d,Agp d];rfl
  ·rw[Agx d,Agn d];rfl
def Oo(N:Nat)(i n:Int):Hm N i n=some (decide (0<=i)&&decide (i<n)):=rfl
def kY(N:Nat)(l:BG)(g:A8)(k:Int):∃a,Iq N l g k=some a/\a.Z=g.Z/\a.Aa=g.Aa:=by
 have b:∀c:Bool,∃a,H2 N l g k (HM N g) c=some a/\a.Z=g.Z/\a.Aa=g.Aa:=λc=>by
  unfold H2;cases c
  ·exact⟨_,rfl,rfl,rfl⟩
  ·cases decide (l.H=5)<;>exact⟨_,rfl,rfl,rfl⟩
 unfold Iq;cases decide (k=0)
 ·cases decide (k=1)
  ·cases decide (k=2)
   ·exact b (decide (k=3))
   ·exact b true
  ·exact⟨_,rfl,rfl,rfl⟩
 ·exact⟨_,rfl,rfl,rfl⟩
def mT(N:Nat)(l:BG)(g:A8)(t:Int):∃a,Kb N l g t=some a/\a.Z=g.Z/\a.Ay=g.Ay/\(0<=l.W->0<=g.Aa->g.Aa<=l.W->0<=a.Aa/\a.Aa<=l.W):=by
 unfold Kb;cases decide (l.W≠0)
 ·exact⟨_,rfl,rfl,rfl,λ_ b c=>⟨b,c⟩⟩
 ·rw[Ago,QA,Agm];refine⟨_,rfl,rfl,rfl,λh0 b c=>?_⟩;show 0<=(if t<0 then 0 else if l.W<t then l.W else t)/\_<=l.W
  split
  ·exact⟨Ahq _,h0⟩
  ·split
   ·exact⟨h0,Ahq _⟩
   ·exact⟨Ω,show t<=_ from Ω⟩
def oY(N:Nat)(l:BG)(g:A8):Df (I0 N l g):=by
 unfold I0;cases g.Ay
 ·obtain⟨a,d⟩:=UN N g.Aa g.Z;obtain⟨b,i⟩:=UN N 0 l.Ag;rw[Agq,d,Agm,i,Agm,QA,Agm];obtain⟨c,j⟩:=ZX N g.Z (if a<b then b else if l.Ag<a then l.Ag else a);rw[j];exact⟨_,rfl⟩
 ·exact⟨_,rfl⟩
def cR(N:Nat)(l:BG)(g:A8)(v:Int):∃b,IL N l g v=some b/\b.Z=g.Z/\(l.H≠3->b=g):=by
 unfold IL;by_cases a:l.H=3
 ·rw[show decide (l.H≠3)=false by simp[a],Agq];cases decide (l.Az<=v)
  ·cases decide (v<=l.Ba)<;>exact⟨_,rfl,rfl,λc=>absurd a c⟩
  ·exact⟨_,rfl,rfl,λc=>absurd a c⟩
 ·rw[show decide (l.H≠3)=true by simp[a],Ago];exact⟨g,rfl,rfl,λ_=>rfl⟩
def gF(N:Nat)(l:BG)(g:A8)(k:Int):A8:=(Iq N l g k).getD g
def gA(N:Nat)(l:BG)(g:A8)(k:Int):A8:=(Kb N l g k).getD g
def gM(N:Nat)(l:BG)(g:A8):A8:=(I0 N l g).getD g
def gS(N:Nat)(l:BG)(g:A8)(v:Int):A8:=(IL N l g v).getD g
def Acp(N:Nat)(l:BG)(g:A8)(k:Int):Iq N l g k=some (gF N l g k)/\(gF N l g k).Z=g.Z/\(gF N l g k).Aa=g.Aa:=by
 obtain⟨a,e,b⟩:=kY N l g k;unfold gF;rw[e];exact⟨rfl,b⟩
def Acq(N:Nat)(l:BG)(g:A8)(k:Int):Kb N l g k=some (gA N l g k)/\(gA N l g k).Z=g.Z/\(gA N l g k).Ay=g.Ay/\(0<=l.W->0<=g.Aa->g.Aa<=l.W->0<=(gA N l g k).Aa/\(gA N l g k).Aa<=l.W):=by
 obtain⟨a,e,b⟩:=mT N l g k;unfold gA;rw[e];exact⟨rfl,b⟩
def kU(N:Nat)(l:BG)(g:A8):I0 N l g=some (gM N l g):=by
 obtain⟨a,e⟩:=oY N l g;unfold gM;rw[e];rfl
def Aco(N:Nat)(l:BG)(g:A8)(v:Int):IL N l g v=some (gS N l g v)/\(gS N l g v).Z=g.Z/\(l.H≠3->gS N l g v=g):=by
 obtain⟨a,e,b⟩:=cR N l g v;unfold gS;rw[e];exact⟨rfl,b⟩
def xK(N:Nat)(l:BG)(g:A8)(k:l.W<=64)(m:0<=l.Ag/\l.Ag<=l.W)(d:0<=g.Z/\g.Z<=l.W)(n:0<=g.Aa/\g.Aa<=l.W):(0<=(gM N l g).Z/\(gM N l g).Z<=l.W)/\(gM N l g).Z-g.Z<=l.Ag/\ -l.Ag<=(gM N l g).Z-g.Z/\(g.Ay=true->gM N l g=g):=by
 have e:=kU N l g;unfold I0 at e;cases a:g.Ay with
 |true=>
  rw[a,Ago]at e;have e:=Ags e;rw[<-e];exact⟨d,Ω,Ω,λ_=>rfl⟩
 |false=>
  rw[a,Agq,iB N Ω Ω Ω Ω,Agm,iB N Ω Ω Ω Ω,Agm,QA,Agm]at e;have b:∃c,(if g.Aa-g.Z<0-l.Ag then 0-l.Ag else if l.Ag<g.Aa-g.Z then l.Ag else g.Aa-g.Z)=c/\ -l.Ag<=c/\c<=l.Ag/\0<=g.Z+c/\g.Z+c<=l.W:=by
   refine⟨_,rfl,?_⟩;split
   ·omega
   ·split<;>omega
  obtain⟨c,b,o,p,i,j⟩:=b;rw[b,TH N Ω Ω Ω Ω,Agm]at e;have e:=Ags e;rw[<-e];exact⟨⟨i,j⟩,by show g.Z+c-g.Z<=_;omega,by show _<=g.Z+c-g.Z;omega,λq=>by cases q⟩
def oK(N:Nat)(l:BG)(k:Nat)(a:List HE)(g:A8):A8:=a.foldl (λg f=>if f.Ar=(k:Int) then gF N l g f.H else g) g
def stA(N:Nat)(l:BG)(k:Nat)(cs:List L9)(g:A8):A8:=cs.foldl (λg c=>if c.Ar=(k:Int) then gA N l g c.Aa else g) g
def UQ{a:List HE}{i:Nat}(b:i<a.length):oK N l k (a.take (i+1)) g=if a[i].Ar=(k:Int) then gF N l (oK N l k (a.take i) g) a[i].H else oK N l k (a.take i) g:=by
 unfold oK;rw[Ah8 b,Ajo];rfl
def UR{i:Nat}(a:i<cs.length):stA N l k (cs.take (i+1)) g=if cs[i].Ar=(k:Int) then gA N l (stA N l k (cs.take i) g) cs[i].Aa else stA N l k (cs.take i) g:=by
 unfold stA;rw[Ah8 a,Ajo];rfl
def cH(L:Nat)(a:List A8)(g:Nat->A8):Prop:=a.length=L/\∀k,k<L->a[k]? =some (g k)
def cH.ix{g:Nat->A8}(c:cH L a g)(b:k<L):ix a (k:Int)=some (g k):=by
 have:=c.2 k b;simp[Go.Proofs.YtabonambpbofgaaGreat.ix,this]
def cH.upd{b:List A8}{g a:Nat->A8}(m:cH L b g){j:Nat}(d:j<L)(x:A8)(i:a j=x)(l:∀k,k<L->k≠j->a k=g k):cH L (upd b (j:Int) x) a:=
 ⟨by rw[Ni];exact m.1,λk c=>by
  by_cases e:j=k
  ·subst e;rw[HO (by rw[m.1];exact d),i]
  ·rw[JA e,m.2 k c,l k c λm=>e m.symm]⟩
def cH.congr{g b:Nat->A8}(d:cH L a g)(e:∀k,k<L->b k=g k):cH L a b:=⟨d.1,λk c=>by rw[d.2 k c,e k c]⟩
def aK(b:AF)(k:Nat):BG:=b.E.getD k default
def Um{b:AF}(a:k<b.E.length):aK b k=b.E[k]:=by unfold aK;simp[Ahc,a]
def tE{α}{l:List α}{i:Int}(h0:0<=i)(a:i<l.length):∃n:Nat,i=(n:Int)/\n<l.length:=⟨i.toNat,Ω,Ω⟩
def Ov{i:Int}{n:Nat}:(decide (0<=i)&&decide (i<(n:Int)))=true↔0<=i/\i<n:=by simp
def jX(H:8000000000000<N){b:AF}(q:w.b=b)(I:b.E.length<=1000)(J:w.in_.Ab.length<=1000)(K:w.in_.Ac.length<=1000){o:Nat->A8}(h0:cH b.E.length w.s.Q o):
  ∃x,Hn N w=some x/\cH b.E.length x (λk=>gM N (aK b k) (stA N (aK b k) k w.in_.Ac (oK N (aK b k) k w.in_.Ab (o k)))):=by
 subst q;unfold Hn;obtain⟨t,y,B⟩:=EO w.in_.Ab.length (λn i s=>C5 N w (Dk N w) n i s) (Dk N w) (λi s=>cH w.b.E.length s (λk=>oK N (aK w.b k) k (w.in_.Ab.take i) (o k))) (λn k s a=>by
  simp only[C5];rw[Ek a];rfl) (λn i s g a=>by
  simp only[C5,HU];rw[ER a,Ago,BC a,Agm,Oo,Agm,BA Ω];cases l:(decide (0<=w.in_.Ab[i].Ar)&&decide (w.in_.Ab[i].Ar<(w.b.E.length:Int)))
  ·refine⟨s,g.congr λk d=>?_,rfl⟩;rw[UQ a,Agn];intro e;rw[e]at l;simp[d]at l
  ·obtain⟨u,v⟩:=Ov.1 l;obtain⟨j,m,c⟩:=tE u v;rw[Ago,m,BC c];simp only[g.ix c,Agm];rw[(Acp N _ _ _).1,Agm];refine⟨_,g.upd c _ ?_ λk d p=>?_,rfl⟩
   ·rw[UQ a,Agp m,Um c]
   ·rw[UQ a,Agn (by rw[m];omega)]) N 0 w.s.Q h0 Ω (Agr _)
 rw[show C5 N w (Dk N w) N 0 w.s.Q=Dk N w t from B];rw[Ahe]at y;unfold Dk;obtain⟨z,A,C⟩:=EO w.in_.Ac.length (λn i s=>C4 N w (Dj N w) n i s) (Dj N w) (λi s=>cH w.b.E.length s (λk=>stA N (aK w.b k) k (w.in_.Ac.take i) (oK N (aK w.b k) k w.in_.Ab (o k)))) (λn k s a=>by
  simp only[C4];rw[Ek a];rfl) (λn i s g a=>by
  simp only[C4,HT];rw[ER a,Ago,BC a,Agm,Oo,Agm,BA Ω];cases l:(decide (0<=w.in_.Ac[i].Ar)&&decide (w.in_.Ac[i].Ar<(w.b.E.length:Int)))
  ·refine⟨s,g.congr λk d=>?_,rfl⟩;rw[UR a,Agn];intro e;rw[e]at l;simp[d]at l
  ·obtain⟨u,v⟩:=Ov.1 l;obtain⟨j,m,c⟩:=tE u v;rw[Ago,m,BC c];simp only[g.ix c,Agm];rw[(Acq N _ _ _).1,Agm];refine⟨_,g.upd c _ ?_ λk d p=>?_,rfl⟩
   ·rw[UR a,Agp m,Um c]
   ·rw[UR a,Agn (by rw[m];omega)]) N 0 t y Ω (Agr _)
 rw[show C4 N w (Dj N w) N 0 t=Dj N w z from C];rw[Ahe]at A;unfold Dj;obtain⟨D,F,G⟩:=EO w.b.E.length (λn i s=>D3 N w n i s) (λs=>some s) (λi s=>cH w.b.E.length s (λk=>if k<i then gM N (aK w.b k) (stA N (aK w.b k) k w.in_.Ac (oK N (aK w.b k) k w.in_.Ab (o k))) else stA N (aK w.b k) k w.in_.Ac (oK N (aK w.b k) k w.in_.Ab (o k)))) (λn k s a=>by
  simp only[D3];rw[Ek a];rfl) (λn i s g a=>by
  simp only[D3];rw[ER a,Ago,BC a];simp only[g.ix a,Agm];rw[kU,Agm,BA Ω,Agn (Nat.lt_irrefl i)];refine⟨_,g.upd a _ ?_ λk d p=>?_,rfl⟩
  ·rw[Agp (Nat.lt_succ_self i),Um a]
  ·by_cases M:k<i
   ·rw[Agp M,Agp Ω]
   ·rw[Agn M,Agn Ω]) N 0 z (A.congr λk _=>by rw[Agn (Nat.not_lt_zero k)]) Ω (Agr _)
 exact⟨D,G,F.congr λk a=>by rw[Agp a]⟩
def jI:∀{a b:xq},a.Perm b->a.sum=b.sum:=λi=>by
 induction i with
 |nil=>rfl
 |cons x _ c=>simp only[Ahs,c]
 |swap x y l=>simp only[Ahs];omega
 |trans _ _ d g=>exact d.trans g
def Ls:∀{l:xq}{c:Int},(∀x∈l,x<=c)->l.sum<=l.length*c
 |[],c,_=>by simp
 |a::l,c,i=>by
  have d:=i a (Ahf ..);have g:=Ls (l:=l) (c:=c) λx b=>i x (Aht _ b);rw[Ahs,Ain,Int.natCast_succ,Int.add_mul,Int.one_mul];omega
def aR{lt:Int->Int->Bool}(R:Int->Int)(g:∀x y,lt x y=true->R y<=R x)(d:∀x y,lt x y=false->R x<=R y)(x:Int):∀l:xq,l.Pairwise (λa b=>R b<=R a)->(VU lt x l).Pairwise λa b=>R b<=R a
 |[],_=>by simp[VU]
 |y::l,k=>by
  have j:∀z,z∈l->R z<=R y:=λz c=>List.rel_of_pairwise_cons k c;unfold VU;cases i:lt y x with
  |true=>
   refine List.Pairwise.cons (λz c=>?_) (aR R g d x l k.of_cons);rcases Agv.1 ((Qm lt x l).mem_iff.1 c)with rfl|c
   ·exact g _ _ i
   ·exact j z c
  |false=>
   refine List.Pairwise.cons (λz c=>?_) k;rcases Agv.1 c with rfl|c
   ·exact d _ _ i
   ·exact Int.le_trans (j z c) (d _ _ i)
def YH{lt:Int->Int->Bool}(R:Int->Int)(c:∀x y,lt x y=true->R y<=R x)(d:∀x y,lt x y=false->R x<=R y):∀l:xq,(Ou lt l).Pairwise λa b=>R b<=R a
 |[]=> .nil
 |x::l=>aR R c d x _ (YH R c d l)
def iT(c:xq)(x y:Int):(TV c x y=true->c.getD y.toNat 0<=c.getD x.toNat 0)/\(TV c x y=false->c.getD x.toNat 0<=c.getD y.toNat 0):=by
 show(cond (!decide (c.getD x.toNat 0=c.getD y.toNat 0)) (decide (c.getD y.toNat 0<c.getD x.toNat 0)) (decide (x.toNat<y.toNat))=true->_)/\(cond (!decide (c.getD x.toNat 0=c.getD y.toNat 0)) (decide (c.getD y.toNat 0<c.getD x.toNat 0)) (decide (x.toNat<y.toNat))=false->_)
 generalize c.getD x.toNat 0=a
 generalize c.getD y.toNat 0=b
 by_cases d:a=b
 ·subst d;exact⟨λ_=>Ahq _,λ_=>Ahq _⟩
 ·rw[Agx d,Bool.not_false,Ago];exact⟨λd=>by have:=Aie d;omega,λd=>by have:=Akb d;omega⟩
def hE{n:Nat}(X:0<S){b a:xq}(H:b.length=n)(s:∀i,i<n->b[i]? =some (i:Int))(I:a.length=n)(J:∀x∈a,0<=x/\x<=S-1)(t:a.sum=p*S):∀x∈(Ou (TV a) b).take p,0<a.getD x.toNat 0:=by
 intro x K;have M:=N4 (TV a) b;have u:=YH (lt:=TV a) (λx=>a.getD x.toNat 0) (λx y h=>(iT a x y).1 h) (λx y h=>(iT a x y).2 h) b;have m:b.map (λx=>a.getD x.toNat 0)=a:=Ah1 λi=>by
  rcases Ag7 i n with h|h
  ·rw[Aig,s i h];have:i<a.length:=Ω
   simp[Ahc,this]
  ·rw[Ahj (by simp;omega),Ahj Ω]
 have C:((Ou (TV a) b).map λx=>a.getD x.toNat 0).sum=p*S:=by
  rw[jI (M.map _),m,t]
 have v:∀y:Int,0<=a.getD y.toNat 0/\a.getD y.toNat 0<=S-1:=λy=>by
  rw[Ahc];cases h:a[y.toNat]? with
  |none=>exact⟨Ahq _,by show(0:Int)<=S-1;omega⟩
  |some z=>exact J z (Ahx h)
 generalize Ou (TV a) b=l at*
 obtain⟨j,o⟩:=Aio.1 K;rw[Ai4]at o;split at o
 ·rename_i Q;apply Ajl;intro Y;have g:a.getD x.toNat 0=0:=by have:=(v x).1;omega
  have d:∀y∈l.drop j,a.getD y.toNat 0=0:=λy q=>by
   obtain⟨k,w⟩:=Aio.1 q;rw[Ai0]at w;have U:=(Ag0.1 o).1;have V:=(Ag0.1 w).1;have D:=(Ag0.1 o).2;have F:=(Ag0.1 w).2;rcases Akd k with h0|h0
   ·subst h0;have:y=x:=by rw[<-D,<-F];rfl
    rw[this];exact g
   ·have:=Aka.1 u j (j+k) U V Ω;rw[D,F,g]at this;have:=(v y).1;omega
  have W:((l.drop j).map λx=>a.getD x.toNat 0).sum<=0:=by
   have:=Ls (l:=(l.drop j).map λx=>a.getD x.toNat 0) (c:=0) λz g=>by
    obtain⟨y,q,rfl⟩:=Ahr.1 g;exact Int.le_of_eq (d y q)
   omega
  have A:((l.take j).map λx=>a.getD x.toNat 0).sum<=(j:Int)*(S-1):=by
   have:=Ls (l:=(l.take j).map λx=>a.getD x.toNat 0) (c:=S-1) λz g=>by
    obtain⟨y,q,rfl⟩:=Ahr.1 g;exact(v y).2
   have Z:((l.take j).map λx=>a.getD x.toNat 0).length<=j:=by simp;omega
   have:(((l.take j).map λx=>a.getD x.toNat 0).length:Int)*(S-1)<=(j:Int)*(S-1):=Ajg Ω Ω;omega
  have G:(l.map λx=>a.getD x.toNat 0).sum=((l.take j).map λx=>a.getD x.toNat 0).sum+((l.drop j).map λx=>a.getD x.toNat 0).sum:=by
   rw[<-Ah9,<-Ah5,List.take_append_drop]
  have B:((j:Int)+1)*S<=p*S:=Ajg Ω Ω;rw[Int.add_mul,Int.one_mul]at B;rw[Int.mul_sub,Int.mul_one]at A;omega
 ·cases o
def cS(M:8000000000000<N)(l:xq)(Q:l.length<=1000)(y:l.Nodup){n:Nat}(c:∀x∈l,0<=x/\x<n)(a:xq)(D:a.length=n)(F:∀x∈a, -4611686018427387904<=x/\x<=4611686018427387000):
  ∃r,GZ N l (IF N) N 0 a=some (r,true)/\r.length=n/\r.sum=a.sum+l.length/\∀(i:Nat) x,a[i]? =some x->r[i]? =some (x+if(i:Int)∈l then 1 else 0):=by
 obtain⟨s,⟨z,A,p⟩,e⟩:=EO l.length (λm i s=>GZ N l (IF N) m i s) (IF N) (λk s=>s.length=n/\s.sum=a.sum+k/\∀(i:Nat) x,a[i]? =some x->s[i]? =some (x+if(i:Int)∈l.take k then 1 else 0)) (λm k s d=>by
  simp only[GZ];rw[Ek d];rfl) (λm k s G d=>by
  obtain⟨z,A,p⟩:=G;simp only[GZ];obtain⟨H,U⟩:=c _ (Agy d);obtain⟨j,B,b⟩:=tE (l:=s) H Ω;have g:j<a.length:=Ω
  have t:(j:Int)∉l.take k:=λI=>by
   obtain⟨q,w⟩:=Aio.1 I;rw[Ai4]at w;split at w
   ·rename_i C;have J:=(Ag0.1 w).2;exact Aka.1 y q k Ω d C (by rw[J,B])
   ·cases w
  have u:s[j]=a[j]:=by
   have:=p j _ (Agw g);rw[Agn t,Agw b]at this;have:=Ags this;omega
  have K:=F _ (Agy g);rw[ER d,Ago,BC d,Agm,B,BC b,Agm,Agm,Agm,Agm,u,D6 (n:=a[j]+1) Ω Ω,BA Ω];refine⟨_,⟨by rw[Ni];exact z,?_,λi x c=>?_⟩,rfl⟩
  ·show(s.set (j:Int).toNat _).sum=_
   rw[Ahl,O8 b,A,u];omega
  ·have v:l.take (k+1)=l.take k++[(j:Int)]:=by rw[Ah8 d,B]
   by_cases o:j=i
   ·subst o;rw[HO b,v,Agp (by simp)];rw[Agw g]at c;cases c;rfl
   ·rw[JA o,p i x c,v];have:(i:Int)≠(j:Int):=λV=>o Ω;simp[this]) N 0 a ⟨D,by simp,λi x c=>by simp[c]⟩ Ω (Agr _)
 rw[Ahe]at p;exact⟨s,e,z,A,p⟩
structure ShX(t S:Int)(w:xq)(k:Nat)(s:Int×xq×xq×xq):Prop where
 l1:s.2.1.length=w.length
 l2:s.2.2.1.length=w.length
 l3:s.2.2.2.length=w.length
 or_:∀i,i<k->s.2.1[i]? =some (i:Int)
 rm:∀i x,i<k->w[i]? =some x->s.2.2.1[i]? =some (t*x%S)
 qt:∀i x,i<k->w[i]? =some x->s.2.2.2[i]? =some (t*x/S)
 ex:s.1=t-((w.take k).map λx=>t*x/S).sum
def aD{t S:Int}(b:0<S):∀w:xq,S*(w.map λx=>t*x/S).sum+(w.map λx=>t*x%S).sum=t*w.sum
 |[]=>by simp
 |a::w=>by
  have c:=aD (t:=t) b w;have d:=Int.mul_ediv_add_emod (t*a) S;simp only[Ag9,Ahs];rw[Int.mul_add,Int.mul_add];omega
def iR{W:Nat}(hN:18446744073709551616<N)(hW:W<=64){w:xq}(o:PX W w)(C:0<=t/\t<=w.sum):∃q,Ld N t w=some (q,true)/\Yq q w/\q.sum=t:=by
 have ar:=o.len;have ag:=o.mv;unfold Ld;rw[Agx (show ¬64<(w.length:Int)from Ω),Agq];obtain⟨s,⟨i1,i2⟩,e⟩:=EO w.length (λn i s=>Gb N w (Gd N t w) n s i) (Gd N t w) (λk s=>s=(w.take k).sum/\0<=s) (λn k s g=>by
  simp only[Gb];rw[Ek g];rfl) (λn k s p g=>by
  obtain⟨i1,i2⟩:=p;have h1:=KU o.nn (k+1);have B:=KU o.nn k;have G:=o.nn _ (Agy g);rw[LZ g]at h1;simp only[Gb];rw[ER g,Ago,BC g,Agm,D6 (n:=1125899906842624-s) Ω Ω,Agx (show ¬w[k]<0 from Ω),Agx (show ¬1125899906842624-s<w[k]from Ω),Bool.or_self,Agq,BA Ω,D6 (n:=s+w[k]) Ω Ω];exact⟨_,⟨by rw[LZ g,i1],Ω⟩,rfl⟩) N 0 0 ⟨rfl,Ahq _⟩ Ω (Agr _)
 rw[show Gb N w (Gd N t w) N 0 0=Gd N t w s from e];rw[Ahe]at i1;subst i1;unfold Gd;rw[Agx (show ¬t<0 from Ω),Agx (show ¬w.sum<t from Ω),Bool.or_self,Agq,Lu Ω _ (by decide)];by_cases U:w.sum=0
 ·rw[Ag8 U,Ago];refine⟨_,rfl,⟨PC _ _,λi x y a D=>?_⟩,by simp;omega⟩;rw[Aiy]at a;split at a
  ·cases a;exact⟨Ahq _,o.nn y (Ahx D)⟩
  ·cases a
 rw[Agx U,Agq,Lu Ω _ (by decide),Lu Ω _ (by decide)];have u:0<w.sum:=by have:=o.sum0;omega
 have h1:1<=w.length:=by
  cases w with
  |nil=>exact absurd rfl U
  |cons _ _=>simp
 obtain⟨⟨v,A,b,q⟩,⟨K,M,V,F,X,Y,Q⟩,e3⟩:=EO w.length (λn i (s:Int×xq×xq×xq)=>Ga N t w w.sum (Gc N) n s.1 i s.2.1 s.2.2.1 s.2.2.2) (λs=>Gc N s.1 s.2.1 s.2.2.1 s.2.2.2) (λk s=>ShX t w.sum w k s) (λn k s g=>by
  simp only[Ga];rw[Ek g];rfl) (λn k s p g=>by
  obtain⟨v,A,b,q⟩:=s;obtain⟨K,M,V,F,X,Y,Q⟩:=p;simp only at K M V F X Y Q;have w0:=o.nn _ (Agy g);have wS:=IC o.nn _ (Agy g);have hq:=kX (t:=t) (n:=w[k]) (d:=w.sum) Ω wS C.1;have au:=YI (t:=t) (n:=w[k]) (d:=w.sum) Ω w0 C.1;have ah:v<=t/\ -(k:Int)*1125899906842624<=v:=by
   have h1:0<=((w.take k).map λx=>t*x/w.sum).sum:=T4 λx a=>YI Ω (o.nn x (Ajn a)) C.1;have B:((w.take k).map λx=>t*x/w.sum).sum<=(((w.take k).map λx=>t*x/w.sum).length:Int)*1125899906842624:=Ls λz U=>by
    obtain⟨x,a,rfl⟩:=Ahr.1 U;have:=kX (t:=t) (n:=x) (d:=w.sum) Ω (IC o.nn x (Ajn a)) C.1;omega
   have G:((w.take k).map λx=>t*x/w.sum).length=k:=by simp;omega
   rw[G]at B;rw[Int.neg_mul];omega
  have aq:(k:Int)*1125899906842624<=64*1125899906842624:=Ajg Ω (by decide);rw[Int.neg_mul]at ah;simp only[Ga];rw[ER g,Ago,BC g,Agm,P0 hN,wI ⟨C.1,Ω⟩ ⟨w0,Ω⟩ ⟨Ω,ag⟩ Ω];simp only[Agm,BC (show k<A.length from Ω),BC (show k<b.length from Ω),BC (show k<q.length from Ω)];rw[BA Ω,D6 (n:=v-t*w[k]/w.sum) Ω Ω];refine⟨⟨_,_,_,_⟩,⟨by show(upd A _ _).length=_;rw[Ni];exact K,by show(upd b _ _).length=_;rw[Ni];exact M,by show(upd q _ _).length=_;rw[Ni];exact V,λi p=>?_,λi x p a=>?_,λi x p a=>?_,?_⟩,rfl⟩
  ·show(upd A (k:Int) (k:Int))[i]? =_
   by_cases m:k=i
   ·subst m;exact HO Ω _
   ·rw[JA m];exact F i Ω
  ·show(upd b (k:Int) _)[i]? =_
   by_cases m:k=i
   ·subst m;rw[Agw g]at a;cases a;exact HO Ω _
   ·rw[JA m];exact X i x Ω a
  ·show(upd q (k:Int) _)[i]? =_
   by_cases m:k=i
   ·subst m;rw[Agw g]at a;cases a;exact HO Ω _
   ·rw[JA m];exact Y i x Ω a
  ·show v-t*w[k]/w.sum=_
   rw[MB g,Q];omega) N 0 (t,List.replicate ((w.length:Int)).toNat 0,List.replicate ((w.length:Int)).toNat 0,List.replicate ((w.length:Int)).toNat 0) ⟨PC _ _,PC _ _,PC _ _,λi p=>Ω,λi x p=>Ω,λi x p=>Ω,by simp⟩ Ω (Agr _)
 simp only at K M V F X Y Q;rw[show Ga N t w w.sum (Gc N) N t 0 _ _ _=Gc N v A b q from e3];have H:b=w.map λx=>t*x%w.sum:=Ah1 λi=>by
  rcases Ag7 i w.length with h|h
  ·rw[X i _ h (Agw h),Aig,Agw h];rfl
  ·rw[Ahj Ω,Ahj (by simp;omega)]
 have I:q=w.map λx=>t*x/w.sum:=Ah1 λi=>by
  rcases Ag7 i w.length with h|h
  ·rw[Y i _ h (Agw h),Aig,Agw h];rfl
  ·rw[Ahj Ω,Ahj (by simp;omega)]
 rw[Ahe]at Q;have av:=aD (t:=t) u w;have J:∀x∈b,0<=x/\x<=w.sum-1:=λx a=>by
  rw[H]at a;obtain⟨y,_,rfl⟩:=Ahr.1 a;have B:=Int.emod_nonneg (t*y) (show w.sum≠0 from Ω);have G:=Int.emod_lt_of_pos (t*y) u;omega
 have Z:b.sum=v*w.sum:=by
  have hc:=Int.mul_comm w.sum (w.map λx=>t*x/w.sum).sum;rw[H,Q,Int.sub_mul,<-hc];omega
 have aw:0<=b.sum:=KX λx a=>(J x a).1;have ai:b.sum<=(w.length:Int)*w.sum:=by
  have B:=Ls (l:=b) (c:=w.sum-1) λx a=>(J x a).2;rw[M,Int.mul_sub,Int.mul_one]at B;omega
 have x0:0<=v:=by
  by_cases aa:v<0
  ·have:v*w.sum<0:=Int.mul_neg_of_neg_of_pos aa u;omega
  ·omega
 have x1:v<=w.length:=Int.le_of_mul_le_mul_right (by rw[<-Z];exact ai) u;obtain⟨en,rfl⟩:∃en:Nat,v=en:=⟨v.toNat,Ω⟩
 have hp:=N4 (TV b) A;have ab:∀x∈A,0<=x/\x<(w.length:Int):=λx a=>by
  obtain⟨i,p⟩:=Aio.1 a;have ax:=(Ag0.1 p).1;have B:=F i Ω;rw[p]at B;cases B;omega
 have aj:A.Nodup:=Aka.2 λi j p hj ay h=>by
  have B:=F i Ω;have G:=F j Ω;rw[Agw p]at B;rw[Agw hj]at G;have B:=Ags B;have G:=Ags G;omega
 have ac:=hE u K F M J Z;have hs:UU A b=some (Ou (TV b) A):=by
  unfold UU;rw[Agp ⟨Ω,Ω,Ω,Agz.2 λx a=>by
   have:=ab x a;simp only[Agu,Ahb];omega⟩]
 have ad:(Ou (TV b) A).length=w.length:=by rw[hp.length_eq];exact K
 have ae:((Ou (TV b) A).take en).Nodup:=List.Nodup.sublist (List.take_sublist _ _) (hp.nodup_iff.2 aj);have ak:∀x∈q,0<=x/\x<=t:=λx a=>by
  rw[I]at a;obtain⟨y,D,rfl⟩:=Ahr.1 a;exact⟨YI Ω (o.nn y D) C.1,kX Ω (IC o.nn y D) C.1⟩
 unfold Gc Ael;rw[hs,Agm,Agp ⟨x0,Ω,Ω⟩,Agm,Ahl];obtain⟨r,er,r1,r2,r3⟩:=cS (N:=N) Ω ((Ou (TV b) A).take en) (by rw[Ah3];omega) ae (n:=w.length) (λx a=>ab x (hp.mem_iff.1 (Ajn a))) q V (λx a=>by have:=ak x a;omega);refine⟨r,er,⟨r1,λi x y a D=>?_⟩,?_⟩
 ·have al:q[i]? =some (t*y/w.sum):=by rw[I,Aig,D];rfl
  have am:b[i]? =some (t*y%w.sum):=by rw[H,Aig,D];rfl
  rw[r3 i _ al]at a;have a:=Ags a;have af:=o.nn y (Ahx D);have az:=IC o.nn y (Ahx D);have g0:=YI (t:=t) (n:=y) (d:=w.sum) Ω af C.1;have a0:=Int.mul_ediv_add_emod (t*y) w.sum;have a1:t*y<=w.sum*y:=Ajg C.2 af;split at a
  ·rename_i hm;have an:=ac _ hm;rw[Ahl,Ahc,am,Aic]at an;have ao:w.sum*(t*y/w.sum)<w.sum*y:=Ω
   have:=Int.lt_of_mul_lt_mul_left ao Ω;omega
  ·have ap:w.sum*(t*y/w.sum)<=w.sum*y:=by
    have:=Int.emod_nonneg (t*y) (show w.sum≠0 from Ω);omega
   have:=Int.le_of_mul_le_mul_left ap u;omega
 ·rw[r2,Ah3,ad,I,Ajd Ω];omega
def oE{W:Nat}(v:18446744073709551616<N)(w:W<=64){p:xq}(a:PX W p)(n:Int):∃t,NK N p n=some (t,JZ p t)/\Yq t p/\t.sum=max 0 (min n p.sum):=by
 have z:=a.len;have m:Yq (List.replicate W 0) p:=⟨by simp[a.len],λi x y g A=>by
  rw[Aiy]at g;split at g
  ·cases g;exact⟨Ahq _,a.nn y (Ahx A)⟩
  ·cases g⟩
 have o:∀t,Yq t p->IS N p t=some (t,JZ p t):=λt B=>by
  unfold IS;rw[a.wo Ω Ω (B.sub a).2.2,Agm]
 have C:List.replicate ((p.length:Int)).toNat (0:Int)=List.replicate W 0:=by rw[a.len];rfl
 have D:=a.sum0;unfold NK;rw[Lu Ω _ (by decide),C];by_cases q:0<n
 ·rw[Ag8 q,Ag8 (show(p.length:Int)<=64 from Ω)];have b:Jv N p=some true:=by
   unfold Jv;obtain⟨s,⟨u,F⟩,e⟩:=EO p.length (λn i s=>Ff N p (H0 N) n s i) (λ_=>H0 N) (λk s=>s=(p.take k).sum/\0<=s) (λn k s c=>by
    simp only[Ff];rw[Ek c];rfl) (λn k s G c=>by
    obtain⟨u,F⟩:=G;have H:=KU a.nn (k+1);have J:=KU a.nn k;have K:=a.nn _ (Agy c);have M:=a.mv;rw[LZ c]at H;simp only[Ff];rw[ER c,Ago,BC c,Agm,D6 (n:=1125899906842624-s) Ω Ω,Agx (show ¬p[k]<0 from Ω),Agx (show ¬1125899906842624-s<p[k]from Ω),Bool.or_self,Agq,BA Ω,D6 (n:=s+p[k]) Ω Ω];exact⟨_,⟨by rw[LZ c,u],Ω⟩,rfl⟩) N 0 0 ⟨rfl,Ahq _⟩ Ω (Agr _)
   exact e
  obtain⟨j,e,l,d⟩:=iR v w a (t:=min n p.sum) ⟨Ω,Ω⟩;rw[Bool.and_self,Ago,b,Agm,Agm,Ago,a.total Ω Ω,Agm,e,Agm,Ago];unfold K6;have I:Qp (List.replicate W (0:Int)) j=j:=lR (by rw[l.len,z];simp);rw[I];exact⟨j,o j l,l,by rw[d];omega⟩
 ·rw[Agx q,Bool.false_and,Agq,Agm,Agq];exact⟨_,o _ m,m,by rw[Z8];omega⟩
structure J4(P W:Nat)(o:List xq):Prop where
 len:o.length=P
 all:∀x∈o,PX W x
def Fa(o:List xq):Int:=(o.map List.sum).sum
def GR(q:List AY):Int:=(q.map λl=>l.N.sum).sum
def J4.ix{W:Nat}(c:J4 P W o)(a:k<P):∃x,Go.Proofs.YtabonambpbofgaaGreat.ix o (k:Int)=some x/\o[k]? =some x/\PX W x:=by
 obtain⟨x,e,b⟩:=Aga (l:=o) (i:=k) (by rw[c.len];exact a);exact⟨x,e,by rw[BC (by rw[c.len];exact a)]at e;rw[Agw (by rw[c.len];exact a)];exact e,c.all x b⟩
def J4.upd{W:Nat}(c:J4 P W o)(i:Int){x:xq}(b:PX W x):J4 P W (upd o i x):=
 ⟨by rw[Ni];exact c.len,λy a=>by
  rcases Aj4 a with a|rfl
  ·exact c.all y a
  ·exact b⟩
def J4.nn{W:Nat}(c:J4 P W o):∀x∈o.map List.sum,0<=x:=λx a=>by
 obtain⟨y,b,rfl⟩:=Ahr.1 a;exact(c.all y b).sum0
def SF{x y:xq}(a:o[k]? =some x):Fa (upd o (k:Int) y)=Fa o-x.sum+y.sum:=by
 have b:=(Ag0.1 a).1;have c:=(Ag0.1 a).2;unfold Fa upd;rw[Ahl,List.map_set,O8 (by simpa using b),List.getElem_map,c]
def J4.le{W:Nat}(b:J4 P W o){x:xq}(a:o[k]? =some x):x.sum<=Fa o:=IC b.nn _ (Ahr.2 ⟨x,Ahx a,rfl⟩)
def J4.sum0{W:Nat}(a:J4 P W o):0<=Fa o:=KX a.nn
def No(a:k<o.length):Fa (o.take (k+1))=Fa (o.take k)+(o[k]).sum:=MB a
def Mu{q:List AY}(a:k<q.length):GR (q.take (k+1))=GR (q.take k)+(q[k]).N.sum:=MB (f:=λl:AY=>l.N.sum) a
def Nk{W:Nat}(a:J4 P W o)(k:Nat):0<=Fa (o.take k)/\Fa (o.take k)<=Fa o:=by
 have:=KU a.nn k;rw[<-List.map_take]at this;exact this
def QX(P W:Nat)(q:List AY):Prop:=∀l∈q,PX W l.N/\0<=l.C/\l.C<P
def QX.nn{W:Nat}{q:List AY}(c:QX P W q):∀x∈q.map (λl=>l.N.sum),0<=x:=λx a=>by
 obtain⟨y,b,rfl⟩:=Ahr.1 a;exact(c y b).1.sum0
def FP{W:Nat}{q:List AY}(a:QX P W q)(k:Nat):0<=GR (q.take k)/\GR (q.take k)<=GR q:=by
 have:=KU a.nn k;rw[<-List.map_take]at this;exact this
def v1(W:Nat)(n:Int):xq:=upd (List.replicate W 0) 0 n
def Mr(W:Nat)(n:Int):(v1 W n).length=W:=by unfold v1;rw[Ni];simp
def RS{W:Nat}(a:1<=W)(n:Int):(v1 W n).sum=n:=by
 unfold v1 upd;rw[show(0:Int).toNat=0 from rfl,O8 (by simp;omega)];simp
def fJ{W:Nat}(c:1<=W){n:Int}(h0:0<=n)(b:n<=1125899906842624):PX W (v1 W n):=
 ⟨Mr W n,λx a=>by
  rcases Aj4 a with a|rfl
  ·rw[(List.mem_replicate.1 a).2];exact Ahq 0
  ·exact h0,by rw[RS c];exact b⟩
def Qh(W:Nat):v1 W 0=List.replicate W 0:=by
 unfold v1 upd;apply Ah1;intro i;by_cases a:0=i
 ·subst a;rcases Akd W with a|a
  ·subst a;rfl
  ·rw[show(0:Int).toNat=0 from rfl,Aiz (by simp;omega),Aiy,Agp a]
 ·rw[show(0:Int).toNat=0 from rfl,Aiu a]
def Si{W:Nat}{p:xq}(b:p.length=W):Gh p (List.replicate W 0)=p:=by
 apply Ah1;intro i;rw[Gh,Aiv,Aiy];rcases Ag7 i W with a|a
 ·rw[Agp a,Agw Ω];simp
 ·rw[Agn Ω,Ahj (show p.length<=i from Ω)]
def UI:∀(p q r:xq),Gh (Gh p q) r=Gh p (Gh q r)
 |[],_,_=>by simp[Gh]
 |_::_,[],_=>by simp[Gh]
 |_::_,_::_,[]=>by simp[Gh]
 |a::p,b::q,c::r=>by
  have:=UI p q r;simp only[Gh,List.zipWith_cons_cons]at this ⊢;rw[this,Int.add_assoc]
def Zo{W:Nat}{p:xq}(g:p.length=W)(d:1<=W)(n x:Int)(c:ix p 0=some x):upd p 0 (x+n)=Gh p (v1 W n):=by
 have b:p[0]? =some x:=(FQ c).2;apply Ah1;intro i;unfold v1 upd;rw[Gh,Aiv,show(0:Int).toNat=0 from rfl];by_cases a:0=i
 ·subst a;rw[Aiz Ω,Aiz (by simp;omega),b]
 ·rw[Aiu a,Aiu a,Aiy];rcases Ag7 i W with a|a
  ·rw[Agp a,Agw (show i<p.length from Ω)];simp
  ·rw[Agn Ω,Ahj (show p.length<=i from Ω)]
def fK{W:Nat}(g:1<=W)(a b:Int):Gh (v1 W a) (v1 W b)=v1 W (a+b):=by
 apply Ah1;intro i;rw[Gh,Aiv];unfold v1 upd;rw[show(0:Int).toNat=0 from rfl];by_cases c:0=i
 ·subst c;rw[Aiz (by simp;omega),Aiz (by simp;omega),Aiz (by simp;omega)]
 ·rw[Aiu c,Aiu c,Aiu c,Aiy];by_cases d:i<W<;>simp[d]
def VM(H:Int)(W:Nat):Nat->xq->List AM
 |_,[]=>[]
 |i,n::l=>(if 0<n then [⟨H, -1,(i:Int), -4,v1 W n⟩] else [])++VM H W (i+1) l
def Ua(H:Int)(W:Nat)(n:Int):∀(l:xq)(i:Nat),VM H W i (l++[n])=VM H W i l++(if 0<n then [⟨H, -1,((i+l.length:Nat):Int), -4,v1 W n⟩] else [])
 |[],i=>by simp[VM]
 |a::l,i=>by
  have e:i+(a::l).length=i+1+l.length:=by simp;omega
  rw[Ag4,VM,Ua H W n l (i+1),VM,e,Ah0]
def Wa(H:Int)(W:Nat):∀(l:xq)(i:Nat),(VM H W i l).length<=l.length
 |[],_=>by simp[VM]
 |a::l,i=>by
  have:=Wa H W l (i+1);rw[VM,Ahh];split<;>simp<;>omega
structure Afs(w:AS)(W k:Nat)(l:xq)(s:Int×Int×List AM×List xq×xq):Prop where
 ll:l.length=k
 l0:∀n∈l,0<=n
 ms:s.2.2.1=VM w.s.B W 0 l
 own:J4 w.b.A.length W s.2.2.2.1
 lo:∀(i:Nat) x n,w.s.D[i]? =some x->l[i]? =some n->s.2.2.2.1[i]? =some (Gh x (v1 W n))
 hi:∀i,k<=i->s.2.2.2.1[i]? =w.s.D[i]?
 th:s.1=Fa s.2.2.2.1+GR w.s.F/\s.1<=1125899906842624
 inn:s.2.2.2.2=Gh w.s.K (v1 W l.sum)
 en:s.2.1=w.s.K.sum+l.sum/\s.2.1<=1152921504606846976
 os:Fa s.2.2.2.1=Fa w.s.D+l.sum
structure dW(P W:Nat)(o:List xq):Prop where
 len:o.length=P
 all:∀x∈o,x.length=W
def dW.ix{W:Nat}(c:dW P W o)(a:k<P):∃x,Go.Proofs.YtabonambpbofgaaGreat.ix o (k:Int)=some x/\x.length=W:=by
 obtain⟨x,e,b⟩:=Aga (l:=o) (i:=k) (by rw[c.len];exact a);exact⟨x,e,c.all x b⟩
def dW.upd{W:Nat}(c:dW P W o)(i:Int){x:xq}(b:x.length=W):dW P W (upd o i x):=
 ⟨by rw[Ni];exact c.len,λy a=>by
  rcases Aj4 a with a|rfl
  ·exact c.all y a
  ·exact b⟩
def WD(q:8000000000000<N){s:AH}(t:s.D.length<=64)(g:∀x∈s.D,x.length<=1000)(u:s.P.length<=1000)(v:s.Q.length<=1000)(w:s.K.length<=1000)(y:s.O.length<=1000):Lc N s=some s:=by
 unfold Lc;rw[Lu Ω _ (by decide)];obtain⟨o,⟨z,j⟩,e⟩:=EO s.D.length (λn i l=>GU N s (GV N s) n i l) (GV N s) (λk (l:List xq)=>l.length=s.D.length/\∀i,i<k->l[i]? =s.D[i]?) (λn k l a=>by
  simp only[GU];rw[Ek a];rfl) (λn k l d a=>by
  simp only[GU];have b:k<l.length:=by rw[d.1];exact a
  rw[ER a,Ago,BC a,Agm,Nq N (by have:=g _ (Agy a);omega)];simp only[BC b,Agm];rw[BA Ω];refine⟨_,⟨by rw[Ni];exact d.1,λi m=>?_⟩,rfl⟩;by_cases c:k=i
  ·subst c;rw[HO b];simp[a]
  ·rw[JA c];exact d.2 i Ω) N 0 (List.replicate ((s.D.length:Int)).toNat ([]:xq)) ⟨SB _ _,λi d=>Ω⟩ Ω (Agr _)
 rw[show GU N s (GV N s) N 0 _=GV N s o from e];have p:o=s.D:=Ah1 λi=>by
  rcases Ag7 i s.D.length with A|A
  ·exact j i A
  ·rw[Ahj A,Ahj Ω]
 subst p;unfold GV;rw[Nq N Ω,Agm,ZP N Ω,Agm,Nq N Ω,Agm,Nq N Ω,Agm]
def Af9(a:xq)(i:Int):Int:=a.getD i.toNat 0
def wT{a:xq}{i:Int}(h0:0<=i)(c:i<a.length):ix a i=some (Af9 a i):=by
 obtain⟨n,rfl,b⟩:=tE h0 c;rw[BC b];simp[Af9,Ahc,b]
def SZ(W:Nat)(t:Int)(q:List AY)(p:Nat):xq:=(q.filter λl=>decide (l.Av<=t)&&decide (l.C=(p:Int))).foldl (λa l=>Gh a l.N) (List.replicate W 0)
def Kf(t:Int)(q:List AY):List AY:=q.filter λl=>decide (t<l.Av)
def TG{W:Nat}{q:List AY}(d:k<q.length):SZ W t (q.take (k+1)) p=if(q[k]).Av<=t/\(q[k]).C=(p:Int) then Gh (SZ W t (q.take k) p) (q[k]).N else SZ W t (q.take k) p:=by
 unfold SZ;rw[Ah8 d,Ai5,Ajo];by_cases a:(q[k]).Av<=t/\(q[k]).C=(p:Int)
 ·rw[Agp a];simp[a.1,a.2]
 ·rw[Agn a];have:(decide ((q[k]).Av<=t)&&decide ((q[k]).C=(p:Int)))=false:=by
   rw[Bool.and_eq_false_iff];simp only[Ahd];by_cases b:(q[k]).Av<=t
   ·exact .inr λc=>a ⟨b,c⟩
   ·exact .inl b
  simp[this]
def Ub{q:List AY}(b:k<q.length):Kf t (q.take (k+1))=if(q[k]).Av<=t then Kf t (q.take k) else Kf t (q.take k)++[q[k]]:=by
 unfold Kf;rw[Ah8 b,Ai5];by_cases a:(q[k]).Av<=t
 ·rw[Agp a];simp;omega
 ·rw[Agn a];have:t<(q[k]).Av:=Ω
  simp[this]
def X3(a b:List AY):GR (a++b)=GR a+GR b:=by unfold GR;rw[Ah5,Ah9]
structure Agk(P W:Nat)(t:Int)(q:List AY)(k:Nat)(s:List AY×List xq):Prop where
 rest:s.1=Kf t (q.take k)
 own:J4 P W s.2
 at_:∀p,p<P->s.2[p]? =some (SZ W t (q.take k) p)
 tot:Fa s.2+GR s.1=GR (q.take k)
def X6(W:Nat):∀P:Nat,Fa (List.replicate P (List.replicate W 0))=0
 |0=>rfl
 |P+1=>by
  have:=X6 W P;unfold Fa at this ⊢;rw[List.replicate_succ,Ag9,Ahs,this,Z8];rfl
def xW(Y:8000000000000<N){W:Nat}(hP:P<=64)(hW:W<=16){q:List AY}(hq:q.length<=4000000000000)(c:QX P W q)(Z:GR q<=1125899906842624)(t:Int):
  ∃s,NJ N q t (P:Int) (W:Int)=some (s.2,s.1)/\Agk P W t q q.length s:=by
 unfold NJ;rw[QA,Agm,QA,Agm,Agn (show ¬(P:Int)<0 from Ω),Agn (show ¬64<(P:Int)from Ω),Agn (show ¬(W:Int)<0 from Ω),Agn (show ¬16<(W:Int)from Ω),Lu Ω _ (by decide)];obtain⟨o,⟨i1,K⟩,e⟩:=EO P (λn i l=>Hq N (P:Int) (W:Int) (Hr N q t (P:Int)) n i l) (Hr N q t (P:Int)) (λk (l:List xq)=>l.length=P/\∀i,i<k->l[i]? =some (List.replicate W 0)) (λn k l a=>by
  simp only[Hq];rw[SB,Ek a];rfl) (λn k l m a=>by
  simp only[Hq];have w:k<l.length:=by rw[m.1];exact a
  rw[SB,ER a,Ago,Lu Ω _ (by decide),BC w,Agm,Agm,BA Ω];refine⟨_,⟨by rw[Ni];exact m.1,λi aa=>?_⟩,rfl⟩;by_cases z:k=i
  ·subst z;rw[HO w];rfl
  ·rw[JA z];exact m.2 i Ω) N 0 (List.replicate ((P:Int)).toNat ([]:xq)) ⟨SB _ _,λi m=>Ω⟩ Ω (Agr _)
 rw[show Hq N (P:Int) (W:Int) (Hr N q t (P:Int)) N 0 _=Hr N q t (P:Int) o from e];have M:o=List.replicate P (List.replicate W 0):=Ah1 λi=>by
  rcases Ag7 i P with h|h
  ·rw[K i h,Aiy,Agp h]
  ·rw[Ahj Ω,Ahj (by simp;omega)]
 have I:J4 P W o:=⟨i1,λx Q=>by rw[M]at Q;rw[(List.mem_replicate.1 Q).2];exact PX.zero W⟩
 unfold Hr;obtain⟨s,i3,e2⟩:=EO q.length (λn i (s:List AY×List xq)=>G6 N q t (P:Int) (JJ N) n s.1 i s.2) (λs=>JJ N s.1 s.2) (λk s=>Agk P W t q k s) (λn k s a=>by
  simp only[G6];rw[Ek a];rfl) (λn k s m a=>by
  obtain⟨F,o⟩:=s;obtain⟨A,d,G,U⟩:=m;simp only at A d G U;obtain⟨H,V,X⟩:=c _ (Agy a);have h2:=FP c (k+1);rw[Mu a]at h2;have ab:F.length<=k:=by rw[A];exact Ah2 (List.length_filter_le _ _) (by rw[Ah3];omega)
  have ac:0<=GR F:=by
   rw[A];exact T4 λl hl=>(c l (Ajn ((Ah7.1 hl).1))).1.sum0
  simp only[G6,K5];rw[ER a,Ago,BC a,Agm,BA Ω,Ag8 V,Ag8 X,Bool.and_true,Bool.and_true];by_cases u:(q[k]).Av<=t
  ·obtain⟨j,J,B⟩:=tE (l:=o) V (by rw[d.len];exact X);obtain⟨y,hy,b,g⟩:=d.ix (k:=j) (by rw[<-d.len];exact B);have ad:=d.le b;have C:=g.add H Ω;rw[Ag8 u,Ago,J,hy,Agm,Agm,g.padd Y Ω H,Agm,Agm,Agm];refine⟨(_,_),⟨by rw[Ub a,Agp u];exact A,d.upd _ C,λp v=>?_,?_⟩,rfl⟩
   ·show(upd o (j:Int) _)[p]? =_
    rw[TG a];by_cases D:j=p
    ·subst D;rw[HO B,Agp ⟨u,J⟩];rw[G j v]at b;rw[Ags b]
    ·rw[JA D,Agn (by rw[J];omega)];exact G p v
   ·show Fa (upd o (j:Int) _)+GR F=_
    rw[SF b,I9 (g.len.trans H.len.symm),Mu a];omega
  ·rw[Agx u,Agq,Nq N (by rw[H.len];omega),Agm,Fu (by simp;omega)];refine⟨(_,_),⟨by rw[Ub a,Agn u,<-A],d,λp v=>?_,?_⟩,rfl⟩
   ·rw[TG a,Agn λh=>u h.1];exact G p v
   ·show Fa o+GR (F++[_])=_
    rw[X3,Mu a];simp only[GR,Ag9,List.map_nil,Ahs,List.sum_nil]at U ⊢;omega) N 0 ([],o) ⟨rfl,I,λp v=>by
   show o[p]? =_
   rw[K p v];rfl,by
   show Fa o+GR []=GR (q.take 0)
   rw[M,X6];rfl⟩ Ω (Agr _)
 exact⟨s,e2,i3⟩
structure ArX(w:AS)(W:Nat)(r:List xq×List AY×List A8×xq):Prop where
 own:J4 w.b.A.length W r.1
 at_:∀(p:Nat) x,w.s.D[p]? =some x->r.1[p]? =some (Gh x (SZ W w.s.B w.s.F p))
 rest:r.2.1=Kf w.s.B w.s.F
 pk:r.2.2.2=r.1.map List.sum
 tot:Fa r.1+GR r.2.1=Fa w.s.D+GR w.s.F
def zZ(hN:8000000000000<N){W:Nat}(hW:w.b.I.length=W)(ab:W<=16)(hP:w.b.A.length<=64)(hL:w.b.E.length<=96)(ac:∀l∈w.b.E,LA w.b l)(ho:J4 w.b.A.length W w.s.D)(hq:w.s.F.length<=4000000000000)(z:QX w.b.A.length W w.s.F)(ht:Fa w.s.D+GR w.s.F<=1125899906842624)(g:w.peaks.length=w.b.A.length)(hg:w.s.Q.length=w.b.E.length):
  ∃r,GJ N w=some r/\ArX w W r/\r.2.2.1.length=w.b.E.length:=by
 have ai:=ho.sum0;have ad:=(FP z 0).2;rw[Ah4,show GR ([]:List AY)=0 from rfl]at ad;unfold GJ;rw[hW];obtain⟨⟨t,q⟩,hy,⟨y1,K,y3,y4⟩⟩:=xW hN hP ab hq z Ω w.s.B;simp only at y1 K y3 y4 hy;rw[Ahe]at y1 y3 y4;rw[hy,Agm];have ag:0<=GR t:=by
  rw[y1];exact T4 λl hl=>(z l ((Ah7.1 hl).1)).1.sum0
 have ah:=K.sum0;obtain⟨⟨o,y⟩,⟨m,M,U,V,X,Y⟩,e⟩:=EO w.b.A.length (λn i (s:List xq×xq)=>C6 N w (q,t) (DY N w (q,t)) n i s.1 s.2) (λs=>DY N w (q,t) s.1 s.2) (λk s=>J4 w.b.A.length W s.1/\s.2.length=w.b.A.length/\(∀(p:Nat) x,p<k->w.s.D[p]? =some x->s.1[p]? =some (Gh x (SZ W w.s.B w.s.F p)))/\(∀p,k<=p->s.1[p]? =w.s.D[p]?)/\(∀(p:Nat) x,p<k->s.1[p]? =some x->s.2[p]? =some x.sum)/\Fa s.1=Fa w.s.D+Fa (q.take k)) (λn k s d=>by
  simp only[C6];rw[Ek d];rfl) (λn k s hi d=>by
  obtain⟨o,y⟩:=s;obtain⟨m,M,U,V,X,Y⟩:=hi;simp only at m M U V X Y;obtain⟨a,ha,u,C⟩:=m.ix d;obtain⟨c,hc,v,G⟩:=K.ix d;have J:k<q.length:=by rw[K.len];exact d
  have Z:q[k]=c:=by rw[Agw J]at v;exact Ags v
  have t1:=Nk K (k+1);rw[No J,Z]at t1;have t2:=m.le u;have hd:=C.add G Ω;have aa:k<(upd o (k:Int) (Gh a c)).length:=by rw[Ni,m.len];exact d
  simp only[C6];rw[ER d,Ago,BA Ω,ha,Agm,Agm,hc,Agm,Agm,C.padd hN Ω G,Agm,Agm,Agm];have ae:ix (upd o (k:Int) (Gh a c)) (k:Int)=some (Gh a c):=by
   rw[BC aa];have:=HO (l:=o) (k:=k) (by rw[m.len];exact d) (Gh a c);rw[Agw aa]at this;exact this
  rw[ae,Agm,Agm,hd.total hN Ω,Agm,BC (show k<y.length from Ω),Agm,Agm];refine⟨(_,_),⟨m.upd _ hd,by show(upd y _ _).length=_;rw[Ni];exact M,λp x hp j=>?_,λp hp=>?_,λp x hp j=>?_,?_⟩,rfl⟩
  ·show(upd o (k:Int) _)[p]? =_
   by_cases g:k=p
   ·subst g;rw[HO (by rw[m.len];exact d)];rw[V k (Ag5 _),j]at u;cases u;rw[y3 k d]at v;rw[Ags v]
   ·rw[JA g];exact U p x Ω j
  ·show(upd o (k:Int) _)[p]? =_
   rw[JA Ω];exact V p Ω
  ·change (upd o (k:Int) (Gh a c))[p]? =some x at j;show(upd y (k:Int) _)[p]? =_
   by_cases g:k=p
   ·subst g;rw[HO (by rw[m.len];exact d)]at j;rw[HO Ω,Ags j]
   ·rw[JA g]at j ⊢;exact X p x Ω j
  ·show Fa (upd o (k:Int) _)=_
   rw[SF u,I9 (C.len.trans G.len.symm),No J,Z,Y];omega) N 0 (w.s.D,w.peaks) ⟨ho,g,λp x hp=>Ω,λp _=>rfl,λp x hp=>Ω,by simp[Fa]⟩ Ω (Agr _)
 rw[show C6 N w (q,t) (DY N w (q,t)) N 0 w.s.D w.peaks=DY N w (q,t) o y from e];simp only at m M U V X Y;have af:q.take w.b.A.length=q:=by rw[<-K.len,Ahe]
 rw[af]at Y;unfold DY;obtain⟨gs,j1,e2⟩:=EO w.b.E.length (λn i s=>Ci N w (q,t) o y n i s) (λs=>some (o,t,s,y)) (λi s=>s.length=w.b.E.length) (λn k s d=>by
  simp only[Ci];rw[Ek d];rfl) (λn i s hi d=>by
  simp only[Ci,GD];have ok:=ac _ (Agy d);rw[ER d,Ago,BC d,Agm,BA Ω];cases decide ((w.b.E[i]).H=3)
  ·exact⟨s,hi,rfl⟩
  ·rw[Ago,BC (show i<s.length from Ω),Agm,Agm,wT ok.fr.1 (by rw[M];exact ok.fr.2),Agm,Agm,(Aco N _ _ _).1,Agm,Agm,Agm];exact⟨_,by rw[Ni];exact hi,rfl⟩) N 0 w.s.Q hg Ω (Agr _)
 refine⟨_,e2,⟨m,λp x j=>U p x ?_ j,y1,?_,?_⟩,j1⟩
 ·rw[<-ho.len];exact(Ag0.1 j).1
 ·show y=o.map List.sum
  apply Ah1;intro p;rcases Ag7 p w.b.A.length with h|h
  ·obtain⟨x,_,j,_⟩:=m.ix h;rw[X p x h j,Aig,j];rfl
  ·rw[Ahj Ω,Ahj (by rw[Ajt,m.len];omega)]
 ·show Fa o+GR t=_
  omega
def SE(a:18446744073709551616<N)(v n d:Int):Df (Iz N v n d):=by
 unfold Iz;rw[P0 a,Agm];exact Df.cond (λ_=>Df.mk _) λ_=>Df.mk _
def Xt(a:18446744073709551616<N)(v n d:Int):Df (MD N v n d):=by
 unfold MD;rw[P0 a,Agm];exact Df.cond (λ_=>Df.mk _) λ_=>Df.mk _
def Ad2(a:18446744073709551616<N)(c:List B3)(x:Int):Df (N7 N c x):=by
 unfold N7;obtain⟨v,b,k⟩:=K8 (N:=N) Ω c;rw[b,Agm];cases v
 ·exact Df.mk _
 ·have g:=k rfl;obtain⟨y,d⟩:=UH a g.1 g.2.1 x;exact⟨y.1,by rw[d];rfl⟩
def aS(i:18446744073709551616<N)(l:BG)(g:A8)(fr to:Int):Df (N6 N l g fr to):=by
 have head:Df (NN N l fr to):=by
  unfold NN;refine Df.cond (λ_=>Df.mk _) λ_=>?_;refine(SE i _ _ _).bind λv _=>(UN N _ _).bind λu _=>Df.mk _
 have j:Df (NO N l g.Z g.Am l.As fr to):=by
  unfold NO MW MY MZ Ma KL KM;have n:Df ((H3 N fr l.Bc).bind λm=>(Iz N (max 0 m) l.Y l.T).bind λk=>some k):=(UN N _ _).bind λu _=>(SE i _ _ _).bind λv _=>Df.mk _;refine Df.cond (λ_=>?_) λ_=>Df.cond (λ_=>(SE i _ _ _).bind λv _=>Df.mk _) λ_=>Df.cond (λ_=>Df.cond (λ_=>(SE i _ _ _).bind λv _=>Df.mk _) λ_=>Df.mk _) λ_=>Df.cond (λ_=>Df.cond (λ_=>Df.mk _) λ_=>n) λ_=>Df.cond (λ_=>n) λ_=>Df.mk _;exact head.bind λa _=>(Ad2 i _ _).bind λb _=>(SE i _ _ _).bind λc _=>(ZX N _ _).bind λd _=>Df.mk _
 unfold N6;exact j.bind λv _=>Df.mk _
def Z6(c:18446744073709551616<N)(l:BG)(fr to:Int):Df (Mv N l fr to):=by
 unfold Mv;exact Df.cond (λ_=>Df.mk _) λ_=>(Xt c _ _ _).bind λa _=>(Xt c _ _ _).bind λb _=>Df.mk _
def Ad5(W:Nat)(f:xq->Option (xq×xq)):Prop:=∀x,x.length=W->∃r,f x=some r/\r.1.length=W/\r.2.length=W
def Af6(W:Nat)(l:List AD):Prop:=∀e∈l,Ad5 W e.take
def Af6.snoc{W:Nat}{l:List AD}(c:Af6 W l)(b:Ad5 W e.take):Af6 W (l++[e]):=λx a=>by
 rcases Ahi.1 a with a|a
 ·exact c x a
 ·rw[Aho.1 a];exact b
def dS(i:8000000000000<N)(a b:List AD)(j:a.length<=100000)(k:b.length<=100000):Cb N [a,b]=some (a++b):=by
 obtain⟨n,rfl⟩:∃n,N=n+3:=⟨N-3,Ω⟩
 have d:BO ((a.length:Int)+(b.length:Int))=((a.length+b.length:Nat):Int):=by rw[D6 Ω Ω];rfl
 have g:BO (0+(a.length:Int))=((a.length:Nat):Int):=by rw[D6 Ω Ω];omega
 have c:Cp (n+3) ((a.length+b.length:Nat):Int)=some []:=by
  unfold Cp CX;rw[Agx (show ¬((a.length+b.length:Nat):Int)<0 from Ω),Agq,D6 (n:=(0:Int)-0) (by decide) (by decide),D6 (n:=((a.length+b.length:Nat):Int)-(0-0)) Ω Ω];cases l:decide (0<((a.length+b.length:Nat):Int)-(0-0))
  ·rfl
  ·rw[Ago,Fu Ω];rfl
 unfold Cb;simp only[CB];rw[show decide ((0:Int)<(([a,b]:List (List AD)).length:Int))=true by simp,Ago,show Go.Proofs.YtabonambpbofgaaGreat.ix [a,b] 0=some a from rfl,Agm,g,Agx (show ¬((a.length:Nat):Int)<0 from Ω),Agq,show BO (0+1)=1 from rfl,show decide ((1:Int)<(([a,b]:List (List AD)).length:Int))=true by simp,Ago,show Go.Proofs.YtabonambpbofgaaGreat.ix [a,b] 1=some b from rfl,Agm,d,Agx (show ¬((a.length+b.length:Nat):Int)<0 from Ω),Agq,show BO (1+1)=2 from rfl,show decide ((2:Int)<(([a,b]:List (List AD)).length:Int))=false by simp,Agq];unfold CR;rw[c,Agm];simp only[CA];rw[show decide ((0:Int)<(([a,b]:List (List AD)).length:Int))=true by simp,Ago,show Go.Proofs.YtabonambpbofgaaGreat.ix [a,b] 0=some a from rfl,Agm,Fu (by simp;omega),show BO (0+1)=1 from rfl,show decide ((1:Int)<(([a,b]:List (List AD)).length:Int))=true by simp,Ago,show Go.Proofs.YtabonambpbofgaaGreat.ix [a,b] 1=some b from rfl,Agm,Fu (by simp;omega),show BO (1+1)=2 from rfl,show decide ((2:Int)<(([a,b]:List (List AD)).length:Int))=false by simp,Agq];rfl
def iY(a:18446744073709551616<N)(b:Ce)(v m:Int):Df (J8 N b v m):=by
 unfold J8 IE;rw[P0 a,Agm];exact Df.cond (λ_=>Df.mk _) λ_=>Df.cond (λ_=>Df.cond (λ_=>Df.mk _) λ_=>Df.mk _) λ_=>Df.cond (λ_=>Df.mk _) λ_=>Df.mk _
structure Af4(P W:Nat)(o:List xq)(out:xq)(ms:List AM)(sn:List AY)(M:Nat):Prop where
 own:dW P W o
 out:out.length=W
 mv:ms.length<=M
 sn:sn.length<=M
def Af4.le{W:Nat}{a:List AY}{b:Nat}(d:Af4 P W o out ms a M)(c:M<=b):Af4 P W o out ms a b:=⟨d.own,d.out,Ah2 d.mv c,Ah2 d.sn c⟩
def Q6(b:AF)(p:Nat)(a:Int):Int:=if 0<=a/\a<b.E.length then(aK b a.toNat).S else if a= -3 then 0 else(b.A.getD p default).S
structure Aa8(b:AF)(W p:Nat)(e:AD):Prop where
 tk:∀x,PX W x->∃t,e.take x=some (t,JZ x t)/\Yq t x
 way:e.way≠ -4
 to:e.to_= -1\/(0<=e.to_/\e.to_<b.A.length)
 dl:e.delay=Q6 b p e.way
structure Aea(b:AF)(H:Int)(W p:Nat)(m:AM):Prop where
 hour:m.B=H
 fr:m.J=(p:Int)
 way:m.Be≠ -4
 to:m.C= -1\/(0<=m.C/\m.C<b.A.length)
 px:PX W m.N
 pos:0<m.N.sum
def MN(b:AF)(H:Int)(m:AM):Option AY:=if m.C<0 then none else some ⟨BO (BO (H+1)+Q6 b m.J.toNat m.Be),m.C,m.N⟩
def Sx(N:Nat)(out:xq)(ms:List AM):xq:=ms.foldl (λo m=>if m.C<0 then(Hs N o m.N).getD [] else o) out
def Ra(o:List xq)(ms:List AM):List xq:=ms.foldl (λo m=>upd o m.J (JZ (o.getD m.J.toNat []) m.N)) o
def Sb:List AM->List xq->Prop
 |[],_=>True
 |m::ms,o=>(∃x,o[m.J.toNat]? =some x/\Yq m.N x)/\Sb ms (upd o m.J (JZ (o.getD m.J.toNat []) m.N))
def Lv(ms:List AM):Int:=(ms.map λm=>m.N.sum).sum
def Sb.app:∀{l1 a:List AM}{o:List xq},Sb l1 o->Sb a (Ra o l1)->Sb (l1++a) o
 |[],_,_,_,d=>d
 |m::l1,a,o,b,c=>⟨b.1,Sb.app (l1:=l1) b.2 c⟩
structure XJ(b:AF)(H:Int)(N W p:Nat)(o:List xq)(out:xq)(ms:List AM)(sn:List AY)(o':List xq)(out':xq)(ms':List AM)(sn':List AY)(l:List AM):Prop where
 mv:∀m∈l,Aea b H W p m
 ms_:ms'=ms++l
 own:o'=Ra o l
 out_:out'=Sx N out l
 sn_:sn'=sn++l.filterMap (MN b H)
 val:Sb l o
 ox:J4 b.A.length W o'
 ol:out'.length=W
 tot:Fa o'+Lv l=Fa o
def XJ.nil{b:AF}{H:Int}{W:Nat}{a:List AY}(c:J4 b.A.length W o)(d:out.length=W):XJ b H N W p o out ms a o out ms a []:=
 ⟨λm g=>(by cases g),by simp,rfl,rfl,by simp,trivial,c,d,by simp[Lv]⟩
def YB(a b:List AM):Lv (a++b)=Lv a+Lv b:=by unfold Lv;rw[Ah5,Ah9]
def XJ.trans{b:AF}{H:Int}{W:Nat}{q i:List xq}{c a:xq}{n g:List AY}{l t:List AM}(v:XJ b H N W p o out ms s q c j n l)(k:XJ b H N W p q c j n i a d g t):XJ b H N W p o out ms s i a d g (l++t):=
 ⟨λm u=>(Ahi.1 u).elim (v.mv m) (k.mv m),by rw[k.ms_,v.ms_,Ah0],by rw[k.own,v.own];unfold Ra;rw[Ajo],by rw[k.out_,v.out_];unfold Sx;rw[Ajo],by rw[k.sn_,v.sn_,List.filterMap_append,Ah0],v.val.app (by rw[<-v.own];exact k.val),k.ox,k.ol,by rw[YB];have:=v.tot;have:=k.tot;omega⟩
def oV(w:8000000000000<N)(t:Int)(h0:0<=to){p:xq}(y:p.length<=1000)(l:∀x∈p,0<=x)(z:0<p.sum):MU N t to p=some [⟨t,to,p⟩]:=by
 obtain⟨i,c,a⟩:∃(i:Nat)(A:i<p.length),0<p[i]:=by
  apply Ajl;intro d;have:p.sum<=p.length*0:=Ls λx m=>by
   obtain⟨i,c,rfl⟩:=Ake.1 m;have:=d;apply Ajl;intro A;exact d ⟨i,c,Ω⟩
  omega
 have o:∃j:Int,0<=j/\GK N p (λx=>JI N x)=some j:=by
  unfold GK;have:∀(n k:Nat),p.length<n+k->k<=i->∃j:Int,0<=j/\Dn N p (λx=>JI N x) (FD N) n (k:Int)=some j:=by
   intro n
   induction n with
   |zero=>intro k q s;omega
   |succ n u=>
    intro k q s;have g:k<p.length:=Ω
    simp only[Dn,JI];rw[ER g,Ago,BC g,BA Ω,Agm,Agm];by_cases A:0<p[k]
    ·rw[Ag8 A];exact⟨(k:Int),Ω,rfl⟩
    ·rw[Agx A,Agq];have:k≠i:=λe=>by subst e;exact A a
     exact u (k+1) Ω Ω
  exact this N 0 Ω (Agr _)
 obtain⟨j,b,v⟩:=o;unfold MU Gt;rw[v,Agx (show ¬to<0 from Ω),Agq,Agm,Agm,Ag8 b,Ahm,Agm,Agq,Nq N Ω,Agm,Fu (by simp)];rfl
def Xs{α}{l:List α}{x:α}(a:l[k]? =some x):upd l (k:Int) x=l:=by
 apply Ah1;intro i;by_cases e:k=i
 ·subst e;rw[HO (Ag0.1 a).1,a]
 ·rw[JA e]
def Wm(I:8000000000000<N){b:AF}{H:Int}{W:Nat}(V:w.s.B=H)(X:W<=1000)(C:J4 b.A.length W w.s.D)(Y:p<b.A.length)(o:Aa8 b W p e)(d:w.s.O.length=W)(F:w.moves.length<=1000000)(hs:w.sent.length<=1000000):
  ∃r l x t,ID N w (p:Int) e=some r/\w.s.D[p]? =some x/\e.take x=some (t,JZ x t)/\Yq t x/\r.1=upd w.s.D (p:Int) (JZ x t)/\XJ b H N W p w.s.D w.s.O w.moves w.sent r.1 r.2.1 r.2.2.1 r.2.2.2 l/\l=if t.sum<=0 then [] else [⟨H,(p:Int),e.to_,e.way,t⟩]:=by
 obtain⟨x,Z,c,n⟩:=C.ix Y;obtain⟨t,G,u⟩:=o.tk x n;obtain⟨Q,s2,i⟩:=u.sub n;have J:w.s.D.getD p []=x:=by simp[Ahc,c]
 have v:Fa (upd w.s.D (p:Int) (JZ x t))=Fa w.s.D-t.sum:=by rw[SF c,s2];omega
 unfold ID;rw[Z,Agm,Agm,G,Agm,Agm,Agm,i.total I X,Agm];by_cases h0:t.sum<=0
 ·rw[Ag8 h0,Ago];have hz:JZ x t=x:=cK n.len i.len (XY i.nn h0);refine⟨_,[],x,t,rfl,c,G,u,rfl,?_,by rw[Agp h0]⟩;show XJ b H N W p w.s.D w.s.O w.moves w.sent (upd w.s.D (p:Int) (JZ x t)) w.s.O w.moves w.sent []
  rw[hz,Xs c];exact XJ.nil C d
 ·have y:Aea b H W p ⟨H,(p:Int),e.to_,e.way,t⟩:=⟨rfl,rfl,o.way,o.to,i,by show 0<t.sum;omega⟩
  have j:Sb [(⟨H,(p:Int),e.to_,e.way,t⟩:AM)] w.s.D:=⟨⟨x,by show w.s.D[((p:Int)).toNat]? =_;rw[Ahl];exact c,u⟩,trivial⟩
  have k:upd w.s.D (p:Int) (JZ x t)=Ra w.s.D [(⟨H,(p:Int),e.to_,e.way,t⟩:AM)]:=by
   show _=upd w.s.D (p:Int) (JZ (w.s.D.getD ((p:Int)).toNat []) t)
   rw[Ahl,J]
  rw[Agx h0,Agq,Fu (by simp;omega),V];by_cases g:e.to_= -1
  ·obtain⟨a,U,K⟩:=jJ I (p:=w.s.O) (q:=t) Ω (by rw[i.len];omega);rw[Ag8 g,Ago,U,Agm];refine⟨_,[⟨H,(p:Int),e.to_,e.way,t⟩],x,t,rfl,c,G,u,rfl,⟨λm F=>by rw[Aho.1 F];exact y,rfl,k,?_,?_,j,C.upd _ Q,?_,?_⟩,by rw[Agn h0]⟩
   ·show a=if e.to_<0 then(Hs N w.s.O t).getD [] else _
    rw[Agp Ω,U];rfl
   ·show w.sent=w.sent++_
    rw[show([(⟨H,(p:Int),e.to_,e.way,t⟩:AM)].filterMap (MN b H))=[] by simp[MN,g],Ahz]
   ·show a.length=W
    rw[K,d,i.len,Nat.max_self]
   ·show Fa (upd _ _ _)+Lv _=_
    rw[v];simp[Lv]
  ·have z:=o.to.resolve_left g;rw[Agx g,Agq,oV I _ z.1 (by rw[i.len];omega) i.nn Ω,Agm,Fu (by simp;omega)];refine⟨_,[⟨H,(p:Int),e.to_,e.way,t⟩],x,t,rfl,c,G,u,rfl,⟨λm F=>by rw[Aho.1 F];exact y,rfl,k,?_,?_,j,C.upd _ Q,d,?_⟩,by rw[Agn h0]⟩
   ·show w.s.O=if e.to_<0 then _ else w.s.O
    rw[Agn Ω]
   ·show w.sent++_=w.sent++_
    congr 1;have M:¬e.to_<0:=Ω
    simp only[List.filterMap_cons,List.filterMap_nil,MN,Agn M,Ahl];rw[o.dl]
   ·show Fa (upd _ _ _)+Lv _=_
    rw[v];simp[Lv]
def R6{W:Nat}(a:18446744073709551616<N)(b:W<=64)(n:Int):∀x,PX W x->∃t,AQ N n x=some (t,JZ x t)/\Yq t x/\t.sum=max 0 (min n x.sum):=λx c=>by
 obtain⟨t,e,d,g⟩:=oE a b c n;unfold AQ;rw[e,Agm];exact⟨t,rfl,d,g⟩
def pJ{W:Nat}(a:8000000000000<N)(d:W<=64)(t:FO):∀x,PX W x->∃y,EN N t x=some (y,JZ x y)/\Yq y x:=λx b=>by
 obtain⟨y,e,c,_⟩:=pK a Ω b t.Bi t.Bd;unfold EN;rw[e,Agm];exact⟨y,rfl,c⟩
def XL(b:AF)(W p:Nat)(l:List AD):Prop:=∀e∈l,Aa8 b W p e
def XL.snoc{b:AF}{W:Nat}{l:List AD}(d:XL b W p l)(c:Aa8 b W p e):XL b W p (l++[e]):=λx a=>by
 rcases Ahi.1 a with a|a
 ·exact d x a
 ·rw[Aho.1 a];exact c
def pt(v n d:Int):Int:=(Aba v n d).1
def sl(N:Nat)(a b:Int):Int:=(G9 N a b).getD 0
def slN{b a q:Nat}(hd:0<a)(g:b<=a)(c:q=b*1099511627776/a)(d:r=b*1099511627776%a):q<=1099511627776/\b*1099511627776=q*a+r/\r<a:=by
 refine⟨?_,by rw[c,d];exact bB _ _,by rw[d];exact Aip _ hd⟩;rw[c];exact Nat.div_le_of_le_mul (by rw[Ajb a];rw[Ajb b];exact Nat.mul_le_mul_left _ g)
structure Abe(N:Nat)(b:AF)(l:BG):Prop where
 base:LA b l
 gate:l.H=0->I2 N l.Ae.Aw l.As=some true/\I2 N l.As l.Ae.Ax=some true/\(0<=l.W/\l.W<=64)/\(0<=l.Ag/\l.Ag<=l.W)/\(0<=l.Bb/\l.Bb<=1125899906842624)/\(l.Al=0->l.Aq=0)/\(l.C≠ -1\/l.Al=0)
 weir:l.H=1\/l.H=5->0<=l.Bc/\l.Bc<=1125899906842624
 pump:l.H=2->(0<=l.Y/\l.Y<=1125899906842624)/\(1<=l.W/\l.W<=64)/\(0<=l.Ag/\l.Ag<=l.W)
 siph:l.H=3->(0<=l.Az/\l.Az<=1125899906842624)/\(0<=l.Ba/\l.Ba<=1125899906842624)/\l.Ba<l.Az
 seep:l.H=4->(l.Al=0->l.Aq=0)
 none_:l.H≠0->l.H≠2->l.W=0/\l.Ag=0
def aT{a b:Int}(d:V4 a b=true):b=0->a=0:=by
 intro c;simp only[V4,Agu,Ahg,Ahb]at d;exact d.2.resolve_left λd=>d c
def ZK(t:18446744073709551616<N){b:AF}(d:LA b l)(V:Gp N l=some true)(a:Fs N l=some true):Abe N b l:=by
 have G:=d.kind;have k:l.H≠0->l.H≠2->l.W=0/\l.Ag=0:=by
  intro h0 g;unfold Fs at a;rw[Agx h0,Ag8 g]at a;simp only[Bool.not_false,Bool.true_and]at a;cases n:(decide (0<(l.As.length:Int))||decide (0<(l.Ae.Aw.length:Int))||decide (0<(l.Ae.Ax.length:Int))||decide (l.Bb≠0))with
  |true=>rw[n]at a;cases a
  |false=>
   rw[n,Agq]at a;cases i:(decide (l.W≠0)||decide (l.Ag≠0))with
   |true=>rw[i]at a;cases a
   |false=>
    simp only[Ahk,Ahd]at i;exact⟨Decidable.not_not.1 i.1,Decidable.not_not.1 i.2⟩
 unfold Gp at V;by_cases k0:l.H=0
 ·obtain⟨n,i,A,I,J⟩:=d.gate k0;obtain⟨K,u⟩:=Rz t l.Ae.Aw l.As;obtain⟨M,v⟩:=Rz t l.As l.Ae.Ax;rw[Ag8 k0,Ago,Rg Ω n,Rg Ω i,Rg Ω A]at V;simp only[u,v,Ow,NV,SP,Agm,HB,Rh]at V;have V:=Ags V;simp only[Agu,Ahg,Ahb]at V;obtain⟨⟨⟨⟨⟨⟨⟨⟨⟨_,_⟩,_⟩,o⟩,q⟩,B⟩,C⟩,D⟩,F⟩,s⟩:=V;subst o;subst q;exact⟨d,λ_=>⟨u,v,MC B,MC C,MJ D,aT F,s⟩,λV=>Ω,λV=>Ω,λV=>Ω,λV=>Ω,k⟩
 ·rw[Agx k0,Agq]at V;have w:∀c:Bool,(c=true↔l.H=1\/l.H=5)->Ee N l c=some true->Abe N b l:=by
   intro c x V;unfold Ee at V;simp only[Ow,NV,SP,Agm,HB,Rh]at V;cases c
   ·have Q:¬(l.H=1\/l.H=5):=λV=>by have:=x.2 V;cases this
    rw[Agq]at V;by_cases y:l.H=2
    ·rw[Ag8 y,Ago]at V;have V:=Ags V;simp only[Agu]at V;obtain⟨⟨m,g⟩,j⟩:=V;exact⟨d,λV=>Ω,λV=>Ω,λ_=>⟨MJ m,MC g,MC j⟩,λV=>Ω,λV=>Ω,k⟩
    ·rw[Agx y,Agq]at V;by_cases z:l.H=3
     ·rw[Ag8 z,Ago]at V;have V:=Ags V;simp only[Agu,Ahb]at V;obtain⟨⟨⟨⟨m,g⟩,j⟩,o⟩,q⟩:=V;exact⟨d,λV=>Ω,λV=>Ω,λV=>Ω,λ_=>⟨MJ j,MJ o,q⟩,λV=>Ω,k⟩
     ·rw[Agx z,Agq]at V;have V:=Ags V;simp only[Agu,Ahb]at V;obtain⟨⟨⟨m,g⟩,j⟩,o⟩:=V;exact⟨d,λV=>Ω,λV=>Ω,λV=>Ω,λV=>Ω,λ_=>aT j,k⟩
   ·have U:=x.1 rfl;rw[Ago]at V;have V:=Ags V;simp only[Agu]at V;obtain⟨⟨m,g⟩,j⟩:=V;exact⟨d,λV=>Ω,λ_=>MJ m,λV=>Ω,λV=>Ω,λV=>Ω,k⟩
  by_cases p:l.H=1
  ·rw[Ag8 p,Ago]at V;exact w true (by simp[p]) V
  ·rw[Agx p,Agq]at V;exact w _ (by simp[p]) V
def dI(c:18446744073709551616<N){b:AF}(d:Ii b)(p:∀l∈b.E,LA b l)(z:FY N b=some true):∀l∈b.E,Abe N b l:=by
 have v:=d.pl;have w:=d.li;unfold FY at z;rcases KZ b.E.length (CY N b (Dv N)) (Dv N) (λi=>∀l,b.E[i]? =some l->Abe N b l) (λn k z=>by
  simp only[CY];rw[Ek z];rfl) (λn k z=>by
  simp only[CY];obtain⟨x,g,y⟩:=V8 c b.E[k];obtain⟨q,j⟩:=Ve N b.E[k];rw[ER z,Ago,BC z];simp only[Agm,Ow,SO N _ (show b.A.length<4611686018427387904 from Ω),Sm N b _ _ (show b.A.length<4611686018427387904 from Ω),g,j,HB,Mw,BA (show k<4611686018427387904 from Ω)];generalize m:(_|| !q)=B
  cases B
  ·simp only[Ahk,Ai1]at m;obtain⟨⟨_,s⟩,t⟩:=m;subst s;subst t;refine .inr ⟨λl a=>?_,rfl⟩;have:l=b.E[k]:=by simpa[z]using a.symm
   rw[this];exact ZK c (p _ (Agy z)) g j
  ·exact .inl rfl) N 0 Ω (Agr _)with u|⟨hp,_⟩
 ·rw[show CY N b (Dv N) N 0=some false from u]at z;cases z
 ·intro l a;obtain⟨i,o,rfl⟩:=Ake.1 a;exact hp i (Agr _) o _ (by simp[o])
def Holds(n:Nat)(s:xq)(g:Nat->Int):Prop:=s.length=n/\∀i,i<n->s[i]? =some (g i)
def Holds.ix{n:Nat}{s:xq}{g:Nat->Int}(c:Holds n s g){a:Int}(h0:0<=a)(b:a<n):ix s a=some (g a.toNat):=by
 unfold Go.Proofs.YtabonambpbofgaaGreat.ix;rw[Agn Ω];exact c.2 _ Ω
def Holds.upd{n:Nat}{s:xq}{g:Nat->Int}(j:Holds n s g){a:Int}(h0:0<=a)(c:a<n)(v:Int):Holds n (upd s a v) (λi=>if(i:Int)=a then v else g i):=by
 refine⟨by rw[M0,j.1],λi b=>?_⟩;unfold Go.Proofs.YtabonambpbofgaaGreat.upd;rw[List.getElem?_set];have d:=j.1;show _=some (if(i:Int)=a then v else g i)
 by_cases e:(i:Int)=a
 ·rw[Agp Ω,Agp Ω,Agp e]
 ·rw[Agn Ω,Agn e];exact j.2 i b
def Holds.congr{n:Nat}{s:xq}{g a:Nat->Int}(c:Holds n s g)(e:∀i,i<n->g i=a i):Holds n s a:=⟨c.1,λi b=>(c.2 i b).trans (Agt some (e i b))⟩
def Agb(s:AH)(k:Nat):A8:=s.Q.getD k default
structure mX(W:Nat)(out:xq)(ms:List AM)(sn:List AY)(M:Nat):Prop where
 out:out.length=W
 mv:ms.length<=M
 sn:sn.length<=M
def mX.next{b:AF}{H:Int}{W:Nat}{j:List xq}{a:xq}{i g:List AY}{l:List AM}(n:mX W out ms i M)(k:XJ b H N W p o out ms i j a d g l){c:Nat}(m:l.length<=c):mX W a d g (M+c):=
 ⟨k.ol,by rw[k.ms_,Ahh];have:=n.mv;omega,by
  rw[k.sn_,Ahh];have:=List.length_filterMap_le (MN b H) l;have:=n.sn;omega⟩
def mX.le{W a:Nat}{b:List AY}(d:mX W out ms b M)(c:M<=a):mX W out ms b a:=⟨d.out,Ah2 d.mv c,Ah2 d.sn c⟩
def Wp{α}[Decidable c]{x:α}:(if c then [] else [x]).length<=1:=by split<;>simp
structure Afq(b:AF)(s:AH):Prop where
 own:J4 b.A.length b.I.length s.D
 que:QX b.A.length b.I.length s.F
 tot:Fa s.D+GR s.F<=1125899906842624
 rem:s.P.length=b.A.length
 gates:s.Q.length=b.E.length
 inn:s.K.length=b.I.length
 inn0:∀x∈s.K,0<=x
 inns:s.K.sum<=1152921504606846976
 out:s.O.length=b.I.length
structure Aeb(b:AF)(H:Int)(N W k:Nat)(o:List xq)(out:xq)(ms:List AM)(o':List xq)(out':xq)(ms':List AM)(sn':List AY)(l:List AM):Prop where
 mv:∀m∈l,∃p,p<k/\Aea b H W p m
 ord:l.Pairwise λa c=>a.J<=c.J
 ms_:ms'=ms++l
 own:o'=Ra o l
 out_:out'=Sx N out l
 sn_:sn'=l.filterMap (MN b H)
 val:Sb l o
 ox:J4 b.A.length W o'
 ol:out'.length=W
 tot:Fa o'+Lv l=Fa o
def Aeb.next{b:AF}{H:Int}{W:Nat}{y t:List xq}{g d:xq}{n:List AM}{v:List AY}{l z:List AM}(G:Aeb b H N W k o out ms y g u v l)(q:XJ b H N W k y g u v t d n s z):Aeb b H N W (k+1) o out ms t d n s (l++z):=
 ⟨λm w=>(Ahi.1 w).elim (λw=>by obtain⟨p,A,x⟩:=G.mv m w;exact⟨p,Ω,x⟩) (λw=>⟨k,Ω,q.mv m w⟩),
  List.pairwise_append.2 ⟨G.ord,Aka.2 λi j B C _=>by
  rw[(q.mv _ (Agy B)).fr,(q.mv _ (Agy C)).fr];exact Ahq _,λa D c F=>by
  obtain⟨p,A,x⟩:=G.mv a D;rw[x.fr,(q.mv c F).fr];omega⟩,
  by rw[q.ms_,G.ms_,Ah0],by rw[q.own,G.own];unfold Ra;rw[Ajo],by rw[q.out_,G.out_];unfold Sx;rw[Ajo],by rw[q.sn_,G.sn_,List.filterMap_append],G.val.app (by rw[<-G.own];exact q.val),q.ox,q.ol,by rw[YB];have:=G.tot;have:=q.tot;omega⟩
def Vo(a:8000000000000<N)(p:xq)(W:Nat):∃v,LH N p (W:Int)=some v/\(v=true->PX W p/\W<=16):=by
 unfold LH;cases b:((decide (0<=(W:Int))&&decide ((W:Int)<=16))&&decide ((p.length:Int)=(W:Int)))
 ·exact⟨_,rfl,λd=>by cases d⟩
 ·simp only[Agu,Ahb]at b;obtain⟨v,c,k⟩:=dA a (p:=p) Ω;rw[Ago,c];exact⟨_,rfl,λd=>⟨⟨Ω,(k d).1,(k d).2⟩,Ω⟩⟩
def Xm(q:8000000000000<N){l:xq}(t:l.length<=1000)(d:0<=m/\m<=2305843009213693952):∃r,KF N l m=some r/\(r.2=true->(∀x∈l,0<=x)/\l.sum<=m/\r.1=l.sum):=by
 unfold KF;rcases M3 l.length (λn i s=>Gr N l m (IZ N) n s i) (IZ N) (some (0,false)) (λk s=>(∀x∈l.take k,0<=x)/\s=(l.take k).sum/\s<=m/\0<=s) (λn k s a=>by
  simp only[Gr];rw[Ek a];rfl) (λn k s g a=>by
  obtain⟨b,c,j,o⟩:=g;simp only[Gr];rw[ER a,Ago,BC a,Agm,BA Ω,D6 (n:=m-s) Ω Ω];cases p:(decide (l[k]<0)||decide (m-s<l[k]))
  ·simp only[Ahk,Ahd]at p;rw[Agq,D6 (n:=s+l[k]) Ω Ω];exact .inr ⟨_,⟨M1 a b Ω,by rw[LZ a,c],Ω,Ω⟩,rfl⟩
  ·exact .inl rfl) N 0 0 ⟨by simp,rfl,d.1,Ahq _⟩ Ω (Agr _)with e|⟨s,⟨b,c,j,o⟩,e⟩
 ·exact⟨_,e,λu=>by cases u⟩
 ·rw[Ahe]at b c;exact⟨_,e,λ_=>⟨b,Ω,c⟩⟩
def dH(j:8000000000000<N)(b:AF)(s:AH)(W:s.D.length<=1000)(X:s.F.length<=4000000000000):∃r,Lb N b s=some r/\(r.2=true->(∀x∈s.D,PX b.I.length x)/\(∀l∈s.F,(PX b.I.length l.N/\0<=l.C/\l.C<b.A.length)/\s.B<=l.Av/\0<l.N.sum)/\r.1=Fa s.D+GR s.F/\r.1<=1125899906842624):=by
 unfold Lb;rcases M3 s.D.length (λn i t=>GS N b s (GT N b s) n t i) (GT N b s) (some (0,false)) (λk t=>(∀x∈s.D.take k,PX b.I.length x)/\t=Fa (s.D.take k)/\0<=t/\t<=1125899906842624) (λn k t a=>by
  simp only[GS];rw[Ek a];rfl) (λn k t q a=>by
  obtain⟨m,w,H,J⟩:=q;simp only[GS];obtain⟨v,y,z⟩:=Vo j s.D[k] b.I.length;rw[ER a,Ago,BC a,Agm,y,Agm,BA Ω];cases v
  ·exact .inl rfl
  ·obtain⟨c,d⟩:=z rfl;have Q:=c.mv;have U:=c.sum0;rw[Ahm,Agq,c.total j Ω,Agm,D6 (n:=t+(s.D[k]).sum) Ω Ω];by_cases g:1125899906842624<t+(s.D[k]).sum
   ·rw[Ag8 g];exact .inl rfl
   ·rw[Agx g];exact .inr ⟨_,⟨M1 a m c,by rw[No a,w],Ω,Ω⟩,rfl⟩) N 0 0 ⟨by simp,rfl,Ahq _,by decide⟩ Ω (Agr _)with e|⟨t,⟨m,w,H,J⟩,e⟩
 ·exact⟨_,e,λZ=>by cases Z⟩
 ·rw[show GS N b s (GT N b s) N 0 0=GT N b s t from e];rw[Ahe]at m w;unfold GT;rcases M3 s.F.length (λn i t=>HQ N b s (I6 N) n t i) (I6 N) (some (0,false)) (λk u=>(∀l∈s.F.take k,(PX b.I.length l.N/\0<=l.C/\l.C<b.A.length)/\s.B<=l.Av/\0<l.N.sum)/\u=t+GR (s.F.take k)/\0<=u/\u<=1125899906842624) (λn k t a=>by
   simp only[HQ];rw[Ek a];rfl) (λn k u q a=>by
   obtain⟨o,G,V,K⟩:=q;simp only[HQ];obtain⟨v,y,z⟩:=Vo j (s.F[k]).N b.I.length;rw[ER a,Ago,BC a,BA Ω];simp only[Agm,Oo,y,HB];cases g:cond (decide ((s.F[k]).Av<s.B)) true (!(decide (0<=(s.F[k]).C)&&decide ((s.F[k]).C<(b.A.length:Int))))
   ·rw[Mw,Ahk]at g;obtain⟨M,p⟩:=g;have M:=Akb M;rw[Ai1]at p;obtain⟨p,Y⟩:=Ov.1 p;cases v
    ·exact .inl rfl
    ·obtain⟨c,d⟩:=z rfl;have Q:=c.mv;have U:=c.sum0;simp only[Ahm,Agq];rw[c.total j Ω,Agm,D6 (n:=u+(s.F[k]).N.sum) Ω Ω];cases hd:(decide ((s.F[k]).N.sum<=0)||decide (1125899906842624<u+(s.F[k]).N.sum))
     ·simp only[Ahk,Ahd]at hd;exact .inr ⟨_,⟨M1 a o ⟨⟨c,p,Ω⟩,Ω,Ω⟩,by rw[Mu a,G];omega,Ω,Ω⟩,rfl⟩
     ·exact .inl rfl
   ·exact .inl rfl) N 0 t ⟨by simp,by simp[GR],H,J⟩ Ω (Agr _)with d|⟨u,⟨o,G,V,K⟩,d⟩
  ·exact⟨_,d,λZ=>by cases Z⟩
  ·rw[Ahe]at o G;exact⟨_,d,λ_=>⟨m,o,by show u=_;omega,K⟩⟩
structure Agf(b:AF)(s:AH):Prop where
 x:Afq b s
 hour:0<=s.B/\s.B<=16777216
 gts:∀(k:Nat) l g,b.E[k]? =some l->s.Q[k]? =some g->(0<=g.Z/\g.Z<=l.W)/\(0<=g.Aa/\g.Aa<=l.W)
 at_:∀l∈s.F,s.B<=l.Av/\0<l.N.sum
 out0:∀x∈s.O,0<=x
 outs:s.O.sum<=s.K.sum+1125899906842624-(Fa s.D+GR s.F)
structure Yi(b:AF)(s:AH):Prop where
 rg:Agf b s
 rem:∀(k:Nat) p m,b.A[k]? =some p->s.P[k]? =some m->0<=m/\m<=max 0 (p.T-1)
 opn:∀(k:Nat) l g,b.E[k]? =some l->s.Q[k]? =some g->g.Am=true->l.H=5\/l.H=3
def cP(M:8000000000000<N){b:AF}(U:Ii b)(w:∀p∈b.A,JV b p)(s:AH)(hq:s.F.length<=4000000000000):∃v,LE N b s=some v/\(v=true->Yi b s):=by
 have hP:=U.pl;have hL:=U.li;have hW:=U.own;unfold LE;generalize hB:(_||decide ((s.O.length:Int)≠(b.I.length:Int)))=B
 cases B
 ·simp only[Ahk,Ahd,ne_eq,Decidable.not_not]at hB;obtain⟨⟨⟨⟨⟨⟨b1,b2⟩,b3⟩,b4⟩,b5⟩,b6⟩,b7⟩:=hB;rw[Agq];rcases M3 b.A.length (λn i (_:Unit)=>HJ N b s (HL N b s) n i) (λ_=>HL N b s) (some false) (λi _=>∀(k:Nat) p m,k<i->b.A[k]? =some p->s.P[k]? =some m->0<=m/\m<=max 0 (p.T-1)) (λn k t c=>by
   simp only[HJ];rw[Ek c];rfl) (λn k t V c=>by
   simp only[HJ];have y:k<s.P.length:=Ω
   have hd:=(w _ (Agy c)).den;unfold KW at hd;rw[ER c,Ago,BC c,BC y,BA Ω];simp only[Agm,HB,Mw];rw[D6 (n:=(b.A[k]).T-1) Ω Ω];cases J:(decide (s.P[k]<0)||decide (max 0 ((b.A[k]).T-1)<s.P[k]))
   ·simp only[Ahk,Ahd]at J;refine .inr ⟨(),λj p m hj q z=>?_,rfl⟩;by_cases d:j=k
    ·subst d;rw[Agw c]at q;rw[Agw y]at z;cases q;cases z;omega
    ·exact V j p m Ω q z
   ·exact .inl rfl) N 0 () (λk p m h=>Ω) Ω (Agr _)with e|⟨_,i1,e⟩
  ·exact⟨_,e,λh=>by cases h⟩
  ·rw[show HJ N b s (HL N b s) N 0=HL N b s from e];unfold HL;rcases M3 b.E.length (λn i (_:Unit)=>HI N b s (HK N b s) n i) (λ_=>HK N b s) (some false) (λi _=>∀(k:Nat) l g,k<i->b.E[k]? =some l->s.Q[k]? =some g->((0<=g.Z/\g.Z<=l.W)/\(0<=g.Aa/\g.Aa<=l.W))/\(g.Am=true->l.H=5\/l.H=3)) (λn k t c=>by
    simp only[HI];rw[Ek c];rfl) (λn i t V c=>by
    simp only[HI];have y:i<s.Q.length:=Ω
    rw[ER c,Ago,BC c,BC y,BA Ω];simp only[Agm];cases J:(((decide ((s.Q[i]).Z<0)||decide ((b.E[i]).W<(s.Q[i]).Z))||decide ((s.Q[i]).Aa<0))||decide ((b.E[i]).W<(s.Q[i]).Aa))
    ·simp only[Ahk,Ahd]at J;obtain⟨⟨⟨c1,c2⟩,c3⟩,c4⟩:=J;rw[Agq];cases X:(((s.Q[i]).Am&&decide ((b.E[i]).H≠5))&&decide ((b.E[i]).H≠3))
     ·refine .inr ⟨(),λk l g ae a o=>?_,rfl⟩;by_cases d:k=i
      ·subst d;rw[Agw c]at a;rw[Agw y]at o;cases a;cases o;refine⟨⟨⟨Ω,Ω⟩,Ω,Ω⟩,λY=>?_⟩;rw[Y,Bool.true_and,Bool.and_eq_false_iff]at X;simp only[Ahd,ne_eq,Decidable.not_not]at X;exact X
      ·exact V k l g Ω a o
     ·exact .inl rfl
    ·exact .inl rfl) N 0 () (λk l g h=>Ω) Ω (Agr _)with e|⟨_,i2,e⟩
   ·exact⟨_,e,λh=>by cases h⟩
   ·rw[show HI N b s (HK N b s) N 0=HK N b s from e];unfold HK;obtain⟨r,er,k1⟩:=dH M b s Ω hq;rw[er,Agm];cases aa:r.2
    ·exact⟨_,rfl,λh=>by cases h⟩
    ·obtain⟨k1,k2,k3,k4⟩:=k1 aa;have C:J4 b.A.length b.I.length s.D:=⟨Ω,k1⟩
     have G:QX b.A.length b.I.length s.F:=λl a=>(k2 l a).1;have af:=C.sum0;have ab:=(FP G 0).2;rw[Ah4,show GR ([]:List AY)=0 from rfl]at ab;obtain⟨u,hu,ku⟩:=Xm M (l:=s.K) Ω (m:=1152921504606846976) (by decide);rw[Ahm,Agq,hu,Agm];cases ac:u.2
     ·exact⟨_,rfl,λh=>by cases h⟩
     ·obtain⟨u1,u2,u3⟩:=ku ac;have u0:=KX u1;rw[D6 (n:=u.1+1125899906842624) Ω Ω,D6 (n:=u.1+1125899906842624-r.1) Ω Ω];obtain⟨x,hx,kx⟩:=Xm M (l:=s.O) Ω (m:=u.1+1125899906842624-r.1) ⟨Ω,Ω⟩;rw[Ahm,Agq,hx,Agm];refine⟨_,rfl,λad=>?_⟩;obtain⟨x1,x2,x3⟩:=kx ad;exact⟨⟨⟨C,G,Ω,Ω,Ω,Ω,u1,u2,Ω⟩,⟨Ω,Ω⟩,λk l g a o=>(i2 k l g (Ag0.1 a).1 a o).1,λl a=>(k2 l a).2,x1,Ω⟩,λk p m q z=>i1 k p m (Ag0.1 q).1 q z,λk l g a o=>(i2 k l g (Ag0.1 a).1 a o).2⟩
 ·exact⟨_,rfl,λh=>by cases h⟩
structure Yr(l:BG)(g:A8):Prop where
 pos:0<=g.Z/\g.Z<=l.W
 tgt:0<=g.Aa/\g.Aa<=l.W
 opn:g.Am=true->l.H=5\/l.H=3
def PN(b:AF)(a:List A8):Prop:=a.length=b.E.length/\∀(k:Nat) l g,b.E[k]? =some l->a[k]? =some g->Yr l g
def VA(b:AF):Prop:=∀l∈b.E,(0<=l.W/\l.W<=64)/\0<=l.Ag/\l.Ag<=l.W
def PN.at_{b:AF}(j:PN b a){i:Int}(c:ix b.E i=some l)(d:ix a i=some g):Yr l g:=j.2 _ _ _ (FQ c).2 (FQ d).2
def PN.upd{b:AF}{j:List A8}(p:PN b j){i:Int}(d:ix b.E i=some l)(m:Yr l g):PN b (upd j i g):=by
 obtain⟨h0,d⟩:=FQ d;refine⟨by rw[Ni];exact p.1,λk n o c a=>?_⟩;unfold Go.Proofs.YtabonambpbofgaaGreat.upd at a;by_cases e:i.toNat=k
 ·rw[e]at d a;rw[d]at c;cases c;rw[Aiz (by rw[p.1];exact(Ag0.1 d).1)]at a;cases a;exact m
 ·rw[Aiu e]at a;exact p.2 k n o c a
def Yr.fault{a:A8}{k:Int}(m:Yr l g)(e:Iq N l g k=some a):Yr l a:=by
 have d:∀c:Bool,H2 N l g k (HM N g) c=some a->Yr l a:=λc e=>by
  unfold H2 at e;cases c
  ·cases e;exact⟨m.pos,m.tgt,m.opn⟩
  ·by_cases b:l.H=5
   ·rw[Ag8 b]at e;cases e;exact⟨m.pos,m.tgt,λ_=> .inl b⟩
   ·rw[Agx b]at e;cases e;exact⟨m.pos,m.tgt,m.opn⟩
 unfold Iq at e;cases h0:decide (k=0)<;>rw[h0]at e
 ·cases i:decide (k=1)<;>rw[i]at e
  ·cases j:decide (k=2)<;>rw[j]at e
   ·exact d (decide (k=3)) e
   ·exact d true e
  ·cases e;exact⟨m.pos,m.tgt,m.opn⟩
 ·cases e;exact⟨m.pos,m.tgt,m.opn⟩
def Yr.aim{a:A8}(c:0<=l.W)(o:Yr l g)(e:Kb N l g t=some a):Yr l a:=by
 obtain⟨x,d,i,n,j⟩:=mT N l g t;have b:a=x:=Ags (e.symm.trans d);have k:a.Am=g.Am:=by
  unfold Kb at e;cases m:decide (l.W≠0)<;>rw[m]at e
  ·cases e;rfl
  ·obtain⟨y,_,e⟩:=bd e;cases e;rfl
 exact⟨by rw[b,i];exact o.pos,by rw[b];exact j c o.tgt.1 o.tgt.2,by rw[k];exact o.opn⟩
def Yr.move{a:A8}(b:(0<=l.W/\l.W<=64)/\0<=l.Ag/\l.Ag<=l.W)(k:Yr l g)(e:I0 N l g=some a):Yr l a:=by
 have i:gM N l g=a:=Ags ((kU N l g).symm.trans e);have c:=(xK N l g b.1.2 b.2 k.pos k.tgt).1;rw[i]at c;have d:a.Aa=g.Aa/\a.Am=g.Am:=by
  unfold I0 at e;cases j:g.Ay<;>rw[j]at e
  ·rw[Agq]at e;obtain⟨_,_,e⟩:=bd e;obtain⟨_,_,e⟩:=bd e;obtain⟨_,_,e⟩:=bd e;obtain⟨_,_,e⟩:=bd e;cases e;exact⟨rfl,rfl⟩
  ·cases e;exact⟨rfl,rfl⟩
 exact⟨c,by rw[d.1];exact k.tgt,by rw[d.2];exact k.opn⟩
def Yr.siphon{b:A8}{v:Int}(d:Yr l g)(e:IL N l g v=some b):Yr l b:=by
 unfold IL at e;by_cases a:l.H=3
 ·rw[show decide (l.H≠3)=false by simp[a],Agq]at e;cases c:decide (l.Az<=v)<;>rw[c]at e
  ·cases hd:decide (v<=l.Ba)<;>rw[hd]at e<;>cases e
   ·exact⟨d.pos,d.tgt,λ_=> .inr a⟩
   ·exact⟨d.pos,d.tgt,λ_=> .inr a⟩
  ·cases e;exact⟨d.pos,d.tgt,λ_=> .inr a⟩
 ·rw[show decide (l.H≠3)=true by simp[a],Ago]at e;cases e;exact d
def Vw{N:Nat}{w:AS}(j:VA w.b):∀(n:Nat)(i:Int){a r:List A8},PN w.b a->D3 N w n i a=some r->PN w.b r
 |0,_,_,_,_,e=>by cases e
 |n+1,i,a,r,q,e=>by
  simp only[D3]at e;cases k:decide (i<(w.b.E.length:Int))<;>rw[k]at e
  ·cases e;exact q
  ·rw[Ago]at e;obtain⟨l,c,e⟩:=bd e;obtain⟨o,_,e⟩:=bd e;obtain⟨g,m,e⟩:=bd e;obtain⟨p,d,e⟩:=bd e;obtain⟨_,_,e⟩:=bd e;obtain⟨_,_,e⟩:=bd e;exact Vw j n _ (q.upd c ((q.at_ c m).move (j l (Ahx (FQ c).2)) d)) e
def Sy{N:Nat}{w:AS}(a:VA w.b):∀(n:Nat)(i:Int){c r:List A8},PN w.b c->C4 N w (Dj N w) n i c=some r->PN w.b r
 |0,_,_,_,_,e=>by cases e
 |n+1,i,c,r,q,e=>by
  simp only[C4,HT]at e;cases k:decide (i<(w.in_.Ac.length:Int))<;>rw[k]at e
  ·exact Vw a N 0 q e
  ·rw[Ago]at e;obtain⟨x,_,e⟩:=bd e;obtain⟨y,_,e⟩:=bd e;cases y with
   |false=>exact Sy a n _ q e
   |true=>
    rw[Ago]at e;obtain⟨l,d,e⟩:=bd e;obtain⟨o,_,e⟩:=bd e;obtain⟨g,m,e⟩:=bd e;obtain⟨p,j,e⟩:=bd e;obtain⟨_,_,e⟩:=bd e;obtain⟨_,_,e⟩:=bd e;exact Sy a n _ (q.upd d ((q.at_ d m).aim (a l (Ahx (FQ d).2)).1.1 j)) e
def Sz{N:Nat}{w:AS}(a:VA w.b):∀(n:Nat)(i:Int){c r:List A8},PN w.b c->C5 N w (Dk N w) n i c=some r->PN w.b r
 |0,_,_,_,_,e=>by cases e
 |n+1,i,c,r,q,e=>by
  simp only[C5,HU]at e;cases k:decide (i<(w.in_.Ab.length:Int))<;>rw[k]at e
  ·exact Sy a N 0 q e
  ·rw[Ago]at e;obtain⟨x,_,e⟩:=bd e;obtain⟨y,_,e⟩:=bd e;cases y with
   |false=>exact Sz a n _ q e
   |true=>
    rw[Ago]at e;obtain⟨l,j,e⟩:=bd e;obtain⟨o,_,e⟩:=bd e;obtain⟨g,m,e⟩:=bd e;obtain⟨p,d,e⟩:=bd e;obtain⟨_,_,e⟩:=bd e;obtain⟨_,_,e⟩:=bd e;exact Sz a n _ (q.upd j ((q.at_ j m).fault d)) e
def W4{N:Nat}{w:AS}{y:List xq×List AY}{o:List xq}{j:xq}:∀(n:Nat)(i:Int){a:List A8}{r:List xq×List AY×List A8×xq},PN w.b a->Ci N w y o j n i a=some r->PN w.b r.2.2.1
 |0,_,_,_,_,e=>by cases e
 |n+1,i,a,r,t,e=>by
  simp only[Ci,GD]at e;cases k:decide (i<(w.b.E.length:Int))<;>rw[k]at e
  ·cases e;exact t
  ·rw[Ago]at e;obtain⟨l,d,e⟩:=bd e;cases m:decide (l.H=3)<;>rw[m]at e
   ·exact W4 n _ t e
   ·rw[Ago]at e;obtain⟨q,_,e⟩:=bd e;obtain⟨g,p,e⟩:=bd e;obtain⟨_,_,e⟩:=bd e;obtain⟨v,_,e⟩:=bd e;obtain⟨s,c,e⟩:=bd e;obtain⟨_,_,e⟩:=bd e;obtain⟨_,_,e⟩:=bd e;exact W4 n _ (t.upd d ((t.at_ d p).siphon c)) e
def bF{N:Nat}{w:AS}{y:List xq×List AY}:∀(n:Nat)(i:Int){o:List xq}{a:xq}{r:List xq×List AY×List A8×xq},PN w.b w.s.Q->C6 N w y (DY N w y) n i o a=some r->PN w.b r.2.2.1
 |0,_,_,_,_,_,e=>by cases e
 |n+1,i,o,a,r,d,e=>by
  simp only[C6]at e;cases c:decide (i<(w.b.A.length:Int))<;>rw[c]at e
  ·exact W4 N 0 d e
  ·rw[Ago]at e
   iterate 12 (replace e:=(bd e).choose_spec.2)
   exact bF n _ d e
def XA(b:AF)(rem:xq):Prop:=rem.length=b.A.length/\∀(k:Nat) p m,b.A[k]? =some p->rem[k]? =some m->0<=m/\m<=max 0 (p.T-1)
def XA.upd{b:AF}(n:XA b rem){i:Int}{p:Ce}(d:ix b.A i=some p)(g:0<=m/\m<=max 0 (p.T-1)):XA b (upd rem i m):=by
 obtain⟨h0,d⟩:=FQ d;refine⟨by rw[Ni];exact n.1,λk j l c a=>?_⟩;unfold Go.Proofs.YtabonambpbofgaaGreat.upd at a;by_cases e:i.toNat=k
 ·rw[e]at d a;rw[d]at c;cases c;rw[Aiz (by rw[n.1];exact(Ag0.1 d).1)]at a;cases a;exact g
 ·rw[Aiu e]at a;exact n.2 k j l c a
def cW(g:18446744073709551616<N){a:Ce}(hd:0<=a.T/\a.T<=1125899906842624){v:Int}(e:J8 N a v m=some y):0<=y.2/\y.2<=max 0 (a.T-1):=by
 unfold J8 at e;rw[P0 g,Agm]at e;unfold Aba at e;split at e
 ·rename_i i;obtain⟨_,_,⟨j,k⟩,_⟩:=i;have l:=Int.emod_nonneg (v*a.Y) (show a.T≠0 from Ω);have o:=Int.emod_lt_of_pos (v*a.Y) (show 0<a.T from Ω);have d:∀b,0<=b->b<a.T->IE N a (v*a.Y/a.T,v*a.Y%a.T,true) b=some y->0<=y.2/\y.2<=max 0 (a.T-1):=λb h0 p e=>by
   unfold IE at e;simp only at e;rw[D6 (n:=v*a.Y%a.T+b) Ω Ω]at e;by_cases q:v*a.Y%a.T+b<a.T
   ·rw[Ag8 q,Ago]at e;cases e;show 0<=v*a.Y%a.T+b/\v*a.Y%a.T+b<=_
    omega
   ·rw[Agx q,Agq,D6 (n:=v*a.Y%a.T+b-a.T) Ω Ω]at e;cases e;show 0<=v*a.Y%a.T+b-a.T/\v*a.Y%a.T+b-a.T<=_
    omega
  simp only[Ahm,Agq]at e;cases c:(decide (0<=m)&&decide (m<a.T))<;>rw[c]at e
  ·exact d 0 Ω Ω e
  ·simp only[Agu,Ahb]at c;exact d m c.1 c.2 e
 ·simp only[Bool.not_false,Ago]at e;cases e;show(0:Int)<=0/\(0:Int)<=_
  omega
def Vx{N:Nat}{w:AS}{p:Int}{b:List AD}{kj:List xq->xq->List AM->List AY->Option (List xq×xq×xq×List AM×List AY)}:∀(n:Nat)(i:Int){o:List xq}{out:xq}{ms:List AM}{a:List AY}{r},Dm N w p b kj n i o out ms a=some r->∃o out ms a,kj o out ms a=some r
 |0,_,_,_,_,_,_,e=>by cases e
 |n+1,i,o,out,ms,a,r,e=>by
  simp only[Dm]at e;cases c:decide (i<(b.length:Int))<;>rw[c]at e
  ·exact⟨_,_,_,_,e⟩
  ·rw[Ago]at e
   iterate 3 (replace e:=(bd e).choose_spec.2)
   exact Vx n _ e
def V0{p:Int}{a:Ce}{b:List AY}{r}(e:DW N w p a o out ms b rem=some r):r.2.1=rem:=by
 unfold DW at e;obtain⟨_,_,e⟩:=bd e;obtain⟨_,_,e⟩:=bd e;obtain⟨v,_,e⟩:=bd e;cases c:decide (0<BO (v-a.Au))<;>rw[c]at e
 ·cases e;rfl
 ·rw[Ago]at e;obtain⟨_,_,e⟩:=bd e;obtain⟨_,_,e⟩:=bd e;cases e;rfl
def ZJ(j:18446744073709551616<N)(c:∀p∈w.b.A,JV w.b p){p:Int}{r}(q:XA w.b w.s.P)(e:Ho N w p=some r):XA w.b r.2.1:=by
 unfold Ho at e;obtain⟨d,a,e⟩:=bd e;obtain⟨_,_,e⟩:=bd e;obtain⟨_,_,e⟩:=bd e;obtain⟨n,_,e⟩:=bd e;obtain⟨o,out,ms,k,e⟩:=Vx N 0 e;have hd:=(c _ (Ahx (FQ a).2)).den;unfold KW at hd;unfold GI at e;cases l:decide (d.T≠0)<;>rw[l]at e
 ·rw[V0 e];exact q
 ·rw[Ago]at e;obtain⟨_,_,e⟩:=bd e;obtain⟨_,_,e⟩:=bd e;obtain⟨_,_,e⟩:=bd e;obtain⟨_,_,e⟩:=bd e;obtain⟨y,m,e⟩:=bd e;obtain⟨_,_,e⟩:=bd e;obtain⟨_,_,e⟩:=bd e;obtain⟨_,_,e⟩:=bd e;obtain⟨_,_,e⟩:=bd e;obtain⟨t,_,e⟩:=bd e;have h0:XA w.b (upd w.s.P p 0):=q.upd a Ω;have i:∀rem,FC N w p d o out ms k y (DW N w p d) rem=some r->r.2.1=rem:=λrem e=>by
   unfold FC at e;obtain⟨_,_,e⟩:=bd e;obtain⟨_,_,e⟩:=bd e;exact V0 e
  cases g:decide (y.1<=t)<;>rw[g]at e
  ·rw[i _ e];exact h0
  ·rw[Ago]at e;obtain⟨_,_,e⟩:=bd e;obtain⟨_,_,e⟩:=bd e;rw[i _ e];exact h0.upd a (cW j hd m)
def Xn{N:Nat}(g:18446744073709551616<N){b:AF}(a:∀p∈b.A,JV b p){in_:AX}{s:AH}{y z}:∀(n:Nat)(i:Int){o:List xq}{c out:xq}{ms:List AM}{d:List AY}{r},XA b c->Fb N b in_ s y z (Fd N s y z) n i o c out ms d=some r->XA b r.1.P/\r.1.Q=z.2.2.1
 |0,_,_,_,_,_,_,_,_,e=>by cases e
 |n+1,i,o,c,out,ms,d,r,l,e=>by
  simp only[Fb]at e;cases j:decide (i<(b.A.length:Int))<;>rw[j]at e
  ·rw[Agq]at e;unfold Fd at e;obtain⟨_,e⟩:=MF e;cases e;exact⟨l,rfl⟩
  ·rw[Ago]at e;obtain⟨x,k,e⟩:=bd e;exact Xn g a n _ (ZJ g (w:=(⟨b,in_,(⟨s.B,o,c,z.2.1,z.2.2.1,y.2.1,out⟩:AH),ms,z.2.2.2,d⟩:AS)) a l k) e
def oH(u:18446744073709551616<N){b:AF}(m:Ii b)(c:∀p∈b.A,JV b p)(v:VA b){s:AH}(d:Yi b s){r}(e:Hy N b s in_=some r):XA b r.1.P/\PN b r.1.Q:=by
 have C:=m.pl;have K:=m.li;have M:=m.own;have a:=d.rg.x;have D:PN b s.Q:=⟨a.gates,λk l g n o=>⟨(d.rg.gts k l g n o).1,(d.rg.gts k l g n o).2,d.opn k l g n o⟩⟩
 unfold Hy at e;rw[WD Ω (by have:=a.own.len;omega) (λx q=>by have:=(a.own.all x q).len;omega) (by have:=a.rem;omega) (by have:=a.gates;omega) (by have:=a.inn;omega) (by have:=a.out;omega),Agm]at e;obtain⟨_,e⟩:=MF e;obtain⟨t,i,e⟩:=bd e;obtain⟨U,_,e⟩:=bd e;obtain⟨y,_,e⟩:=bd e;obtain⟨z,j,e⟩:=bd e;have G:PN b t:=by
  unfold Hn at i;exact Sz (w:=(⟨b,in_,s,([]:List AM),(List.replicate ((b.A.length:Int)).toNat (0:Int)),([]:List AY)⟩:AS)) v N 0 D i
 have H:PN b z.2.2.1:=by
  unfold GJ at j;obtain⟨_,_,j⟩:=bd j;exact bF (w:=(⟨b,in_,(⟨s.B,y.1,s.P,s.F,t,y.2.1,s.O⟩:AH),y.2.2,(List.replicate ((b.A.length:Int)).toNat (0:Int)),([]:List AY)⟩:AS)) N 0 G j
 obtain⟨I,J⟩:=Xn u c N 0 ⟨a.rem,d.rem⟩ e;exact⟨I,by rw[J];exact H⟩
def Vh{N:Nat}(p:Ce)(kj:Int->Option Bool)(j:p.An.length<=1000):∀(n:Nat)(s:Int)(k:Nat),0<=s->s+((p.An.length:Int)-k)*1125899906842624<=4611686018427387904->k<=p.An.length->DN N p kj n s (k:Int)=some true->kj (s+(p.An.drop k).sum)=some true/\∀x∈p.An.drop k,0<=x/\x<=1125899906842624
 |0,s,k,h0,l,m,o=>by cases o
 |n+1,s,k,h0,l,m,o=>by
  simp only[DN]at o;rcases Ag7 k p.An.length with d|d
  ·rw[ER d,Ago,BC d,Agm,NV,Agm,BA Ω]at o;cases i:VN p.An[k]with
   |false=>rw[i]at o;cases o
   |true=>
    have g:=MJ i;unfold KW at g;rw[i,Ahm,Agq,D6 (n:=s+p.An[k]) Ω Ω]at o;obtain⟨a,c⟩:=Vh p kj j n _ (k+1) Ω Ω Ω o;rw[Ai2 d,Ahs,<-Int.add_assoc];refine⟨a,λx b=>?_⟩;rcases Agv.1 b with rfl|b
    ·exact g
    ·exact c x b
  ·rw[Ek d,Agq]at o;rw[Ais d];exact⟨by rw[List.sum_nil,Int.add_zero];exact o,λx g=>by cases g⟩
def X2{N:Nat}(b:AF)(p:Ce)(a:Int)(kj:Int->Option Bool):∀(n:Nat)(s j:Int),Cc N b p a kj n s j=some true->kj a=some true
 |0,_,_,g=>by cases g
 |n+1,s,j,g=>by
  simp only[Cc]at g;cases d:decide (j<(p.U.length:Int))with
  |false=>rw[d]at g;exact g
  |true=>
   rw[d,Ago]at g;obtain⟨x,_,g⟩:=bd g;obtain⟨c,_,g⟩:=bd g;cases c with
   |true=>cases g
   |false=>exact X2 b p a kj n _ _ g
def Vs(H:Int)(p:Nat):List AD->xq->List AM
 |[],_=>[]
 |e::es,x=>match e.take x with
  |some y=>(if y.1.sum<=0 then [] else [(⟨H,(p:Int),e.to_,e.way,y.1⟩:AM)])++Vs H p es y.2
  |none=>Vs H p es x
def eG:List AD->xq->xq
 |[],x=>x
 |e::es,x=>match e.take x with
  |some y=>eG es y.2
  |none=>eG es x
def T3(H:Int)(p:Nat):∀(a b:List AD)(x:xq),Vs H p (a++b) x=Vs H p a x++Vs H p b (eG a x)
 |[],b,x=>rfl
 |e::a,b,x=>by
  simp only[Ag4,Vs,eG];cases e.take x with
  |none=>exact T3 H p a b x
  |some y=>simp only;rw[T3 H p a b y.2,Ah0]
def Wl:∀(a b:List AD)(x:xq),eG (a++b) x=eG b (eG a x)
 |[],b,x=>rfl
 |e::a,b,x=>by
  simp only[Ag4,eG];cases e.take x with
  |none=>exact Wl a b x
  |some y=>exact Wl a b y.2
def T1{H:Int}{p:Nat}:∀{es:List AD}{x:xq}(m:AM),m∈Vs H p es x->∃e∈es,m.Be=e.way/\m.J=(p:Int)
 |[],x,m,a=>by cases a
 |e::es,x,m,a=>by
  simp only[Vs]at a;cases g:e.take x with
  |none=>
   rw[g]at a;obtain⟨b,c,d⟩:=T1 (es:=es) m a;exact⟨b,.tail _ c,d⟩
  |some y=>
   rw[g]at a;rcases Ahi.1 a with a|a
   ·split at a
    ·cases a
    ·rw[Aho.1 a];exact⟨e,.head _,rfl,rfl⟩
   ·obtain⟨b,c,d⟩:=T1 (es:=es) m a;exact⟨b,.tail _ c,d⟩
def OL(b:AF)(p:Nat)(t:FO):Bool:=decide (t.Ap=(p:Int))&&(decide (0<=t.Bi)&&decide (t.Bi<(b.I.length:Int)))&&decide (0<t.Bd)&&(decide (t.C= -1)||((decide (0<=t.C)&&decide (t.C<(b.A.length:Int)))&&decide ((b.A.getD t.C.toNat default).At=(b.A.getD p default).At)))
def Zv(N:Nat)(t:FO):AD:=⟨t.C,0, -3,λy=>EN N t y⟩
def Nu(N:Nat)(b:AF)(p:Nat)(a:List FO):List AD:=(a.filter (OL b p)).map (Zv N)
def Yy(N:Nat)(b:AF)(p:Nat){a:List FO}(c:k<a.length):Nu N b p (a.take (k+1))=Nu N b p (a.take k)++if OL b p a[k] then [Zv N a[k]] else []:=by
 unfold Nu;rw[Ah8 c,Ai5,Ah5];congr 1;cases d:OL b p a[k]<;>simp[d]
def Vg(N:Nat)(b:AF)(p:Nat)(a:List FO):(Nu N b p a).length<=a.length:=by
 unfold Nu;rw[Ajt];exact List.length_filter_le _ _
def gZ(Q:18446744073709551616<N)(U:w.in_.V.length<=1000)(v:p<w.b.A.length):Jt N w (p:Int)=some (Nu N w.b p w.in_.V):=by
 unfold Jt;obtain⟨l,D,e⟩:=EO w.in_.V.length (λn i l=>Cn N w (p:Int) (D2 N) n l i) (D2 N) (λk l=>l=Nu N w.b p (w.in_.V.take k)) (λn k l q=>by
  simp only[Cn];rw[Ek q];rfl) (λn k l F q=>by
  have G:=Vg N w.b p (w.in_.V.take k);rw[<-F,Ah3]at G;rw[Yy N w.b p q,<-F];simp only[Cn,HR];rw[ER q,Ago,BC q,BA Ω];simp only[Agm,Oo,HB];generalize w.in_.V[k]=x
  have s:w.b.A.getD p default=w.b.A[p]:=by simp[Ahc,v]
  have c:∀B:Bool,OL w.b p x=B->∃s',s'=(l++if OL w.b p x then [Zv N x] else [])/\cond B (chk (HN (l.length+1) 32) (Cn N w (p:Int) (D2 N) n (l++([(⟨x.C,0,(-3),(λy=>EN N x y)⟩:AD)]:List AD)) ((k+1:Nat):Int))) (Cn N w (p:Int) (D2 N) n l ((k+1:Nat):Int))=Cn N w (p:Int) (D2 N) n s' ((k+1:Nat):Int):=λB H=>by
   refine⟨_,rfl,?_⟩;rw[H];cases B
   ·simp
   ·rw[Ago,Fu Ω];rfl
  unfold OL at c;by_cases d:x.Ap=(p:Int)
  ·cases m:(decide (0<=x.Bi)&&decide (x.Bi<(w.b.I.length:Int)))
   ·simp[d,OL,m]
   ·by_cases z:0<x.Bd
    ·by_cases a:x.C= -1
     ·have:=c true (by rw[m];simp[d,z,a]);simpa[d,OL,m,a,show ¬x.Bd<=0 from Ω]using this
     ·cases o:(decide (0<=x.C)&&decide (x.C<(w.b.A.length:Int)))
      ·simp[d,OL,m,a,o,show ¬x.Bd<=0 from Ω]
      ·obtain⟨J,K⟩:=Ov.1 o;obtain⟨y,t⟩:=Df.ix (l:=w.b.A) J Ω;have u:w.b.A.getD x.C.toNat default=y:=by
        obtain⟨j,M⟩:∃j:Nat,x.C=(j:Int):=⟨x.C.toNat,Ω⟩
        rw[M]at t K ⊢;rw[BC Ω]at t;rw[Ahl];simpa[Ahc,show j<w.b.A.length from Ω]using t
       by_cases g:y.At=(w.b.A[p]).At
       ·have:=c true (by rw[o,m,u,s];simp[d,z,g]);simpa[d,OL,m,a,o,t,BC v,g,show ¬x.Bd<=0 from Ω]using this
       ·have:=c false (by rw[o,u,s];simp[a,g]);simpa[d,OL,m,a,o,t,BC v,g,show ¬x.Bd<=0 from Ω]using this
    ·simp[d,OL,m,z,show x.Bd<=0 from Ω]
  ·simp[d,OL]) N 0 [] rfl Ω (Agr _)
 rw[Ahe]at D;rw[<-D];exact e
def hJ(j:18446744073709551616<N){b:AF}{W:Nat}(c:W<=64)(p:Nat)(d:List FO):XL b W p (Nu N b p d):=λe g=>by
 obtain⟨t,i,rfl⟩:=Ahr.1 g;have a:=(Ah7.1 i).2;refine⟨pJ Ω c t,by show(-3:Int)≠ -4;decide,?_,by show(0:Int)=Q6 _ _ (-3);unfold Q6;rw[Agn Ω,Agp rfl]⟩;show t.C= -1\/(0<=t.C/\t.C<b.A.length)
 unfold OL at a;simp only[Agu,Ahg,Ahb]at a;omega
def XF(b:AF)(W p:Nat)(l:List AD):Prop:=∀e∈l,Aa8 b W p e/\0<=e.way
def XF.snoc{b:AF}{W:Nat}{l:List AD}(g:XF b W p l)(c:Aa8 b W p e)(d:0<=e.way):XF b W p (l++[e]):=λx a=>by
 rcases Ahi.1 a with a|a
 ·exact g x a
 ·rw[Aho.1 a];exact⟨c,d⟩
def kW(u:18446744073709551616<N){W:Nat}(Y:W<=64)(hL:w.b.E.length<=1000)(D:∀l∈w.b.E,LA w.b l)(hg:w.s.Q.length=w.b.E.length)(Z:w.peaks.length=w.b.A.length)(hp:p<w.b.A.length):∃l,Ju N w (p:Int)=some l/\l.length<=w.b.E.length/\XF w.b W p l:=by
 unfold Ju;obtain⟨l,⟨V,z⟩,e⟩:=EO w.b.E.length (λn i l=>CQ N w (p:Int) (D4 N) n l i) (D4 N) (λk l=>l.length<=k/\XF w.b W p l) (λn k l q=>by
  simp only[CQ];rw[Ek q];rfl) (λn k l hi q=>by
  obtain⟨V,z⟩:=hi;have g:=D _ (Agy q);have F:k<w.s.Q.length:=Ω
  have G:p<w.peaks.length:=Ω
  have v:Q6 w.b p (k:Int)=(w.b.E[k]).S:=by
   unfold Q6;rw[Agp ⟨Ω,Ω⟩,Ahl,Um q]
  simp only[CQ,IR,EU,IK];rw[ER q,Ago,BC q,Agm,BA Ω];simp only[BC F,BC G,Agm];generalize w.b.E[k]=x at g v
  have d:∀(B:Int)(to:Int),(to= -1\/(0<=to/\to<w.b.A.length))->∃s',(s'.length<=k+1/\XF w.b W p s')/\chk (HN (l.length+([(⟨to,x.S,(k:Int),(λx=>AQ N B x)⟩:AD)]:List AD).length) 32) (CQ N w (p:Int) (D4 N) n (l++([(⟨to,x.S,(k:Int),(λx=>AQ N B x)⟩:AD)]:List AD)) ((k+1:Nat):Int))=CQ N w (p:Int) (D4 N) n s' ((k+1:Nat):Int):=λB to c=>by
   rw[Fu (by simp;omega)];exact⟨_,⟨by simp;omega,z.snoc ⟨λy hy=>by obtain⟨t,e,h,_⟩:=R6 u Y B y hy;exact⟨t,e,h⟩,by show(k:Int)≠ -4;omega,c,v.symm⟩ (by show 0<=(k:Int);omega)⟩,rfl⟩
  have j:∀i:Int,0<=i->i<w.b.A.length->∃y,ix w.peaks i=some y:=λi h0 h1=>Df.ix h0 Ω;obtain⟨f0,I⟩:=j x.J g.fr.1 g.fr.2;cases X:(decide (x.J=(p:Int))&&decide (x.H≠4))
  ·rw[Agq];cases K:decide (x.J=(p:Int))
   ·rw[Agq];cases hC:(decide (x.C=(p:Int))&&decide (x.H=4))
    ·exact⟨l,⟨Ω,z⟩,rfl⟩
    ·obtain⟨a,m⟩:=Z6 u x f0 w.peaks[p];obtain⟨b,hb⟩:=UN N 0 a;rw[Ago];simp only[I,Agm];rw[m,Agm,hb,Agm];exact d _ _ (.inr g.fr)
   ·have K:=Aie K;have h4:x.H=4:=by
     rw[Ag8 K,Bool.true_and]at X;simpa using X
    obtain⟨_,_,_,_,_,c⟩:=g.seep h4;have c:=g.to.resolve_left c;obtain⟨M,o⟩:=j x.C c.1 c.2;obtain⟨a,m⟩:=Z6 u x w.peaks[p] M;rw[Ago];simp only[o,Agm];rw[m,Agm];exact d _ _ g.to
  ·rw[Ago];cases U:decide (x.C≠ -1)
   ·obtain⟨a,m⟩:=aS u x w.s.Q[k] w.peaks[p] 0;rw[Agq,m,Agm];exact d _ _ g.to
   ·have U:=Aie U;have c:=g.to.resolve_left U;obtain⟨M,o⟩:=j x.C c.1 c.2;obtain⟨a,m⟩:=aS u x w.s.Q[k] w.peaks[p] M;rw[Ago];simp only[o,Agm];rw[m,Agm];exact d _ _ g.to) N 0 [] ⟨Ag5 _,λe he=>by cases he⟩ Ω (Agr _)
 exact⟨l,e,V,z⟩
end Go.Proofs.YtabonambpbofgaaGreat
