import Derived.Test.YtibidnaedddfdaaGreatTPureSlope
namespace Go.Proofs.YtibidnaedddfdaaGreat
set_option linter.all false
open Go.RowKit
def IK (s:AB):Prop:=0≤s.B∧s.B≤s.A∧s.A≤1125899906842624
structure PQ (P:Nat) (t:Int) (q:List AY):Prop where
 srt:XN q
 el:∀e∈q,IK e.G∧0<e.G.A∧t≤e.K∧0≤e.C∧e.C<P
structure oF (b:AH) (h:AX):Prop where
 hour:0≤h.H∧h.H≤16777216
 vol:h.G.length=b.F.length
 lks:h.D.length=b.D.length
 vols:∀v∈h.G,IK v
 que:PQ b.F.length h.H h.E
 kn:∀(k:Nat) l x,b.D[k]? =some l→h.D[k]? =some x→TP l x
def pJ (s:AB):Bool:=decide (s.B≤s.A)&&(decide (0≤s.B)&&decide (s.A≤1125899906842624))
def VG {s:AB}:pJ s=true↔IK s:=by
 unfold pJ IK;simp only[wI,wW];omega
def nb {α}(y z:Bool) (A B:Option α):(cond (!y) (some true) (some (!z))).bind (λb=>cond b A B)=cond (y&&z) B A:=by cases y<;>cases z<;>rfl
def Xv (N:Nat) (l:AS) (k:AF):∃v,IT N l k=some v∧(v=true↔TP l k):=by
 unfold IT;simp only[Ei,OM,GM,DO,LG,wC,T6,Eb,NA];have a:∀n m:Int,(decide (k.N.B=n)&&decide (k.N.A=m))=true↔k.N=⟨n,m⟩:=λn m=>by
  simp only[wI,wW];cases k.N;simp
 cases c:(!decide (k.P.B≤k.P.A)|| !(decide (0≤k.P.B)&&decide (k.P.A≤l.X))|| !(decide (0≤k.S)&&decide (k.S≤l.X)))
 ·simp only[xI,zC,wI,wW] at c;rw[wE];by_cases b:l.I=5∨l.I=3
  ·rw[show (decide (l.I≠5)&&decide (l.I≠3))=false by rcases b with h|h<;>simp [h],wE];refine⟨_,rfl,?_⟩;rw[wZ,wZ,a,a,a];refine⟨λh=>⟨by omega,by omega,?_⟩,λh=>?_⟩
   ·rcases h with (h|h)|h
    ·exact .inl h
    ·exact .inr ⟨b,.inl h⟩
    ·exact .inr ⟨b,.inr h⟩
   ·rcases h.opn with h|⟨_,h|h⟩
    ·exact .inl (.inl h)
    ·exact .inl (.inr h)
    ·exact .inr h
  ·rw[show (decide (l.I≠5)&&decide (l.I≠3))=true by simp;omega,wD];refine⟨_,rfl,?_⟩;rw[a];exact⟨λh=>⟨by omega,by omega,.inl h⟩,λh=>h.opn.resolve_right λh=>b h.1⟩
 ·rw[wD];refine⟨false,rfl,(λh=>by cases h),λh=>?_⟩;have g:=h.pos;have d:=h.tgt;rw[wJ (show k.P.B≤k.P.A by omega),wJ (show 0≤k.P.B by omega),wJ (show k.P.A≤l.X by omega),wJ d.1,wJ d.2] at c;cases c
def iJ (P:Nat) (t:Int) (e:AY):Bool:=pJ e.G&&(decide (0<e.G.A)&&(decide (t≤e.K)&&(decide (0≤e.C)&&decide (e.C<(P:Int)))))
def YO {P:Nat}{t:Int}{e:AY}:iJ P t e=true↔IK e.G∧0<e.G.A∧t≤e.K∧0≤e.C∧e.C<P:=by
 unfold iJ;simp only[wI,wW,VG]
def Us {N:Nat}(hN:9007199254740992<N) (b:AH) (W:JT b) (h:AX) (hq:h.E.length≤4398048311104):∃v,JO N b h=some v∧(v=true↔oF b h):=by
 have aa:=W.pl;have ab:=W.li;unfold JO;cases Q:(((decide (h.H<0)||decide (16777216<h.H))||decide ((h.G.length:Int)≠(b.F.length:Int)))||decide ((h.D.length:Int)≠(b.D.length:Int)))
 ·simp only[xI,xA] at Q;obtain⟨⟨⟨b1,b2⟩,X⟩,Y⟩:=Q;have X:h.G.length=b.F.length:=by omega
  have Y:h.D.length=b.D.length:=by omega
  rw[wE];rcases P9 h.G.length (λn i=>El N h (FX N b h) n i) (FX N b h) (λi=>pJ (h.G.getD i default)) (λn k d=>by
   simp only[El];rw[Dk d];rfl) (λn k d=>by
   simp only[El];rw[D2 d,wD,BC d];simp only[wC,Ei,OM,BF (show k<4611686018427387904 by omega),nb];rw[xW,wR d];rfl) N 0 (by omega) (wL _) with ⟨q,U⟩|⟨⟨i,_,a,q⟩,U⟩
  ·rw[show El N h (FX N b h) N 0=FX N b h from U];have o:∀v∈h.G,IK v:=λv o=>by
    obtain⟨i,a,rfl⟩:=yZ.1 o;have:=q i (wL _) a;rw[xW,wR a] at this;exact VG.1 this
   unfold FX;rcases P9 h.E.length (λn i=>Ek N b h (FW N b h) n i) (FW N b h) (λi=>iJ b.F.length h.H (h.E.getD i default)&&(decide (i=0)||decide (Sc (h.E.getD (i-1) default) (h.E.getD i default)<0))) (λn k d=>by
    simp only[Ek];rw[Dk d];rfl) (λn k d=>by
    simp only[Ek];rw[D2 d,wD,BC d];simp only[wC,Ei,OM,HQ,BF (show k<4611686018427387904 by omega)];rw[xW (i:=k),wR d,xJ];generalize V:h.E[k]=x
    have s:((cond (!decide (x.G.B≤x.G.A)) (some true) (some (!(decide (0≤x.G.B)&&decide (x.G.A≤1125899906842624))))).bind λg=>(cond ((g||decide (x.G.A≤0))||decide (x.K<h.H)) (some true) (some (!(decide (0≤x.C)&&decide (x.C<(b.F.length:Int)))))).bind λt=>some t)=some (!iJ b.F.length h.H x):=by
     unfold iJ pJ;rw[show decide (x.G.A≤0)= !decide (0<x.G.A) by rw[←decide_not];congr 1;exact propext ⟨λh=>by omega,λh=>by omega⟩,show decide (x.K<h.H)= !decide (h.H≤x.K) by rw[←decide_not];congr 1;exact propext ⟨λh=>by omega,λh=>by omega⟩];generalize decide (x.G.B≤x.G.A)=a1
     generalize (decide (0≤x.G.B)&&decide (x.G.A≤1125899906842624))=a2
     generalize decide (0<x.G.A)=a3
     generalize decide (h.H≤x.K)=a4
     generalize (decide (0≤x.C)&&decide (x.C<(b.F.length:Int)))=a5
     cases a1<;>cases a2<;>cases a3<;>cases a4<;>cases a5<;>rfl
    have u:∀{A:Bool→Option Bool},((cond (!decide (x.G.B≤x.G.A)) (some true) (some (!(decide (0≤x.G.B)&&decide (x.G.A≤1125899906842624))))).bind λg=>(cond ((g||decide (x.G.A≤0))||decide (x.K<h.H)) (some true) (some (!(decide (0≤x.C)&&decide (x.C<(b.F.length:Int)))))).bind A)=A (!iJ b.F.length h.H x):=λ{A}=>by
     have:=wH (λz=>z.bind A) s;simp only[Option.bind_assoc,wC] at this;exact this
    rw[u];cases iJ b.F.length h.H x
    ·rfl
    ·rcases Aa8 k with h0|h0
     ·subst h0;rw[show decide ((0:Int)<((0:Nat):Int))=false by simp];rfl
     ·rw[show decide ((0:Int)<(k:Int))=true by simp;omega,show BV ((k:Int)-1)=((k-1:Nat):Int) by rw[Cw (by omega) (by omega)];omega,BC (show k-1<h.E.length by omega)];simp only[wD,wC];rw[Rs (by omega),xW,wR (show k-1<h.E.length by omega),xJ];simp only[wC];rw[show decide (0≤Sc h.E[k-1] x)= !decide (Sc h.E[k-1] x<0) by rw[←decide_not];congr 1;exact propext ⟨λh=>by omega,λh=>by omega⟩,show decide (k=0)=false by simp;omega];cases decide (Sc h.E[k-1] x<0)<;>rfl) N 0 (by omega) (wL _) with ⟨m,s⟩|⟨⟨i,_,a,m⟩,s⟩
   ·rw[show Ek N b h (FW N b h) N 0=FW N b h from s];have w:∀(i:Nat) (a:i<h.E.length),iJ b.F.length h.H h.E[i]=true∧(i=0∨Sc (h.E.getD (i-1) default) h.E[i]<0):=λi a=>by
     have:=m i (wL _) a;rw[xW (i:=i),wR a,xJ] at this;simp only[wI,wZ,wW] at this;exact this
    have y:XN h.E:=by
     unfold XN;rw[Aav];have step:∀(i:Nat) (a:i+1<h.E.length),Qs (h.E[i]).K (h.E[i]).C (h.E[i+1]).K (h.E[i+1]).C:=λi a=>by
      have:=(w (i+1) a).2.resolve_left (by omega);rw[xW,Aar,wR (show i<h.E.length by omega),xJ] at this;exact Qg.1 this
     intro i j a Z ac
     induction j with
     |zero=>omega
     |succ j ih=>
      by_cases e:i=j
      ·subst e;exact step i Z
      ·exact Ur (ih (by omega) (by omega)) (step j Z)
    have hQ:PQ b.F.length h.H h.E:=⟨y,λe he=>by
     obtain⟨i,a,rfl⟩:=yZ.1 he;exact YO.1 (w i a).1⟩
    unfold FW;rcases P9 h.D.length (λn i=>Ej N b h (HR N) n i) (HR N) (λi=>(IT N (b.D.getD i default) (h.D.getD i default)).getD false) (λn k d=>by
     simp only[Ej];rw[Dk d];rfl) (λn k d=>by
     have I:k<b.D.length:=by omega
     simp only[Ej];rw[D2 d,wD,BC d,BC I];simp only[wC,BF (show k<4611686018427387904 by omega)];rw[xW,wR I,xW,wR d,xJ,xJ];obtain⟨v,J,_⟩:=Xv N b.D[k] h.D[k];rw[J,wC,xJ];cases v<;>rfl) N 0 (by omega) (wL _) with ⟨p,u⟩|⟨⟨i,_,a,p⟩,u⟩
    ·rw[show Ej N b h (HR N) N 0=HR N from u];refine⟨true,rfl,λ_=>⟨by omega,X,Y,o,hQ,λk l x hl V=>?_⟩,λ_=>rfl⟩;have d:=(wU.1 V).1;have:=p k (wL _) d;rw[xW,hl,xW,V,xJ,xJ] at this;obtain⟨v,J,o⟩:=Xv N l x;rw[J] at this;exact o.1 this
    ·rw[show Ej N b h (HR N) N 0=some false from u];refine⟨false,rfl,(λh=>by cases h),λc=>?_⟩;have M:i<b.D.length:=by omega
     rw[xW,wR M,xW,wR a,xJ,xJ] at p;obtain⟨v,J,o⟩:=Xv N b.D[i] h.D[i];rw[J,o.2 (c.kn i _ _ (wR M) (wR a))] at p;cases p
   ·rw[show Ek N b h (FW N b h) N 0=some false from s];refine⟨false,rfl,(λh=>by cases h),λc=>?_⟩;rw[xW (i:=i),wR a,xJ,YO.2 (c.que.el _ (wT a)),zE] at m;simp only[xI,xA] at m;have:=Aav.1 c.que.srt (i-1) i (by omega) a (by omega);refine absurd (Qg.2 this) ?_;have m:=m.2;rw[xW,wR (show i-1<h.E.length by omega),xJ] at m;exact m
  ·rw[show El N h (FX N b h) N 0=some false from U];refine⟨false,rfl,(λh=>by cases h),λc=>?_⟩;rw[xW,wR a,xJ,VG.2 (c.vols _ (wT a))] at q;cases q
 ·rw[wD];refine⟨false,rfl,(λh=>by cases h),λc=>?_⟩;have q:=c.hour;have m:=c.vol;have p:=c.lks;simp only[wZ,wW] at Q;omega
def XC {α}{l:List α}{i:Int}(h0:0≤i) (b:i<l.length):∃x,ix l i=some x∧l[i.toNat]? =some x:=by
 obtain⟨k,rfl⟩:∃k:Nat,i=k:=⟨i.toNat,by omega⟩
 have a:k<l.length:=by omega
 exact⟨_,BC a,by simp [a]⟩
def SR {α}(l:List α) (k:Nat) (x:α):upd l (k:Int) x=l.set k x:=by simp [upd]
def PQ.set {P:Nat}{t:Int}{q:List AY}(k:PQ P t q) {r:Nat}(d:r<q.length) {v:AB}(g:IK v) (h0:0<v.A):PQ P t (q.set r { q[r] with G:=v}):=by
 refine⟨Xn k.srt d rfl,λe i=>?_⟩;rcases List.mem_or_eq_of_mem_set i with h|h
 ·exact k.el e h
 ·rw[h];obtain⟨_,_,a,b,c⟩:=k.el _ (wT d);exact⟨g,h0,a,b,c⟩
def aC {a b:Int}(c:0≤a) (d:0≤b):Ib (a+b)=min 9223372036854775807 (a+b):=by unfold Ib;omega
def PQ.add {N:Nat}(M:9007199254740992<N) {P:Nat}{t:Int}{q:List AY}(k:PQ P t q) (Y:q.length<4398048311104) {at_ to:Int}(Q:t≤at_) (m:0≤to∧to<P) {s:AB}(U:IK s):∃n,KJ N q at_ to s=some n∧PQ P t n∧n.length≤q.length+1:=by
 obtain⟨Z,s2,s3⟩:=U;unfold KJ;by_cases D:s.A≤0
 ·rw[wJ D,wD];exact⟨q,rfl,k,Nat.le_succ _⟩
 rw[wM D,wE];obtain⟨r,o,h2,F,G⟩:=dE M q k.srt (by omega) (⟨at_,to,⟨0,0⟩⟩:AY);have o:A7 N q (⟨at_,to,⟨0,0⟩⟩:AY) (λx=>E7 N x.1 x.2)=_:=o;rw[o];simp only[wC];by_cases p:∃y,q[r]? =some y∧y.K=at_∧y.C=to
 ·obtain⟨y,H,u,v⟩:=p;obtain⟨w,V⟩:=wU.1 H;rw[wJ ⟨y,H,u,v⟩,wD,BC w];obtain⟨⟨v1,v2,v3⟩,_,_⟩:=k.el _ (wT w);simp only[wC,HV];rw[La N (by omega) (by omega) (by omega) (by omega),wC,La N (by omega) (by omega) (by omega) (by omega)];simp only[wC,Na,SR];exact⟨_,rfl,k.set w ⟨by show 0≤min _ _;omega,by show min _ _≤min _ _;omega,by show min _ _≤_;omega⟩ (by show 0<min _ _;omega),by simp⟩
 ·rw[wM p,wE,Na];simp only[wC];unfold J0 ZQ;rw[wG ⟨by omega,by omega,rfl,by unfold room;simp;omega⟩];refine⟨_,rfl,?_⟩;rw[Aan];have g:∀e∈q,¬(at_=e.K∧to=e.C):=by
   intro e a d;obtain⟨i,b⟩:=xY.1 a;rcases xB i r with j|hge
   ·have:=F i e j b;rw[d.1,d.2] at this;exact Tb this
   ·rcases xB r i with I|I
    ·have z:=(wU.1 b).1;have J:=Aav.1 k.srt r i (by omega) z I;rw[(wU.1 b).2,←d.1,←d.2] at J;exact G r _ (wV _) (wR (by omega)) J
    ·have:i=r:=by omega
     subst this;exact p ⟨e,b,d.1.symm,d.2.symm⟩
  refine⟨⟨?_,λe a=>?_⟩,by simp only[yA,xT,zV,Aa4];omega⟩
  ·have j:∀e∈q.take r,Qs e.K e.C at_ to:=λe a=>by
    obtain⟨i,b⟩:=xY.1 a;rw[zR] at b;split at b
    ·exact F i e (by assumption) b
    ·cases b
   have B:∀e∈q.drop r,Qs at_ to e.K e.C:=λe a=>by
    have W:=Abg a;obtain⟨i,b⟩:=xY.1 a;rw[yS] at b;exact VP (G (r+i) e (by omega) b) λd=>g e W ⟨d.1.symm,d.2.symm⟩
   unfold XN;rw[yX,List.pairwise_append];have c:=k.srt;unfold XN at c;rw[←zD r q,List.pairwise_append] at c;refine⟨c.1,List.pairwise_cons.2 ⟨λe a=>B e a,c.2.1⟩,λe a X l=>?_⟩;rcases wN.1 l with rfl|l
   ·exact j e a
   ·exact c.2.2 e a X l
  ·simp only[xX,xV] at a;rcases a with (a|a)|a
   ·exact k.el e (zA a)
   ·rw[a];exact⟨⟨by show 0≤min _ _;omega,by show min _ _≤min _ _;omega,by show min _ _≤_;omega⟩,by show 0<min _ _;omega,Q,m⟩
   ·exact k.el e (Abg a)
def UM {N:Nat}(c:9007199254740992<N) {w:B0}{q:List AY}(g:w.h.E=q) {t:Int}(i:w.h.H=t) (h0:0≤t∧t≤33554432) {P:Nat}(k:PQ P (t+1) q) (j:q.length<4398048311104) {to d:Int}(b:to= -1∨(0≤to∧to<P)) (hd:0≤d∧d≤240) {s:AB}(l:IK s):∃a,Hg N w to d s=some a∧PQ P (t+1) a∧a.length≤q.length+1:=by
 subst g;subst i;unfold Hg;by_cases h:to= -1
 ·rw[show decide (to≠ -1)=false by simp [h],wE];exact⟨_,rfl,k,Nat.le_succ _⟩
 ·rw[show decide (to≠ -1)=true by simp [h],wD,Cw (n:=w.h.H+1) (by omega) (by omega),Cw (n:=w.h.H+1+d) (by omega) (by omega)];obtain⟨a,m,o,p⟩:=k.add c j (at_:=w.h.H+1+d) (by omega) (b.resolve_left h) l;rw[m];exact⟨a,rfl,o,p⟩
def MQ (b:AH) (l:List AF):Prop:=l.length=b.D.length∧∀(k:Nat) a x,b.D[k]? =some a→l[k]? =some x→TP a x
def MQ.set {b:AH}{l:List AF}(h:MQ b l) {k:Nat}{x:AF}(g:∀a,b.D[k]? =some a→TP a x):MQ b (l.set k x):=by
 refine⟨by simp [h.1],λi a y d c=>?_⟩;rw[List.getElem?_set] at c;split at c
 ·rename_i e;subst e;split at c
  ·cases c;exact g a d
  ·cases c
 ·exact h.2 i a y d c
def VY (N:Nat) {n a b:Int}(h:a≤b):Ie N n a b=some (max a (min b n)):=by
 unfold Ie;by_cases c:n<a
 ·rw[wJ c,wD];congr 1;omega
 ·rw[wM c,wE];by_cases d:b<n
  ·rw[wJ d,wD];congr 1;omega
  ·rw[wM d,wE];congr 1;omega
def bP (N:Nat) {l:AS}{k:AF}(a:0≤l.Am∧l.Am≤l.X∧l.X≤64) (b:0≤k.S∧k.S≤l.X) {p:Int}(c:0≤p∧p≤l.X):Ik N l k p=some (p+max (0-l.Am) (min l.Am (k.S-p))):=by
 unfold Ik Mw;simp only[wE];rw[K3 N (by omega) (by omega) (by omega) (by omega),wC,K3 N (by omega) (by omega) (by omega) (by omega),wC,VY N (by omega),wC,La N (by omega) (by omega) (by omega) (by omega)];rfl
def bO {N:Nat}{l:AS}{s t:Int}(g:Vv N l s t) {k:AF}(a:TP l k) (sure:Bool):∃c,Km N l k sure=some c∧TP l c:=by
 have d:=g.spd;have i:=a.pos;have b:=a.tgt;unfold Km;cases sure
 ·rw[wE,K3 N (by omega) (by omega) (by omega) (by omega),wC,VY N (by omega),wC,La N (by omega) (by omega) (by omega) (by omega),wC,VY N (by omega),wC];refine⟨_,rfl,⟨?_,?_,?_⟩,b,a.opn⟩
  ·show 0≤max 0 _;omega
  ·show max 0 (min l.X (k.P.B-l.Am))≤max 0 (min l.X (k.P.A+l.Am));omega
  ·show max 0 (min l.X (k.P.A+l.Am))≤l.X;omega
 ·rw[wD,bP N d b (by omega),wC,bP N d b (by omega),wC];refine⟨_,rfl,⟨?_,?_,?_⟩,b,a.opn⟩
  ·show 0≤k.P.B+max (0-l.Am) (min l.Am (k.S-k.P.B));omega
  ·show k.P.B+max (0-l.Am) (min l.Am (k.S-k.P.B))≤k.P.A+max (0-l.Am) (min l.Am (k.S-k.P.A));omega
  ·show k.P.A+max (0-l.Am) (min l.Am (k.S-k.P.A))≤l.X;omega
def nI (N:Nat) {l:AS}(a:0≤l.X) {t:Int}(b:0≤t∧t≤l.X) (c:Int):∃y,Mg N l (⟨0,t,false,false⟩:Cs) c=some y∧0≤y.S∧y.S≤l.X:=by
 unfold Mg Li;by_cases h:l.X=0
 ·rw[show decide (l.X≠0)=false by simp [h],wE];exact⟨_,rfl,b⟩
 ·rw[show decide (l.X≠0)=true by simp [h],wD,VY N a,wC];exact⟨_,rfl,by show 0≤max 0 (min l.X c);omega,by show max 0 (min l.X c)≤l.X;omega⟩
def Qh (N:Nat) (i:Int) (L:Nat):HQ N i (L:Int)=some (decide (0≤i)&&decide (i<(L:Int))):=rfl
def WS {N:Nat}(hN:18446744073709551616<N) {w:B0}{b:AH}(W:w.b=b) (F:Ol N b) {in_:Cn}(hf:in_.Bb.length≤4398048311104) (hc:in_.Az.length≤4398048311104) (sure:List Bool) (g:MQ b w.h.D):∃l,Ht N w in_ sure=some l∧MQ b l:=by
 subst W;have X:=F.head.li;unfold Ht;obtain⟨G,Y,Z⟩:=F4 in_.Bb.length (λn i l=>CC N w in_ (C0 N w in_ sure) n i l) (C0 N w in_ sure) (λ_ l=>MQ w.b l) (λn k l g=>by
  simp only[CC];rw[Dk g];rfl) (λn k l m g=>by
  simp only[CC];rw[D2 g,wD,BC g,wC,Qh,wC];have s:∀l,EO N (k:Int) (CC N w in_ (C0 N w in_ sure) n) l=CC N w in_ (C0 N w in_ sure) n ((k+1:Nat):Int) l:=λl=>by
   unfold EO;rw[BF (by omega)]
  simp only[s];generalize in_.Bb[k]=f
  by_cases d:0≤f.Aa∧f.Aa<w.b.D.length
  ·obtain⟨a,H,p⟩:=XC (l:=w.b.D) d.1 d.2;obtain⟨x,B,t⟩:=XC (l:=l) (i:=f.Aa) d.1 (by rw[m.1];exact d.2);rw[wJ d.1,wJ d.2];simp only[zG,xE,wE,H,wC];by_cases J:a.I=5
   ·rw[show decide (a.I≠5)=false by simp [J],wE];have v:∀o:AB,(o=⟨1,1⟩∨o=⟨0,0⟩)→MQ w.b (upd l f.Aa ({ x with N:=o}:AF)):=λo ho=>by
     unfold upd;refine m.set λC j=>?_;have:C=a:=by rw[p] at j;exact(wP j).symm
     subst this;have q:=m.2 _ _ _ p t;refine⟨q.pos,q.tgt,?_⟩;rcases ho with rfl|rfl
     ·exact .inr ⟨.inl J,.inl rfl⟩
     ·exact .inl rfl
    by_cases Q:f.I=2
    ·rw[wJ Q,wD];simp only[DO,B,wC];exact⟨_,v _ (.inl rfl),rfl⟩
    ·rw[wM Q,wE];by_cases U:f.I=3
     ·rw[wJ U,wD];simp only[DO,B,wC];exact⟨_,v _ (.inr rfl),rfl⟩
     ·rw[wM U,wE];exact⟨_,m,rfl⟩
   ·rw[show decide (a.I≠5)=true by simp [J],wD];exact⟨_,m,rfl⟩
  ·rw[show (decide (0≤f.Aa)&&decide (f.Aa<(w.b.D.length:Int)))=false by
    rw[Aaw];simp only[xA];omega]
   exact⟨_,m,rfl⟩) N 0 w.h.D g (by omega) (wL _)
 rw[show CC N w in_ (C0 N w in_ sure) N 0 w.h.D=C0 N w in_ sure G from Z];unfold C0;obtain⟨V,i2,e2⟩:=F4 in_.Az.length (λn i l=>CY N w in_ (Cz N w sure) n i l) (Cz N w sure) (λ_ l=>MQ w.b l) (λn k l g=>by
  simp only[CY];rw[Dk g];rfl) (λn k l m g=>by
  simp only[CY];rw[D2 g,wD,BC g,wC,Qh,wC];have s:∀l,GP N (k:Int) (CY N w in_ (Cz N w sure) n) l=CY N w in_ (Cz N w sure) n ((k+1:Nat):Int) l:=λl=>by
   unfold GP;rw[BF (by omega)]
  simp only[s];generalize in_.Az[k]=f
  by_cases d:0≤f.Aa∧f.Aa<w.b.D.length
  ·obtain⟨a,H,p⟩:=XC (l:=w.b.D) d.1 d.2;obtain⟨x,B,t⟩:=XC (l:=l) (i:=f.Aa) d.1 (by rw[m.1];exact d.2);have q:=m.2 _ _ _ p t;have K:a∈w.b.D:=yJ p;obtain⟨y,M,y1⟩:=nI N (l:=a) (by have:=(F.lk a K).spd;omega) q.tgt f.S;rw[wJ d.1,wJ d.2];simp only[zG,wD,H,B,M,wC];refine⟨_,?_,rfl⟩;unfold upd;refine m.set λC j=>?_;have:C=a:=by rw[p] at j;exact(wP j).symm
   subst this;exact⟨q.pos,y1,q.opn⟩
  ·rw[show (decide (0≤f.Aa)&&decide (f.Aa<(w.b.D.length:Int)))=false by
    rw[Aaw];simp only[xA];omega]
   exact⟨_,m,rfl⟩) N 0 G Y (by omega) (wL _)
 rw[show CY N w in_ (Cz N w sure) N 0 G=Cz N w sure V from e2];unfold Cz;obtain⟨l3,i3,e3⟩:=F4 w.b.D.length (λn i l=>Dy N w sure n i l) some (λ_ l=>MQ w.b l) (λn k l g=>by
  simp only[Dy];rw[Dk g];rfl) (λn k l m g=>by
  have z:k<l.length:=by rw[m.1];exact g
  simp only[Dy];rw[D2 g,wD,BC g,BC z];simp only[wC,BF (show k<4611686018427387904 by omega)];have q:=m.2 k _ _ (wR g) (wR z);have u:∃c,cond (decide ((k:Int)<(sure.length:Int))) ((ix sure (k:Int)).bind λA=>some A) (some false)=some c:=by
   by_cases h:k<sure.length
   ·rw[D2 h,wD,BC h];exact⟨_,rfl⟩
   ·rw[Dk (by omega)];exact⟨_,rfl⟩
  obtain⟨c,ec⟩:=u;obtain⟨y,M,hy⟩:=bO (F.lk _ (wT g)) q c;rw[ec];simp only[wC,M,SR];exact⟨_,m.set λC j=>by rw[wR g] at j;cases j;exact hy,rfl⟩) N 0 V i2 (by omega) (wL _)
 exact⟨l3,e3,i3⟩
def gO (s:Int×Int×Bool):Prop:=s.2.2=true→0≤s.1∧s.1≤s.2.1∧s.2.1≤1
def aR (N:Nat) {i j:Int}{b:Bool}(h:gO (i,j,b)) {a:Int}(c:0≤a∧a≤1) (kj:Int→Int→Bool→Option (Bool×(Int×Int×Bool))):∃d g,HN N i j b kj a=kj d g true∧gO (d,g,true):=by
 unfold HN;cases b
 ·exact⟨a,a,rfl,λ_=>⟨c.1,yE _,c.2⟩⟩
 ·obtain⟨k,l,m⟩:=h rfl;have k:0≤i:=k;have l:i≤j:=l;have m:j≤1:=m;exact⟨min i a,max j a,rfl,λ_=>⟨by show 0≤min i a;omega,by show min i a≤max j a;omega,by show max j a≤1;omega⟩⟩
def Y4 (N:Nat) (l:AS) (a:Cs) (v:Int):∃y,KI N l a v=some y:=by
 unfold KI IS;exact Df.cond (λ_=>Df.mk _) λ_=>Df.cond (λ_=>Df.mk _) λ_=>Df.cond (λ_=>Df.mk _) λ_=>Df.mk _
def kZ {N:Nat}(v:10<N) (l:AS) (k:AF) (x:Int) {i j:Int}{b:Bool}(h:gO (i,j,b)):∃s,Ga N l k x i j b=some (true,s)∧gO s:=by
 unfold Ga;obtain⟨s,p,q⟩:=F4 2 (λn m s=>CZ N l k x n m s.1 s.2.1 s.2.2) (λs=>some (true,s)) (λ_ s=>gO s) (λn m s t=>by
  simp only[CZ];rw[wM (show ¬(m:Int)<2 by omega)];rfl) (λn m s c t=>by
  simp only[CZ];rw[wJ (show(m:Int)<2 by omega),wD];simp only[GM,wC,EK,BF (show m<4611686018427387904 by omega)];cases (decide (k.N.B≤(m:Int))&&decide ((m:Int)≤k.N.A))
  ·exact⟨s,c,rfl⟩
  ·obtain⟨y,u⟩:=Y4 N l (⟨0,0,false,(decide ((m:Int)=1))⟩:Cs) x;rw[u];simp only[xE,wE,wC];cases y.N
   ·obtain⟨d,g,e,o⟩:=aR N (i:=s.1) (j:=s.2.1) (b:=s.2.2) c (a:=0) (by decide) (EK N (m:Int) (CZ N l k x n));refine⟨(d,g,true),o,xD e ?_⟩;unfold EK;rw[BF (by omega)]
   ·obtain⟨d,g,e,o⟩:=aR N (i:=s.1) (j:=s.2.1) (b:=s.2.2) c (a:=1) (by decide) (EK N (m:Int) (CZ N l k x n));refine⟨(d,g,true),o,xD e ?_⟩;unfold EK;rw[BF (by omega)]) N 0 (i,j,b) h (by omega) (wL _)
 exact⟨s,q,p⟩
def XF {N:Nat}(c:AB) (l:AS) (a:Int→(Int×Int×Bool)→Option (Bool×(Int×Int×Bool))) (b:∀x s,gO s→∃s',a x s=some (true,s')∧gO s') {s:Int×Int×Bool}(d:gO s):∃s',Jd N c l a s=some (true,s')∧gO s':=by
 unfold Jd;simp only[Ei,GM,wC];cases decide (c.B≤c.A)
 ·exact⟨s,rfl,d⟩
 ·simp only[xE,wE];obtain⟨j,k,m⟩:=b c.B s d;obtain⟨g,n,i⟩:=b c.A j m;obtain⟨o,p,q⟩:=b (BV (l.Ab+1)) g i;rw[k];simp only[wC,wD];rw[n];simp only[wC,wD,Eb];rw[p];simp only[wC,wD];cases cond (decide (l.Ab<9223372036854775807)) (decide (c.B≤BV (l.Ab+1))&&decide (BV (l.Ab+1)≤c.A)) false
  ·exact⟨g,rfl,i⟩
  ·exact⟨o,rfl,q⟩
def WR {N:Nat}(q:10<N) (l:AS) {k:AF}(a:TP l k) (v:AB):∃g,J5 N l k v=some g∧TP l g:=by
 unfold J5;by_cases c:l.I=3
 ·rw[show decide (l.I≠3)=false by simp [c],wE];simp only[LI,wC];obtain⟨s,e,o⟩:=XF (N:=N) v l (λt d=>Ga N l k t d.1 d.2.1 d.2.2) (λx s u=>kZ q l k x u) (s:=(0,0,false)) (λh=>by cases h);rw[e];simp only[wC,wD,Kt];obtain⟨i,j,b⟩:=s;cases b
  ·exact⟨_,rfl,a.pos,a.tgt,a.opn⟩
  ·obtain⟨m,n,p⟩:=o rfl;have m:0≤i:=m;have n:i≤j:=n;have p:j≤1:=p;refine⟨_,rfl,a.pos,a.tgt,?_⟩;have w:(i=0∧j=0)∨(i=1∧j=1)∨(i=0∧j=1):=by omega
   rcases w with ⟨rfl,rfl⟩|⟨rfl,rfl⟩|⟨rfl,rfl⟩
   ·exact .inl rfl
   ·exact .inr ⟨.inr c,.inl rfl⟩
   ·exact .inr ⟨.inr c,.inr rfl⟩
 ·rw[show decide (l.I≠3)=true by simp [c],wD];exact⟨k,rfl,a⟩
def TB (s:AB):Prop:=0≤s.B∧s.B≤s.A∧s.A≤9223372036854775807
def IK.n {s:AB}(h:IK s):TB s:=by obtain⟨a,b,c⟩:=h;exact⟨a,b,by omega⟩
def V8 (N:Nat) {a b:AB}(d:TB a) (g:TB b):∃c,HV N a b=some c∧TB c:=by
 obtain⟨i,k,l⟩:=d;obtain⟨j,m,n⟩:=g;unfold HV;rw[Uc N (by unfold AA;omega) (by unfold AA;omega),wC,Uc N (by unfold AA;omega) (by unfold AA;omega),wC,aC i j,aC (by omega) (by omega)];exact⟨_,rfl,by show 0≤min _ _;omega,by show min _ _≤min _ _;omega,by show min _ _≤_;omega⟩
def L9 (P:AB→Prop) (n:Nat) (l:List AB):Prop:=l.length=n∧∀x∈l,P x
def L9.set {P:AB→Prop}{n:Nat}{l:List AB}(h:L9 P n l) (k:Nat) {x:AB}(a:P x):L9 P n (l.set k x):=
 ⟨by simp [h.1],λy b=>(List.mem_or_eq_of_mem_set b).elim (h.2 y) λe=>e▸a⟩
def PQ.filt {P:Nat}{t:Int}{q:List AY}(k:PQ P t q) {r:List AY}(d:r.Sublist q) (h:∀e∈r,t+1≤e.K):PQ P (t+1) r:=
 ⟨List.Pairwise.sublist d k.srt,λe g=>by
  obtain⟨a,b,_,c⟩:=k.el e (d.subset g);exact⟨a,b,h e g,c⟩⟩
def S7 {N:Nat}(hN:18446744073709551616<N) {w:B0}{b:AH}(ad:w.b=b) (hb:Ol N b) (hv:w.h.G.length=b.F.length) (ae:∀v∈w.h.G,IK v) {t:Int}(ht:w.h.H=t) (hq:PQ b.F.length t w.h.E) (al:w.h.E.length≤4398048311104) (g:MQ b w.h.D) (hp:w.peaks.length=b.F.length) (af:∀x∈w.peaks,x=⟨0,0⟩) {d:List AB}(hr:∀s∈d,AA s.B∧AA s.A):
  ∃q l p,Eu N w d=some (q,l,p)∧PQ b.F.length (t+1) q∧q.length≤w.h.E.length∧MQ b l∧L9 IK b.F.length p:=by
 subst ad;subst ht;have am:=hb.head.pl;have an:=hb.head.li;unfold Eu;have start:L9 TB w.b.F.length w.peaks:=⟨hp,λx o=>by rw[af x o];exact⟨by decide,by decide,by decide⟩⟩
 obtain⟨p1,i1,e1⟩:=F4 w.h.G.length (λn i l=>BS N w d (BT N w) n i l) (BT N w) (λ_ l=>L9 TB w.b.F.length l) (λn k l g=>by
  simp only[BS];rw[Dk g];rfl) (λn k l j g=>by
  have m:k<l.length:=by rw[j.1];omega
  have hV:=ae _ (wT g);have ag:∀a c:Int,EE N (k:Int) l (BS N w d (BT N w) n) a c=BS N w d (BT N w) n ((k+1:Nat):Int) (l.set k ⟨a,c⟩):=λa c=>by
   unfold EE;rw[BC m];simp only[wC,BF (show k<4611686018427387904 by omega),SR]
  simp only[BS];rw[D2 g,wD,BC g];simp only[wC,ag];generalize w.h.G[k]=v at hV
  by_cases h:k<d.length
  ·rw[D2 h,wD,BC h];simp only[wC,Ei];have hR:=hr _ (wT h);generalize d[k]=r at hR
   obtain⟨⟨r1,r2⟩,r3,r4⟩:=hR;by_cases W:r.B≤r.A∧0≤r.B
   ·rw[wJ W.1,wJ W.2];simp only[wD,wC];obtain⟨c,ec,hc⟩:=V8 N hV.n (show TB r from⟨W.2,W.1,r4⟩);rw[ec,wC];exact⟨_,j.set k (x:=⟨c.B,c.A⟩) hc,rfl⟩
   ·have e:(cond (decide (r.B≤r.A)) (some (decide (0≤r.B))) (some false)).bind (λah=>cond ah ((HV N v r).bind λX=>BS N w d (BT N w) n ((k+1:Nat):Int) (l.set k ⟨X.B,X.A⟩)) (BS N w d (BT N w) n ((k+1:Nat):Int) (l.set k ⟨v.B,v.A⟩)))=BS N w d (BT N w) n ((k+1:Nat):Int) (l.set k ⟨v.B,v.A⟩):=by
     by_cases c2:r.B≤r.A
     ·rw[wJ c2,wM (λc3=>W ⟨c2,c3⟩)];rfl
     ·rw[wM c2];rfl
    rw[e];exact⟨_,j.set k (x:=⟨v.B,v.A⟩) hV.n,rfl⟩
  ·rw[Dk (by omega)];exact⟨_,j.set k (x:=⟨v.B,v.A⟩) hV.n,rfl⟩) N 0 w.peaks start (by omega) (wL _)
 rw[show BS N w d (BT N w) N 0 w.peaks=BT N w p1 from e1];unfold BT;obtain⟨⟨u,M⟩,⟨i2,Y,a2⟩,e2⟩:=F4 w.h.E.length (λn i (s:List AY×List AB)=>B8 N w (B9 N w) n s.1 i s.2) (λs=>B9 N w s.1 s.2) (λk s=>L9 TB w.b.F.length s.2∧s.1.Sublist (w.h.E.take k)∧∀e∈s.1,w.h.H+1≤e.K) (λn k s g=>by
  simp only[B8];rw[Dk g];rfl) (λn k s j g=>by
  obtain⟨z,Z,h3⟩:=j;obtain⟨v1,v2,v3,v4,v5⟩:=hq.el _ (wT g);have aa:=Z.length_le;rw[xT] at aa;have ai:∀r:List AY,r.Sublist (w.h.E.take k)→r.Sublist (w.h.E.take (k+1)):=λr hr=>hr.trans (by rw[yM g];exact List.sublist_append_left _ _);have J:(s.1++[w.h.E[k]]).Sublist (w.h.E.take (k+1)):=by rw[yM g];exact Z.append (List.Sublist.refl _)
  simp only[B8];rw[D2 g,wD,BC g];simp only[wC,GJ,BF (show k<4611686018427387904 by omega)];generalize o:w.h.E[k]=x at v1 v2 v3 v4 v5 J
  by_cases ha:x.K≤w.h.H
  ·obtain⟨y,ey,aj⟩:=XC (l:=s.2) (i:=x.C) v4 (by rw[z.1];exact v5);obtain⟨c,ec,hc⟩:=V8 N (z.2 y (yJ aj)) v1.n;rw[wJ ha];simp only[wD,ey,ec,wC];exact⟨(s.1,upd s.2 x.C c),⟨z.set _ hc,ai _ Z,h3⟩,rfl⟩
  ·rw[wM ha,wE,Ou (by omega) (by decide)];refine⟨(s.1++[x],s.2),⟨z,J,λe Q=>?_⟩,rfl⟩;rcases xX.1 Q with Q|Q
   ·exact h3 e Q
   ·rw[xV.1 Q];omega) N 0 ([],p1) ⟨i1,by simp,λe Q=>by cases Q⟩ (by omega) (wL _)
 rw[show B8 N w (B9 N w) N [] 0 p1=B9 N w u M from e2];rw[xU] at Y;have Y:u.Sublist w.h.E:=Y;have i2:L9 TB w.b.F.length M:=i2;unfold B9;have ao:=i2.1;obtain⟨U,⟨i3,j3⟩,e3⟩:=F4 M.length (λn i l=>CV N M (CW N w u) n i l) (CW N w u) (λk l=>L9 TB w.b.F.length l∧∀i,i<k→∀x,l[i]? =some x→IK x) (λn k l g=>by
  simp only[CV];rw[Dk g];rfl) (λn k l j g=>by
  obtain⟨z,Z⟩:=j;have m:k<l.length:=by rw[z.1];omega
  obtain⟨x1,x2,x3⟩:=z.2 _ (wT m);simp only[CV];rw[D2 g,wD,BC m];simp only[wC,Na,BF (show k<4611686018427387904 by omega),SR];have hS:IK ⟨min (l[k]).B 1125899906842624,min (l[k]).A 1125899906842624⟩:=⟨by show 0≤min _ _;omega,by show min _ _≤min _ _;omega,by show min _ _≤_;omega⟩
  refine⟨_,⟨z.set k hS.n,λi j x o=>?_⟩,rfl⟩;by_cases e:k=i
  ·subst e;rw[Aax m] at o;cases o;exact hS
  ·rw[Aai e] at o;exact Z i (by omega) x o) N 0 M ⟨i2,λi j=>by omega⟩ (by omega) (wL _)
 rw[show CV N M (CW N w u) N 0 M=CW N w u U from e3];have ab:L9 IK w.b.F.length U:=⟨i3.1,λx o=>by
  obtain⟨i,j⟩:=xY.1 o;have:=(wU.1 j).1;exact j3 i (by have:=i3.1;omega) x j⟩
 unfold CW;obtain⟨l4,i4,e4⟩:=F4 w.b.D.length (λn i l=>CU N w u U n i l) (λl=>some (u,l,U)) (λ_ l=>MQ w.b l) (λn k l g=>by
  simp only[CU];rw[Dk g];rfl) (λn k l j g=>by
  have m:k<l.length:=by rw[j.1];exact g
  have ok:=hb.links _ (wT g);have hK:=j.2 k _ _ (wR g) (wR m);simp only[CU];rw[D2 g,wD,BC g];simp only[wC,GI,BF (show k<4611686018427387904 by omega)];by_cases h3:(w.b.D[k]).I=3
  ·obtain⟨y,ey,_⟩:=XC (l:=U) (i:=(w.b.D[k]).V) ok.fr.1 (by rw[ab.1];exact ok.fr.2);obtain⟨k',ek,ak⟩:=WR (N:=N) (by omega) _ hK y;rw[wJ h3,wD,BC m];simp only[ey,ek,wC,SR];exact⟨_,j.set λa2 ac=>by rw[wR g] at ac;cases ac;exact ak,rfl⟩
  ·rw[wM h3,wE];exact⟨_,j,rfl⟩) N 0 w.h.D g (by omega) (wL _)
 exact⟨u,l4,U,e4,hq.filt Y a2,Y.length_le,i4,ab⟩
structure gT (P:Nat) (peak:AB) (s:Int) (e:AL):Prop where
 s0:0≤s
 to:e.to_= -1∨(0≤e.to_∧e.to_<P)
 dl:0≤e.delay∧e.delay≤240
 sk:e.slack=0∨e.slack=2
 ask:∃a c,e.asks peak.B=some a∧e.asks peak.A=some c∧0≤a.B∧(0≤a.A∧a.A≤9223372036854775807)∧(0≤c.B∧c.B≤4503599627370496)∧a.B≤c.A∧(c.B-a.A-2*e.slack)*1099511627776≤s*(peak.A-peak.B)
def YZ {P:Nat}{b:AB}{s:Int}(i:0≤s) {to d:Int}(g:to= -1∨(0≤to∧to<P)) (hd:0≤d∧d≤240) {f:Int→Option AB}{a c:AB}(j:f b.B=some a) (k:f b.A=some c) (h:TE s b.B b.A a c):gT P b s ⟨to,d,2,f⟩:=
 ⟨i,g,hd,.inr rfl,a,c,j,k,h.lo,⟨h.hi.1,by have:=h.hi.2;omega⟩,h.lo2,h.le,yK (xS (by show c.B-a.A-2*2≤c.B-a.A-1;omega) (by decide)) h.lip⟩
def gT.mono {P:Nat}{b:AB}{s s':Int}{e:AL}(h:gT P b s e) (o:b.B≤b.A) (d:s≤s'):gT P b s' e:=by
 obtain⟨a,c,g,i,j,k,l,m,n⟩:=h.ask;exact⟨yK h.s0 d,h.to,h.dl,h.sk,a,c,g,i,j,k,l,m,yK n (xS d (by omega))⟩
def jP {N:Nat}{P:Nat}{a:AB}(d:a.B≤a.A) {t:Jb}(c:0<t.Al∧t.Al≤9223372036854775807) (b:t.C= -1∨(0≤t.C∧t.C<P)):gT P a 0 ⟨t.C,0,0,λx=>DJ N t x⟩:=
 ⟨yE _,b,⟨yE _,show(0:Int)≤240 by decide⟩,.inl rfl,⟨0,t.Al⟩,⟨0,t.Al⟩,rfl,rfl,yE _,⟨by show 0≤t.Al;omega,c.2⟩,⟨yE _,show(0:Int)≤4503599627370496 by decide⟩,by show 0≤t.Al;omega,by show(0-t.Al-2*0)*1099511627776≤0*_;rw[Int.zero_mul];omega⟩
def Xt {N:Nat}(a:18446744073709551616<N) {l:AS}(b:l.I=4) (fr to:Int):LK N l fr to=some (pt fr l.W l.R-pt to l.Aj l.Ag):=by
 have c:=Mt fr l.W l.R;have d:=Mt to l.Aj l.Ag;unfold LK;rw[show decide (l.I≠4)=false by simp [b],wE,Tp a,wC,Tp a,wC,Cw (by omega) (by omega)]
def Wg {s u v x y p q:Int}(g:0≤s) (a:u≤v) (i:0≤x∧x≤1125899906842624) (j:0≤y∧y≤1125899906842624) (b:x≤y) (c:(y-x-1)*1099511627776≤s*(v-u)) (k:0≤p∧p≤1125899906842624) (d:p≤q) (l:q≤1125899906842624):TE s u v ⟨max 0 (x-q),max 0 (x-p)⟩ ⟨max 0 (y-q),max 0 (y-p)⟩:=by
 refine⟨by show 0≤max 0 _;omega,⟨by show 0≤max 0 _;omega,by show max 0 _≤_;omega⟩,⟨by show 0≤max 0 _;omega,by show max 0 _≤_;omega⟩,by show max 0 _≤_;omega,by show max 0 _≤max 0 _;omega,?_⟩;show(max 0 (y-q)-max 0 (x-p)-1)*1099511627776≤_
 exact yK (xS (show _≤y-x-1 by omega) (by decide)) c
def pN {N:Nat}(j:18446744073709551616<N) {l:AS}{s t:Int}(g:Vv N l s t) (i:l.I=4) {to:AB}(d:IK to) {u v:Int}(k:0≤u) (b:u≤v) (o:v≤1125899906842624):
  ∃a c,DQ N l to u=some a∧DQ N l to v=some c∧TE s u v a c:=by
 obtain⟨p,q,_⟩:=g.seep i;unfold DQ JW HO;simp only[DO,wC,Xt j i];obtain⟨m,w,L⟩:=p.lip k b o;obtain⟨n,_,_⟩:=q.lip d.1 d.2.1 d.2.2;exact⟨_,_,rfl,rfl,Wg g.s0 b (Mt _ _ _) (Mt _ _ _) m L (Mt _ _ _) n (Mt _ _ _).2⟩
def pM {N:Nat}(j:18446744073709551616<N) {l:AS}{s t:Int}(g:Vv N l s t) (i:l.I=4) {fr:AB}(d:IK fr) {u v:Int}(k:0≤u) (b:u≤v) (o:v≤1125899906842624):
  ∃a c,DP N l fr u=some a∧DP N l fr v=some c∧TE t u v a c:=by
 obtain⟨p,q,_⟩:=g.seep i;obtain⟨m,C,L⟩:=q.lip k b o;obtain⟨n,_,_⟩:=p.lip d.1 d.2.1 d.2.2;have w:=Mt u l.Aj l.Ag;have x:=Mt v l.Aj l.Ag;have y:=Mt fr.B l.W l.R;have z:=Mt fr.A l.W l.R;unfold DP JW HO Nf;simp only[DO,wC,Xt j i];rw[K3 N (by omega) (by omega) (by omega) (by omega),K3 N (by omega) (by omega) (by omega) (by omega),K3 N (by omega) (by omega) (by omega) (by omega),K3 N (by omega) (by omega) (by omega) (by omega)];simp only[wC];have:=Wg g.t0 b w x m L y n z.2;refine⟨_,_,rfl,rfl,?_⟩;rw[show (0:Int)-(pt fr.A l.W l.R-pt u l.Aj l.Ag)=pt u l.Aj l.Ag-pt fr.A l.W l.R by omega,show(0:Int)-(pt fr.B l.W l.R-pt u l.Aj l.Ag)=pt u l.Aj l.Ag-pt fr.B l.W l.R by omega,show(0:Int)-(pt fr.A l.W l.R-pt v l.Aj l.Ag)=pt v l.Aj l.Ag-pt fr.A l.W l.R by omega,show(0:Int)-(pt fr.B l.W l.R-pt v l.Aj l.Ag)=pt v l.Aj l.Ag-pt fr.B l.W l.R by omega];exact this
def Rr {N:Nat}(i:18446744073709551616<N) {p:EW}{s:Int}(b:Wu p.W p.R s) (hd:p.R≠0) {v:Int}(c:0≤v∧v≤1125899906842624) (m:Int) (g:0≤m∧m<p.R):∃r,JX N p v m=some r∧r.1=v*p.W/p.R+(if v*p.W%p.R+m<p.R then 0 else 1):=by
 have h0:=b.n0;have j:=b.nd;have k:=b.dm;have l:=RC (t:=v) (n:=p.W) (d:=p.R) (by omega) j c.1;have o:=QD (t:=v) (n:=p.W) (d:=p.R) (by omega) h0 c.1;have u:=Int.emod_nonneg (v*p.W) hd;have w:=Int.emod_lt_of_pos (v*p.W) (show 0<p.R by omega);unfold JX KY;rw[MA i,W1 c (by omega) (by omega) (by omega),wC];simp only[xE,wE];rw[wJ g.1,wJ g.2];simp only[zG,wD];generalize v*p.W/p.R=q at*
 generalize v*p.W%p.R=r at*
 rw[Cw (n:=r+m) (by omega) (by omega)];by_cases a:r+m<p.R
 ·rw[wJ a,wD,wG a];exact⟨_,rfl,by show q=_;omega⟩
 ·rw[wM a,wE,wF a,Cw (n:=q+1) (by omega) (by omega)];exact⟨_,rfl,rfl⟩
def aE {N:Nat}(l:18446744073709551616<N) {p:EW}{s:Int}(b:Wu p.W p.R s) (hd:p.R≠0) {u v:Int}(g:0≤u) (w:u≤v) (i:v≤1125899906842624):
  ∃a c,DI N p u=some a∧DI N p v=some c∧TE s u v a c:=by
 have h0:=b.n0;have z:=b.nd;have A:=b.dm;obtain⟨o,D,B⟩:=Rr l b hd (v:=u) ⟨g,by omega⟩ 0 (by omega);obtain⟨j,F,G⟩:=Rr l b hd (v:=u) ⟨g,by omega⟩ (p.R-1) (by omega);obtain⟨k,H,C⟩:=Rr l b hd (v:=v) ⟨by omega,i⟩ 0 (by omega);obtain⟨q,I,J⟩:=Rr l b hd (v:=v) ⟨by omega,i⟩ (p.R-1) (by omega);unfold DI;rw[Cw (by omega) (by omega),D,F,H,I];simp only[wC];refine⟨_,_,rfl,rfl,?_⟩;obtain⟨m,K,L⟩:=b.lip g w i;rw[Ss ⟨g,by omega⟩ h0 z A,Ss ⟨by omega,i⟩ h0 z A] at m L;rw[Ss ⟨by omega,i⟩ h0 z A] at K;have M:=QD (t:=u) (n:=p.W) (d:=p.R) (by omega) h0 g;have Q:=Int.emod_lt_of_pos (u*p.W) (show 0<p.R by omega);have U:=Int.emod_lt_of_pos (v*p.W) (show 0<p.R by omega);rw[wG (by omega)] at B C;have V:o.1≤j.1∧j.1≤o.1+1:=by rw[B,G];split<;>omega
 have X:k.1≤q.1∧q.1≤k.1+1:=by rw[C,J];split<;>omega
 generalize u*p.W/p.R=x at*
 generalize v*p.W/p.R=y at*
 refine⟨by show 0≤o.1;omega,⟨by show 0≤j.1;omega,by show j.1≤_;omega⟩,⟨by show 0≤k.1;omega,by show k.1≤_;omega⟩,by show q.1≤_;omega,by show o.1≤q.1;omega,?_⟩;show(k.1-j.1-1)*1099511627776≤_
 exact yK (xS (show _≤y-x-1 by omega) (by decide)) L
structure Xb (P:Nat) (peak:AB) (ps:List (AL×Int)):Prop where
 ok:∀x∈ps,gT P peak x.2 x.1
def Xb.snoc {P:Nat}{a:AB}{c:List (AL×Int)}(h:Xb P a c) {e:AL}{s:Int}(d:gT P a s e):Xb P a (c++[(e,s)]):=⟨λx b=>by
 rcases xX.1 b with b|b
 ·exact h.ok x b
 ·rw[xV.1 b];exact d⟩
def Wb {N:Nat}(hN:18446744073709551616<N) {w:B0}{b:AH}(ae:w.b=b) (Q:Ol N b) (ac:MQ b w.h.D) (hp:L9 IK b.F.length w.peaks) {p:Nat}(u:p<b.F.length) {g:AB}(af:w.peaks[p]? =some g) {takes:List Jb}(aj:takes.length≤1800000) (ht:∀t∈takes,AA t.Al):
  ∃d,Hv N w (p:Int) takes=some (d.map (·.1))∧Xb b.F.length g d∧(d.map (·.2)).sum≤1099511627776∧d.length≤takes.length+100:=by
 subst ae;have ak:=Q.head.li;have ag:=Q.head.pl;obtain⟨k1,k2,k3⟩:=hp.2 g (yJ af);have sm:=Q.sums p _ (wR u);unfold Hv;obtain⟨l1,⟨U,rfl,x1,z1,n1⟩,e1⟩:=F4 takes.length (λn i l=>B4 N w (p:Int) takes (B6 N w (p:Int)) n l i) (B6 N w (p:Int)) (λk l=>∃d:List (AL×Int),l=d.map (·.1)∧Xb w.b.F.length g d∧(d.map (·.2)).sum=0∧d.length≤k) (λn k l s=>by
  simp only[B4];rw[Dk s];rfl) (λn k l hi s=>by
  obtain⟨d,rfl,h1,h2,h3⟩:=hi;have hL:=ht _ (wT s);simp only[B4];rw[D2 s,wD,BC s];simp only[wC,GQ,BF (show k<4611686018427387904 by omega),Qh,Eb];generalize takes[k]=t at hL
  have H:∃s',(∃d:List (AL×Int),s'=d.map (·.1)∧Xb w.b.F.length g d∧(d.map (·.2)).sum=0∧d.length≤k+1)∧B4 N w (p:Int) takes (B6 N w (p:Int)) n (d.map (·.1)) ((k+1:Nat):Int)=B4 N w (p:Int) takes (B6 N w (p:Int)) n s' ((k+1:Nat):Int):=⟨_,⟨d,rfl,h1,h2,by omega⟩,rfl⟩
  cases hB:(cond (decide (t.Ay≠(p:Int))) true (!(decide (0≤t.Bh)&&decide (t.Bh<(w.b.Z.length:Int))))||decide (t.Al≤0))
  ·rw[wE];have ai:¬t.Al≤0:=by
    rw[xI] at hB;exact Aaf hB.2
   have m:(t.C= -1∨(0≤t.C∧t.C<w.b.F.length))→∃s',(∃d:List (AL×Int),s'=d.map (·.1)∧Xb w.b.F.length g d∧(d.map (·.2)).sum=0∧d.length≤k+1)∧chk (room ((d.map (·.1)).length+1) 32) (B4 N w (p:Int) takes (B6 N w (p:Int)) n (d.map (·.1)++([(⟨t.C,0,0,(λx=>DJ N t x)⟩:AL)]:List AL)) ((k+1:Nat):Int))=B4 N w (p:Int) takes (B6 N w (p:Int)) n s' ((k+1:Nat):Int):=λj=>by
    rw[K4 (by rw[xH];omega)];refine⟨_,⟨d++[(⟨t.C,0,0,λx=>DJ N t x⟩,0)],by simp,h1.snoc (jP k2 ⟨by omega,hL.2⟩ j),by simp [h2],by simp;omega⟩,rfl⟩
   by_cases j:t.C= -1
   ·rw[show decide (t.C≠ -1)=false by simp [j],wE];simp only[wC,wE];exact m (.inl j)
   ·rw[show decide (t.C≠ -1)=true by simp [j],wD];by_cases J:0≤t.C∧t.C<w.b.F.length
    ·obtain⟨y,ey,_⟩:=XC (l:=w.b.F) J.1 J.2;rw[wJ J.1,wJ J.2];simp only[zG,xE,wE,ey,BC u,wC];cases decide (y.Av≠(w.b.F[p]).Av)
     ·exact m (.inr J)
     ·exact H
    ·rw[show (decide (0≤t.C)&&decide (t.C<(w.b.F.length:Int)))=false by
      rw[Aaw];simp only[xA];omega]
     exact H
  ·exact H) N 0 [] ⟨[],rfl,⟨λx hx=>by cases hx⟩,rfl,wV _⟩ (by omega) (wL _)
 rw[show B4 N w (p:Int) takes (B6 N w (p:Int)) N [] 0=B6 N w (p:Int) (U.map (·.1)) from e1];unfold B6;obtain⟨l2,⟨aa,rfl,x2,z2,n2⟩,e2⟩:=F4 w.b.D.length (λn i l=>B1 N w (p:Int) (CD N w (p:Int)) n l i) (CD N w (p:Int)) (λk l=>∃d:List (AL×Int),l=d.map (·.1)∧Xb w.b.F.length g d∧(d.map (·.2)).sum≤((w.b.D.take k).map λl=>QK N l p).sum∧d.length≤takes.length+k) (λn k l s=>by
  simp only[B1];rw[Dk s];rfl) (λn k l hi s=>by
  obtain⟨d,rfl,h1,h2,h3⟩:=hi;have K:=wT s;have G:=Q.links _ K;have lk:=Q.lk _ K;have c0:=Q.ctr0 _ K p;have ad:k<w.h.D.length:=by rw[ac.1];exact s
  have hK:=ac.2 k _ _ (wR s) (wR ad);have sp:=Tq hN G;simp only[B1];rw[D2 s,wD,BC s];simp only[wC,DZ,BF (show k<4611686018427387904 by omega)];have mt:=OV (f:=λl=>QK N l p) s;generalize hl:w.b.D[k]=l at G lk c0 hK sp mt
  generalize ah:w.h.D[k]=kn at hK
  have m:∀(e:AL) (z:Int),gT w.b.F.length g z e→z≤QK N l p→∃s',(∃d:List (AL×Int),s'=d.map (·.1)∧Xb w.b.F.length g d∧(d.map (·.2)).sum≤((w.b.D.take (k+1)).map λl=>QK N l p).sum∧d.length≤takes.length+(k+1))∧chk (room ((d.map (·.1)).length+1) 32) (B1 N w (p:Int) (CD N w (p:Int)) n (d.map (·.1)++([e]:List AL)) ((k+1:Nat):Int))=B1 N w (p:Int) (CD N w (p:Int)) n s' ((k+1:Nat):Int):=λe z he hz=>by
   rw[K4 (by rw[xH];omega)];refine⟨_,⟨d++[(e,z)],by simp,h1.snoc he,?_,by simp;omega⟩,rfl⟩;rw[yP,Aau,mt];simp only[xQ,List.map_nil,Aag,List.sum_nil];omega
  by_cases hF:l.V=(p:Int)
  ·have o:Nu N l≤QK N l p:=by
    unfold QK;rw[wG hF];split<;>omega
   rw[wJ hF];by_cases h4:l.I=4
   ·rw[show decide (l.I≠4)=false by simp [h4]];simp only[Bool.and_false,wE,wD];obtain⟨_,_,j⟩:=lk.seep h4;have q:=G.to.resolve_left j;obtain⟨y,ey,M⟩:=XC (l:=w.peaks) (i:=l.C) q.1 (by rw[hp.1];exact q.2);obtain⟨a,c,ea,ec,hA⟩:=pN hN lk h4 (hp.2 y (yJ M)) k1 k2 k3;simp only[ey,wC];exact m _ _ (YZ sp.1.1 G.to G.delay ea ec hA) o
   ·rw[show decide (l.I≠4)=true by simp [h4]];simp only[zG,wD,BC ad,wC,ah,Hi,DZ,BF (show k<4611686018427387904 by omega)];have kd:=G.kind;have e2:∀(to:AB) v,DT N l kn to v=Ep N l kn ⟨v,v⟩ to:=λto v=>by
     unfold DT;simp only[DO,wC];cases Ep N l kn ⟨v,v⟩ to<;>rfl
    have mk:∀to:AB,IK to→gT w.b.F.length g (Nu N l) ⟨l.C,l.Y,2,λx=>DT N l kn to x⟩:=λto j=>by
     obtain⟨a,c,ea,ec,hA⟩:=Za hN lk (by omega) hK j k1 k2 k3;exact YZ sp.1.1 G.to G.delay ((e2 to _).trans ea) ((e2 to _).trans ec) hA
    by_cases j:l.C= -1
    ·rw[show decide (l.C≠ -1)=false by simp [j],wE];exact m _ _ (mk ⟨0,0⟩ ⟨by decide,by decide,by decide⟩) o
    ·rw[show decide (l.C≠ -1)=true by simp [j],wD];have q:=G.to.resolve_left j;obtain⟨y,ey,M⟩:=XC (l:=w.peaks) (i:=l.C) q.1 (by rw[hp.1];exact q.2);simp only[ey,wC];exact m _ _ (mk ⟨y.B,y.A⟩ (hp.2 y (yJ M))) o
  ·rw[wM hF];simp only[zB,wE];by_cases hT:l.C=(p:Int)∧l.I=4
   ·obtain⟨hT,h4⟩:=hT;have o:Pz N l≤QK N l p:=by
     unfold QK;rw[wF hF,wG hT];omega
    rw[wJ hT,wJ h4];simp only[zG,wD];obtain⟨y,ey,M⟩:=XC (l:=w.peaks) (i:=l.V) G.fr.1 (by rw[hp.1];exact G.fr.2);obtain⟨a,c,ea,ec,hA⟩:=pM hN lk h4 (hp.2 y (yJ M)) k1 k2 k3;simp only[ey,wC];exact m _ _ (YZ sp.2.1 (.inr G.fr) G.delay ea ec hA) o
   ·rw[show (decide (l.C=(p:Int))&&decide (l.I=4))=false by
     rw[Aaw];simp only[xA];omega,wE]
    exact⟨_,⟨d,rfl,h1,by rw[mt];omega,by omega⟩,rfl⟩) N 0 (U.map (·.1)) ⟨U,rfl,x1,by rw[z1];simp,by omega⟩ (by omega) (wL _)
 rw[show B1 N w (p:Int) (CD N w (p:Int)) N (U.map (·.1)) 0=CD N w (p:Int) (aa.map (·.1)) from e2];rw[xU] at z2;unfold CD Hh;rw[BC u,wC];have ab:=Q.places _ (wT u);have rt:=Q.rt _ (wT u);have rt0:=Q.rt0 _ (wT u);generalize w.b.F[p]=X at ab rt rt0 sm
 by_cases hd:X.R=0
 ·rw[show decide (X.R≠0)=false by simp [hd],wE];exact⟨aa,rfl,x2,by omega,by omega⟩
 ·rw[show decide (X.R≠0)=true by simp [hd],wD,K4 (by rw[xH];omega)];obtain⟨a,c,ea,ec,hA⟩:=aE hN (rt hd) hd k1 k2 k3;refine⟨aa++[(⟨X.Ao,X.Y,2,λx=>DI N X x⟩,sl N X.W X.R)],by simp,x2.snoc (YZ rt0 ab.down ab.delay ea ec hA),?_,by simp;omega⟩;rw[yP,Aau];simp only[xQ,List.map_nil,Aag,List.sum_nil];omega
def TY {N:Nat}{a:AB}(b:IK a) {m z S:Int}(g:0≤m∧m≤9223372036854775807) (i: -4611686018427387000≤z∧z≤4611686018427387000) (c:S≤1099511627776) (j:(z-m)*1099511627776≤S*(a.A-a.B)):
  ∃y,Fj N a m z=some y∧IK y∧y.A≤a.A:=by
 obtain⟨k,l,n⟩:=b;have d:z-m≤a.A-a.B:=by
  have:=xS c (show 0≤a.A-a.B by omega);omega
 unfold Fj;rw[uL N (by unfold AA;omega) (by unfold AA;omega),wC,K3 N (by omega) (by omega) (by omega) (by omega),wC,jV (by unfold AA;omega)];refine⟨_,rfl,⟨by show 0≤max 0 _;omega,by show max 0 _≤max 0 _;omega,by show max 0 _≤_;omega⟩,by show max 0 _≤_;omega⟩
def WT {N:Nat}(hN:18446744073709551616<N) {w:B0}{b:AH}(af:w.b=b) (hb:Ol N b) {t:Int}(ht:w.h.H=t) (h0:0≤t∧t≤33554432) (hv:w.h.G.length=b.F.length) {p:Nat}(V:p<b.F.length) {d:AB}(W:w.peaks[p]? =some d) (ag:IK d)
  (hq:PQ b.F.length (t+1) w.h.E) (ao:w.h.E.length+300<4398048301104) {g:List (AL×Int)} (X:Xb b.F.length d g) (u:(g.map (·.2)).sum≤1099511627776) (ap:g.length≤200):
  ∃sp v q,Hu N w (p:Int) (g.map (·.1))=some (sp,w.h.G.set p v,q)∧IK sp∧IK v∧v.A≤(b.F[p]).Ah∧v.A≤d.A∧PQ b.F.length (t+1) q∧q.length≤w.h.E.length+g.length+1:=by
 subst af;subst ht;obtain⟨k1,k2,k3⟩:=ag;have j:=hb.places _ (wT V);have Y:p<w.peaks.length:=(wU.1 W).1;have Z:w.peaks[p]=d:=(wU.1 W).2;have aa:∀x∈g.map (·.2),0≤x:=λx hx=>by
  obtain⟨z,hz,rfl⟩:=xR.1 hx;exact(X.ok z hz).s0
 have hD:0≤d.A-d.B:=by omega
 unfold Hu;rw[BC V,BC Y,Z];simp only[wC];generalize al:w.b.F[p]=pl at j
 obtain⟨⟨z,m,q⟩,⟨C,J,o,D,K⟩,e1⟩:=F4 (g.map (·.1)).length (λn i (s:Int×Int×List AY)=>C1 N w (g.map (·.1)) d (C2 N w (p:Int) pl d) n i s.1 s.2.1 s.2.2) (λs=>C2 N w (p:Int) pl d s.1 s.2.1 s.2.2)
  (λk s=>(0≤s.2.1∧s.2.1≤9223372036854775807)∧(-(k:Int)*4503599627370498≤s.1∧s.1≤(k:Int)*4503599627370498)∧(s.1-s.2.1)*1099511627776≤((g.map (·.2)).take k).sum*(d.A-d.B)∧PQ w.b.F.length (w.h.H+1) s.2.2∧s.2.2.length≤w.h.E.length+k) (λn k s M=>by
  simp only[C1];rw[Dk M];rfl) (λn k s hi M=>by
  obtain⟨z,m,q⟩:=s;obtain⟨C,J,o,D,K⟩:=hi;have C:0≤m∧m≤9223372036854775807:=C;have J: -(k:Int)*4503599627370498≤z∧z≤(k:Int)*4503599627370498:=J;have o:(z-m)*1099511627776≤((g.map (·.2)).take k).sum*(d.A-d.B):=o;have D:PQ w.b.F.length (w.h.H+1) q:=D;have K:q.length≤w.h.E.length+k:=K;have ab:k<g.length:=by rw[xH] at M;exact M
  have Q:=X.ok _ (wT ab);have st:=OO (l:=g.map (·.2)) (k:=k) (by rw[xH];exact ab);have sl:=JV aa k;have ah:=JV aa (k+1);simp only[C1];rw[D2 M,wD,BC M];simp only[List.getElem_map] at st ⊢;generalize g[k]=x at Q st
  obtain⟨e,sx⟩:=x;obtain⟨a,c,ea,ec,a1,a2,c1,ac,L⟩:=Q.ask;have L:(c.B-a.A-2*e.slack)*1099511627776≤sx*(d.A-d.B):=L;have sk:=Q.sk;have ea:e.asks d.B=some a:=ea;have ec:e.asks d.A=some c:=ec;have sk:e.slack=0∨e.slack=2:=sk;obtain⟨y,ey,y1,y2⟩:=TY (N:=N) ⟨k1,k2,k3⟩ (m:=m) (z:=z) C (by omega) (yK sl.2 u) o;obtain⟨ai,aj,ak⟩:=y1;obtain⟨U,I,q1,q2⟩:=UM (N:=N) (w:={ w with h:={ w.h with E:=q}}) (q:=q) (by omega) rfl rfl h0 D (by omega) Q.to Q.dl (s:=⟨min a.B y.B,min c.A y.A⟩) ⟨by show 0≤min _ _;omega,by show min _ _≤min _ _;omega,by show min _ _≤_;omega⟩;simp only[wC,ea,ec,ey];rw[I,wC,Uc N (a:=a.A) (b:=e.slack) (by unfold AA;omega) (by unfold AA;omega),wC,Uc N (a:=m) (by unfold AA;omega) (W2 _),wC,K3 N (by omega) (by omega) (by omega) (by omega),wC,La N (by omega) (by omega) (by omega) (by omega),wC,BF (by omega)];refine⟨(z+(c.B-e.slack),Ib (m+Ib (a.A+e.slack)),U),⟨?_,?_,?_,q1,?_⟩,rfl⟩
  ·show 0≤Ib _∧Ib _≤_
   unfold Ib;omega
  ·show -((k+1:Nat):Int)*4503599627370498≤z+(c.B-e.slack)∧z+(c.B-e.slack)≤((k+1:Nat):Int)*4503599627370498
   omega
  ·show(z+(c.B-e.slack)-Ib (m+Ib (a.A+e.slack)))*1099511627776≤_
   rw[st];have aq:0≤sx:=Q.s0;have ad:=zU ah.1 hD;rw[st] at ad;by_cases am:m+(a.A+e.slack)≤9223372036854775807
   ·have e3:Ib (m+Ib (a.A+e.slack))=m+(a.A+e.slack):=by unfold Ib;omega
    rw[e3,Int.add_mul];show _≤_+sx*(d.A-d.B)
    generalize sx*(d.A-d.B)=A at*
    generalize ((g.map (·.2)).take k).sum*(d.A-d.B)=B at*
    omega
   ·have e3:Ib (m+Ib (a.A+e.slack))=9223372036854775807:=by unfold Ib;omega
    rw[e3];refine yK ?_ ad;omega
  ·show U.length≤_
   have:U.length≤q.length+1:=q2;omega) N 0 (0,0,w.h.E) ⟨⟨yE 0,show(0:Int)≤9223372036854775807 by decide⟩,⟨show -((0:Nat):Int)*4503599627370498≤0 by decide,show(0:Int)≤((0:Nat):Int)*4503599627370498 by decide⟩,by simp,hq,wV _⟩ (by rw[xH];omega) (wL _)
 rw[show C1 N w (g.map (·.1)) d (C2 N w (p:Int) pl d) N 0 0 0 w.h.E=C2 N w (p:Int) pl d z m q from e1];rw[xH] at J o K;rw[Aap (by rw[xH];exact wV _)] at o;have C:0≤m∧m≤9223372036854775807:=C;have J: -(g.length:Int)*4503599627370498≤z∧z≤(g.length:Int)*4503599627370498:=J;have o:(z-m)*1099511627776≤(g.map (·.2)).sum*(d.A-d.B):=o;have D:PQ w.b.F.length (w.h.H+1) q:=D;have K:q.length≤w.h.E.length+g.length:=K;obtain⟨y,ey,⟨ai,aj,ak⟩,y2⟩:=TY (N:=N) ⟨k1,k2,k3⟩ (m:=m) (z:=z) C (by omega) u o;have an:0≤pl.Ah∧pl.Ah≤1125899906842624:=j.cap;unfold C2;rw[ey,wC,K3 N (by omega) (by omega) (by omega) (by omega),wC,K3 N (by omega) (by omega) (by omega) (by omega),wC];have ae:IK ⟨max 0 (y.B-pl.Ah),max 0 (y.A-pl.Ah)⟩:=⟨by show 0≤max 0 _;omega,by show max 0 _≤max 0 _;omega,by show max 0 _≤_;omega⟩
 obtain⟨U,I,q1,q2⟩:=UM (N:=N) (w:={ w with h:={ w.h with E:=q}}) (q:=q) (by omega) rfl rfl h0 D (by omega) j.down j.delay ae;have q2:U.length≤q.length+1:=q2;rw[I,wC,BC (show p<w.h.G.length by omega)];simp only[wC,SR];exact⟨_,⟨min y.B pl.Ah,min y.A pl.Ah⟩,U,rfl,ae,⟨by show 0≤min _ _;omega,by show min _ _≤min _ _;omega,by show min _ _≤_;omega⟩,by show min _ _≤_;omega,by show min _ _≤_;omega,q1,by omega⟩
structure tK (b:AH) (t:Int) (r:AX×List AB×List AB):Prop where
 hour:r.1.H=t+1
 vol:r.1.G.length=b.F.length
 lks:MQ b r.1.D
 que:PQ b.F.length (t+1) r.1.E
 pk:L9 IK b.F.length r.2.1
 sp:L9 IK b.F.length r.2.2
 vols:∀(p:Nat) v,r.1.G[p]? =some v→IK v∧(∀pl,b.F[p]? =some pl→v.A≤pl.Ah)∧∀k,r.2.1[p]? =some k→v.A≤k.A
def eR {N:Nat}(hN:18446744073709551616<N) {b:AH}(z:Ol N b) {h:AX}(hv:h.G.length=b.F.length) (aa:∀v∈h.G,IK v) (h0:0≤h.H∧h.H≤33554432) (hq:PQ b.F.length h.H h.E) (g:MQ b h.D) {in_:Cn}(hf:in_.Bb.length≤1000) (hc:in_.Az.length≤1000) (ad:in_.An.length≤90) (ht:∀t∈in_.An,AA t.Al) {sure:List Bool}{l:List AB}(hr:∀s∈l,AA s.B∧AA s.A)
  (ae:h.E.length≤4398048211104):∃r,Ki N b h in_ sure l=some r∧tK b h.H r∧r.1.E.length≤h.E.length+b.F.length*(in_.An.length+101):=by
 have u:=z.head.pl;have af:=z.head.li;have ag:=g.1;have K:OX (b.F.length:Int) (b.F.length:Int) 16=true:=by simp [OX];omega
 unfold Ki Cq Ci;rw[K4 (by simp only[Aao];omega),wC,K4 (by simp only[Aao];omega),wC,K];simp only[yD,chk,wD];generalize hz:List.replicate ((b.F.length:Int):Int).toNat ((⟨0,0⟩:AB):AB)=C
 have M:C.length=b.F.length:=by rw[←hz];simp
 have Q:∀x∈C,x=⟨0,0⟩:=λx y=>by rw[←hz] at y;exact List.eq_of_mem_replicate y
 obtain⟨l1,e1,k1⟩:=WS hN (w:=⟨b,⟨h.H,h.G,h.E,h.D⟩,C⟩) rfl z (in_:=in_) (by omega) (by omega) sure g;rw[e1,wC];obtain⟨c,m,d,e2,k2,k3,k4,k5⟩:=S7 hN (w:=⟨b,⟨h.H,h.G,h.E,l1⟩,C⟩) rfl z hv aa (t:=h.H) rfl hq (by show h.E.length≤_;omega) k1 M Q hr;rw[e2,wC];have k3:c.length≤h.E.length:=k3;obtain⟨⟨U,vs,q⟩,⟨I,o,V,W,X⟩,e3⟩:=F4 b.F.length (λn i (s:List AB×List AB×List AY)=>Em N b h in_ (c,m,d) (En N h (c,m,d)) n i s.1 s.2.1 s.2.2) (λs=>En N h (c,m,d) s.1 s.2.1 s.2.2)
  (λk s=>L9 IK b.F.length s.1∧s.2.1.length=b.F.length∧(∀(p:Nat) v,p<k→s.2.1[p]? =some v→IK v∧(∀J,b.F[p]? =some J→v.A≤J.Ah)∧∀x,d[p]? =some x→v.A≤x.A)∧PQ b.F.length (h.H+1) s.2.2∧s.2.2.length≤c.length+k*(in_.An.length+101)) (λn k s g=>by
  simp only[Em];rw[Dk g];rfl) (λn k s hi g=>by
  obtain⟨U,vs,q⟩:=s;obtain⟨I,o,V,W,X⟩:=hi;have I:L9 IK b.F.length U:=I;have o:vs.length=b.F.length:=o;have V:∀(p:Nat) v,p<k→vs[p]? =some v→IK v∧(∀J,b.F[p]? =some J→v.A≤J.Ah)∧∀x,d[p]? =some x→v.A≤x.A:=V;have W:PQ b.F.length (h.H+1) q:=W;have X:q.length≤c.length+k*(in_.An.length+101):=X;have Y:k<d.length:=by rw[k5.1];exact g
  have j:=wR Y;have Z:=k5.2 _ (wT Y);generalize d[k]=ab at j Z
  have ah:k*(in_.An.length+101)+(in_.An.length+101)=(k+1)*(in_.An.length+101):=by rw[yB];omega
  have ac:(k+1)*(in_.An.length+101)≤64*191:=Aat (by omega) (by omega);obtain⟨ps,ep,p3,p4,p5⟩:=Wb hN (w:=⟨b,⟨h.H,vs,q,m⟩,d⟩) rfl z k4 k5 g j (takes:=in_.An) (by omega) ht;obtain⟨s1,v1,q1,el,a1,a2,a3,a4,a5,a6⟩:=WT hN (w:=⟨b,⟨h.H,vs,q,m⟩,d⟩) rfl z (t:=h.H) rfl h0 o g j Z W (by show q.length+300<4398048301104;omega) p3 p4 (by omega);have a6:q1.length≤q.length+ps.length+1:=a6;simp only[Em];rw[D2 g,wD,ep,wC,el,wC,BC (show k<U.length by rw[I.1];exact g)];simp only[wC,BF (show k<4611686018427387904 by omega),SR];refine⟨(U.set k s1,vs.set k v1,q1),⟨I.set k a1,by show(vs.set k v1).length=_;rw[Aae];exact o,λp v hp a=>?_,a5,by show q1.length≤_;omega⟩,rfl⟩;have a:(vs.set k v1)[p]? =some v:=a;by_cases e:k=p
  ·subst e;rw[Aax (by omega)] at a;cases a;refine⟨a2,λJ u=>?_,λx y=>?_⟩
   ·rw[wR g] at u;cases u;exact a3
   ·rw[j] at y;cases y;exact a4
  ·rw[Aai e] at a;exact V p v (by omega) a) N 0 (C,h.G,c) ⟨⟨M,λx y=>by rw[Q x y];exact⟨by decide,by decide,by decide⟩⟩,hv,λp v hp=>by omega,k2,by simp⟩ (by omega) (wL _)
 rw[show Em N b h in_ (c,m,d) (En N h (c,m,d)) N 0 C h.G c=En N h (c,m,d) U vs q from e3];have o:vs.length=b.F.length:=o;have X:q.length≤c.length+b.F.length*(in_.An.length+101):=X;unfold En;rw[Cw (by omega) (by omega)];exact⟨_,rfl,⟨rfl,o,k4,W,k5,I,λp v a=>V p v (by have:=(wU.1 a).1;have this:p<vs.length:=this;show p<_;omega) a⟩,by show q.length≤_;omega⟩
end Go.Proofs.YtibidnaedddfdaaGreat
