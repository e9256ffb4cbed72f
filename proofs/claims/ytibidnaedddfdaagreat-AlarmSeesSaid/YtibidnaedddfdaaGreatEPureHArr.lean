import Derived.Test.YtibidnaedddfdaaGreatEPureSlope
namespace Go.Proofs.YtibidnaedddfdaaGreat
set_option linter.all false
open Go.RowKit
def H6 (s:AB):Prop:=0≤s.B∧s.B≤s.A∧s.A≤1125899906842624
structure OK (P:Nat) (t:Int) (q:List AZ):Prop where
 srt:Wr q
 el:∀e∈q,H6 e.K∧0<e.K.A∧t≤e.O∧0≤e.C∧e.C<P
structure nH (b:AF) (h:BV):Prop where
 hour:0≤h.I∧h.I≤16777216
 vol:h.K.length=b.E.length
 lks:h.D.length=b.D.length
 vols:∀v∈h.K,H6 v
 que:OK b.E.length h.I h.N
 kn:∀(k:Nat) l x,b.D[k]? =some l→h.D[k]? =some x→Td l x
def nZ (s:AB):Bool:=decide (s.B≤s.A)&&(decide (0≤s.B)&&decide (s.A≤1125899906842624))
def UW {s:AB}:nZ s=true↔H6 s:=by
 unfold nZ H6;simp only[uL,uY];omega
def nb {α}(y z:Bool) (A B:Option α):(cond (!y) (some true) (some (!z))).bind (λb=>cond b A B)=cond (y&&z) B A:=by cases y<;>cases z<;>rfl
def ZW (N:Nat) (l:AO) (k:AH):∃v,JM N l k=some v∧(v=true↔Td l k):=by
 unfold JM;simp only[Dt,RS,Jw,FE,Kk,uF,V0,Fb,Lk];have a:∀n m:Int,(decide (k.R.B=n)&&decide (k.R.A=m))=true↔k.R=⟨n,m⟩:=λn m=>by
  simp only[uL,uY];cases k.R;simp
 cases c:(!decide (k.U.B≤k.U.A)|| !(decide (0≤k.U.B)&&decide (k.U.A≤l.Y))|| !(decide (0≤k.W)&&decide (k.W≤l.Y)))
 ·simp only[vH,xD,uL,uY] at c;rw[uH];by_cases b:l.F=5∨l.F=3
  ·rw[show (decide (l.F≠5)&&decide (l.F≠3))=false by rcases b with h|h<;>simp [h],uH];refine⟨_,rfl,?_⟩;rw[uZ,uZ,a,a,a];refine⟨λh=>⟨by omega,by omega,?_⟩,λh=>?_⟩
   ·rcases h with (h|h)|h
    ·exact .inl h
    ·exact .inr ⟨b,.inl h⟩
    ·exact .inr ⟨b,.inr h⟩
   ·rcases h.opn with h|⟨_,h|h⟩
    ·exact .inl (.inl h)
    ·exact .inl (.inr h)
    ·exact .inr h
  ·rw[show (decide (l.F≠5)&&decide (l.F≠3))=true by simp;omega,uG];refine⟨_,rfl,?_⟩;rw[a];exact⟨λh=>⟨by omega,by omega,.inl h⟩,λh=>h.opn.resolve_right λh=>b h.1⟩
 ·rw[uG];refine⟨false,rfl,(λh=>by cases h),λh=>?_⟩;have g:=h.pos;have d:=h.tgt;rw[uK (show k.U.B≤k.U.A by omega),uK (show 0≤k.U.B by omega),uK (show k.U.A≤l.Y by omega),uK d.1,uK d.2] at c;cases c
def gK (P:Nat) (t:Int) (e:AZ):Bool:=nZ e.K&&(decide (0<e.K.A)&&(decide (t≤e.O)&&(decide (0≤e.C)&&decide (e.C<(P:Int)))))
def Xo {P:Nat}{t:Int}{e:AZ}:gK P t e=true↔H6 e.K∧0<e.K.A∧t≤e.O∧0≤e.C∧e.C<P:=by
 unfold gK;simp only[uL,uY,UW]
def Yp {N:Nat}(hN:9007199254740992<N) (b:AF) (U:KE b) (h:BV) (hq:h.N.length≤4398048311104):∃v,Lg N b h=some v∧(v=true↔nH b h):=by
 have Y:=U.pl;have Z:=U.li;unfold Lg;cases J:(((decide (h.I<0)||decide (16777216<h.I))||decide ((h.K.length:Int)≠(b.E.length:Int)))||decide ((h.D.length:Int)≠(b.D.length:Int)))
 ·simp only[vH,vC] at J;obtain⟨⟨⟨b1,b2⟩,V⟩,W⟩:=J;have V:h.K.length=b.E.length:=by omega
  have W:h.D.length=b.D.length:=by omega
  rw[uH];rcases Qw h.K.length (λn i=>GX N h (GZ N b h) n i) (GZ N b h) (λi=>nZ (h.K.getD i default)) (λn k d=>by
   simp only[GX];rw[ES d];rfl) (λn k d=>by
   simp only[GX];rw[Ei d,uG,A9 d];simp only[uF,Dt,RS,BE (show k<4611686018427387904 by omega),nb];rw[wD,uU d];rfl) N 0 (by omega) (uO _) with ⟨q,M⟩|⟨⟨i,_,a,q⟩,M⟩
  ·rw[show GX N h (GZ N b h) N 0=GZ N b h from M];have o:∀v∈h.K,H6 v:=λv o=>by
    obtain⟨i,a,rfl⟩:=xF.1 o;have:=q i (uO _) a;rw[wD,uU a] at this;exact UW.1 this
   unfold GZ;rcases Qw h.N.length (λn i=>GW N b h (GY N b h) n i) (GY N b h) (λi=>gK b.E.length h.I (h.N.getD i default)&&(decide (i=0)||decide (Sz (h.N.getD (i-1) default) (h.N.getD i default)<0))) (λn k d=>by
    simp only[GW];rw[ES d];rfl) (λn k d=>by
    simp only[GW];rw[Ei d,uG,A9 d];simp only[uF,Dt,RS,Hh,BE (show k<4611686018427387904 by omega)];rw[wD (i:=k),uU d,vM];generalize Q:h.N[k]=x
    have s:((cond (!decide (x.K.B≤x.K.A)) (some true) (some (!(decide (0≤x.K.B)&&decide (x.K.A≤1125899906842624))))).bind λg=>(cond ((g||decide (x.K.A≤0))||decide (x.O<h.I)) (some true) (some (!(decide (0≤x.C)&&decide (x.C<(b.E.length:Int)))))).bind λt=>some t)=some (!gK b.E.length h.I x):=by
     unfold gK nZ;rw[show decide (x.K.A≤0)= !decide (0<x.K.A) by rw[←decide_not];congr 1;exact propext ⟨λh=>by omega,λh=>by omega⟩,show decide (x.O<h.I)= !decide (h.I≤x.O) by rw[←decide_not];congr 1;exact propext ⟨λh=>by omega,λh=>by omega⟩];generalize decide (x.K.B≤x.K.A)=a1
     generalize (decide (0≤x.K.B)&&decide (x.K.A≤1125899906842624))=a2
     generalize decide (0<x.K.A)=a3
     generalize decide (h.I≤x.O)=a4
     generalize (decide (0≤x.C)&&decide (x.C<(b.E.length:Int)))=a5
     cases a1<;>cases a2<;>cases a3<;>cases a4<;>cases a5<;>rfl
    have u:∀{A:Bool→Option Bool},((cond (!decide (x.K.B≤x.K.A)) (some true) (some (!(decide (0≤x.K.B)&&decide (x.K.A≤1125899906842624))))).bind λg=>(cond ((g||decide (x.K.A≤0))||decide (x.O<h.I)) (some true) (some (!(decide (0≤x.C)&&decide (x.C<(b.E.length:Int)))))).bind A)=A (!gK b.E.length h.I x):=λ{A}=>by
     have:=uP (λz=>z.bind A) s;simp only[Option.bind_assoc,uF] at this;exact this
    rw[u];cases gK b.E.length h.I x
    ·rfl
    ·rcases zL k with h0|h0
     ·subst h0;rw[show decide ((0:Int)<((0:Nat):Int))=false by simp];rfl
     ·rw[show decide ((0:Int)<(k:Int))=true by simp;omega,show BR ((k:Int)-1)=((k-1:Nat):Int) by rw[CT (by omega) (by omega)];omega,A9 (show k-1<h.N.length by omega)];simp only[uG,uF];rw[Sy (by omega),wD,uU (show k-1<h.N.length by omega),vM];simp only[uF];rw[show decide (0≤Sz h.N[k-1] x)= !decide (Sz h.N[k-1] x<0) by rw[←decide_not];congr 1;exact propext ⟨λh=>by omega,λh=>by omega⟩,show decide (k=0)=false by simp;omega];cases decide (Sz h.N[k-1] x<0)<;>rfl) N 0 (by omega) (uO _) with ⟨m,s⟩|⟨⟨i,_,a,m⟩,s⟩
   ·rw[show GW N b h (GY N b h) N 0=GY N b h from s];have w:∀(i:Nat) (a:i<h.N.length),gK b.E.length h.I h.N[i]=true∧(i=0∨Sz (h.N.getD (i-1) default) h.N[i]<0):=λi a=>by
     have:=m i (uO _) a;rw[wD (i:=i),uU a,vM] at this;simp only[uL,uZ,uY] at this;exact this
    have y:Wr h.N:=by
     unfold Wr;rw[zB];have step:∀(i:Nat) (a:i+1<h.N.length),QT (h.N[i]).O (h.N[i]).C (h.N[i+1]).O (h.N[i+1]).C:=λi a=>by
      have:=(w (i+1) a).2.resolve_left (by omega);rw[wD,yW,uU (show i<h.N.length by omega),vM] at this;exact Qt.1 this
     intro i j a X aa
     induction j with
     |zero=>omega
     |succ j ih=>
      by_cases e:i=j
      ·subst e;exact step i X
      ·exact T9 (ih (by omega) (by omega)) (step j X)
    have hQ:OK b.E.length h.I h.N:=⟨y,λe he=>by
     obtain⟨i,a,rfl⟩:=xF.1 he;exact Xo.1 (w i a).1⟩
    unfold GY;rcases Qw h.D.length (λn i=>GV N b h (HE N) n i) (HE N) (λi=>(JM N (b.D.getD i default) (h.D.getD i default)).getD false) (λn k d=>by
     simp only[GV];rw[ES d];rfl) (λn k d=>by
     have F:k<b.D.length:=by omega
     simp only[GV];rw[Ei d,uG,A9 d,A9 F];simp only[uF,BE (show k<4611686018427387904 by omega)];rw[wD,uU F,wD,uU d,vM,vM];obtain⟨v,G,_⟩:=ZW N b.D[k] h.D[k];rw[G,uF,vM];cases v<;>rfl) N 0 (by omega) (uO _) with ⟨p,u⟩|⟨⟨i,_,a,p⟩,u⟩
    ·rw[show GV N b h (HE N) N 0=HE N from u];refine⟨true,rfl,λ_=>⟨by omega,V,W,o,hQ,λk l x hl Q=>?_⟩,λ_=>rfl⟩;have d:=(uV.1 Q).1;have:=p k (uO _) d;rw[wD,hl,wD,Q,vM,vM] at this;obtain⟨v,G,o⟩:=ZW N l x;rw[G] at this;exact o.1 this
    ·rw[show GV N b h (HE N) N 0=some false from u];refine⟨false,rfl,(λh=>by cases h),λc=>?_⟩;have H:i<b.D.length:=by omega
     rw[wD,uU H,wD,uU a,vM,vM] at p;obtain⟨v,G,o⟩:=ZW N b.D[i] h.D[i];rw[G,o.2 (c.kn i _ _ (uU H) (uU a))] at p;cases p
   ·rw[show GW N b h (GY N b h) N 0=some false from s];refine⟨false,rfl,(λh=>by cases h),λc=>?_⟩;rw[wD (i:=i),uU a,vM,Xo.2 (c.que.el _ (vA a)),wW] at m;simp only[vH,vC] at m;have:=zB.1 c.que.srt (i-1) i (by omega) a (by omega);refine absurd (Qt.2 this) ?_;have m:=m.2;rw[wD,uU (show i-1<h.N.length by omega),vM] at m;exact m
  ·rw[show GX N h (GZ N b h) N 0=some false from M];refine⟨false,rfl,(λh=>by cases h),λc=>?_⟩;rw[wD,uU a,vM,UW.2 (c.vols _ (vA a))] at q;cases q
 ·rw[uG];refine⟨false,rfl,(λh=>by cases h),λc=>?_⟩;have q:=c.hour;have m:=c.vol;have p:=c.lks;simp only[uZ,uY] at J;omega
def Tj {α}{l:List α}{i:Int}(h0:0≤i) (b:i<l.length):∃x,ix l i=some x∧l[i.toNat]? =some x:=by
 obtain⟨k,rfl⟩:∃k:Nat,i=k:=⟨i.toNat,by omega⟩
 have a:k<l.length:=by omega
 exact⟨_,A9 a,by simp [a]⟩
def RU {α}(l:List α) (k:Nat) (x:α):upd l (k:Int) x=l.set k x:=by simp [upd]
def OK.set {P:Nat}{t:Int}{q:List AZ}(k:OK P t q) {r:Nat}(d:r<q.length) {v:AB}(g:H6 v) (h0:0<v.A):OK P t (q.set r { q[r] with K:=v}):=by
 refine⟨XE k.srt d rfl,λe i=>?_⟩;rcases List.mem_or_eq_of_mem_set i with h|h
 ·exact k.el e h
 ·rw[h];obtain⟨_,_,a,b,c⟩:=k.el _ (vA d);exact⟨g,h0,a,b,c⟩
def ZS {a b:Int}(c:0≤a) (d:0≤b):H4 (a+b)=min 9223372036854775807 (a+b):=by unfold H4;omega
def OK.add {N:Nat}(K:9007199254740992<N) {P:Nat}{t:Int}{q:List AZ}(k:OK P t q) (X:q.length<4398048311104) {at_ to:Int}(M:t≤at_) (m:0≤to∧to<P) {s:AB}(Q:H6 s):∃n,KK N q at_ to s=some n∧OK P t n∧n.length≤q.length+1:=by
 obtain⟨Y,Z,s3⟩:=Q;unfold KK;by_cases D:s.A≤0
 ·rw[uK D,uG];exact⟨q,rfl,k,Nat.le_succ _⟩
 rw[uM D,uH];obtain⟨r,o,h2,F,G⟩:=bP K q k.srt (by omega) (⟨at_,to,⟨0,0⟩⟩:AZ);have o:A4 N q (⟨at_,to,⟨0,0⟩⟩:AZ) (λx=>FJ N x.1 x.2)=_:=o;rw[o];simp only[uF];by_cases p:∃y,q[r]? =some y∧y.O=at_∧y.C=to
 ·obtain⟨y,H,u,v⟩:=p;obtain⟨w,U⟩:=uV.1 H;rw[uK ⟨y,H,u,v⟩,uG,A9 w];obtain⟨⟨v1,v2,v3⟩,_,_⟩:=k.el _ (vA w);simp only[uF,HI];rw[L9 N (by omega) (by omega) (by omega) (by omega),uF,L9 N (by omega) (by omega) (by omega) (by omega)];simp only[uF,Mz,RU];exact⟨_,rfl,k.set w ⟨by show 0≤min _ _;omega,by show min _ _≤min _ _;omega,by show min _ _≤_;omega⟩ (by show 0<min _ _;omega),by simp⟩
 ·rw[uM p,uH,Mz];simp only[uF];unfold Jg Yo;rw[uJ ⟨by omega,by omega,rfl,by unfold room;simp;omega⟩];refine⟨_,rfl,?_⟩;rw[xT];have g:∀e∈q,¬(at_=e.O∧to=e.C):=by
   intro e a d;obtain⟨i,b⟩:=vY.1 a;rcases vG i r with j|hge
   ·have:=F i e j b;rw[d.1,d.2] at this;exact Sa this
   ·rcases vG r i with I|I
    ·have z:=(uV.1 b).1;have J:=zB.1 k.srt r i (by omega) z I;rw[(uV.1 b).2,←d.1,←d.2] at J;exact G r _ (uW _) (uU (by omega)) J
    ·have:i=r:=by omega
     subst this;exact p ⟨e,b,d.1.symm,d.2.symm⟩
  refine⟨⟨?_,λe a=>?_⟩,by simp only[wC,vV,xC,List.length_singleton];omega⟩
  ·have j:∀e∈q.take r,QT e.O e.C at_ to:=λe a=>by
    obtain⟨i,b⟩:=vY.1 a;rw[xZ] at b;split at b
    ·exact F i e (by assumption) b
    ·cases b
   have B:∀e∈q.drop r,QT at_ to e.O e.C:=λe a=>by
    have V:=zN a;obtain⟨i,b⟩:=vY.1 a;rw[wX] at b;exact Ui (G (r+i) e (by omega) b) λd=>g e V ⟨d.1.symm,d.2.symm⟩
   unfold Wr;rw[xE,List.pairwise_append];have c:=k.srt;unfold Wr at c;rw[←yK r q,List.pairwise_append] at c;refine⟨c.1,List.pairwise_cons.2 ⟨λe a=>B e a,c.2.1⟩,λe a W l=>?_⟩;rcases uS.1 l with rfl|l
   ·exact j e a
   ·exact c.2.2 e a W l
  ·simp only[wF,wI] at a;rcases a with (a|a)|a
   ·exact k.el e (zM a)
   ·rw[a];exact⟨⟨by show 0≤min _ _;omega,by show min _ _≤min _ _;omega,by show min _ _≤_;omega⟩,by show 0<min _ _;omega,M,m⟩
   ·exact k.el e (zN a)
def Ta {N:Nat}(c:9007199254740992<N) {w:BX}{q:List AZ}(g:w.h.N=q) {t:Int}(i:w.h.I=t) (h0:0≤t∧t≤33554432) {P:Nat}(k:OK P (t+1) q) (j:q.length<4398048311104) {to d:Int}(b:to= -1∨(0≤to∧to<P)) (hd:0≤d∧d≤240) {s:AB}(l:H6 s):∃a,HQ N w to d s=some a∧OK P (t+1) a∧a.length≤q.length+1:=by
 subst g;subst i;unfold HQ;by_cases h:to= -1
 ·rw[show decide (to≠ -1)=false by simp [h],uH];exact⟨_,rfl,k,Nat.le_succ _⟩
 ·rw[show decide (to≠ -1)=true by simp [h],uG,CT (n:=w.h.I+1) (by omega) (by omega),CT (n:=w.h.I+1+d) (by omega) (by omega)];obtain⟨a,m,o,p⟩:=k.add c j (at_:=w.h.I+1+d) (by omega) (b.resolve_left h) l;rw[m];exact⟨a,rfl,o,p⟩
def Lc (b:AF) (l:List AH):Prop:=l.length=b.D.length∧∀(k:Nat) a x,b.D[k]? =some a→l[k]? =some x→Td a x
def Lc.set {b:AF}{l:List AH}(h:Lc b l) {k:Nat}{x:AH}(g:∀a,b.D[k]? =some a→Td a x):Lc b (l.set k x):=by
 refine⟨by simp [h.1],λi a y d c=>?_⟩;rw[List.getElem?_set] at c;split at c
 ·rename_i e;subst e;split at c
  ·cases c;exact g a d
  ·cases c
 ·exact h.2 i a y d c
def Us (N:Nat) {n a b:Int}(h:a≤b):IN N n a b=some (max a (min b n)):=by
 unfold IN;by_cases c:n<a
 ·rw[uK c,uG];congr 1;omega
 ·rw[uM c,uH];by_cases d:b<n
  ·rw[uK d,uG];congr 1;omega
  ·rw[uM d,uH];congr 1;omega
def Z5 (N:Nat) {l:AO}{k:AH}(a:0≤l.An∧l.An≤l.Y∧l.Y≤64) (b:0≤k.W∧k.W≤l.Y) {p:Int}(c:0≤p∧p≤l.Y):IW N l k p=some (p+max (0-l.An) (min l.An (k.W-p))):=by
 unfold IW MJ;simp only[uH];rw[KY N (by omega) (by omega) (by omega) (by omega),uF,KY N (by omega) (by omega) (by omega) (by omega),uF,Us N (by omega),uF,L9 N (by omega) (by omega) (by omega) (by omega)];rfl
def Z4 {N:Nat}{l:AO}{s t:Int}(g:VB N l s t) {k:AH}(a:Td l k) (sure:Bool):∃c,KL N l k sure=some c∧Td l c:=by
 have d:=g.spd;have i:=a.pos;have b:=a.tgt;unfold KL;cases sure
 ·rw[uH,KY N (by omega) (by omega) (by omega) (by omega),uF,Us N (by omega),uF,L9 N (by omega) (by omega) (by omega) (by omega),uF,Us N (by omega),uF];refine⟨_,rfl,⟨?_,?_,?_⟩,b,a.opn⟩
  ·show 0≤max 0 _;omega
  ·show max 0 (min l.Y (k.U.B-l.An))≤max 0 (min l.Y (k.U.A+l.An));omega
  ·show max 0 (min l.Y (k.U.A+l.An))≤l.Y;omega
 ·rw[uG,Z5 N d b (by omega),uF,Z5 N d b (by omega),uF];refine⟨_,rfl,⟨?_,?_,?_⟩,b,a.opn⟩
  ·show 0≤k.U.B+max (0-l.An) (min l.An (k.W-k.U.B));omega
  ·show k.U.B+max (0-l.An) (min l.An (k.W-k.U.B))≤k.U.A+max (0-l.An) (min l.An (k.W-k.U.A));omega
  ·show k.U.A+max (0-l.An) (min l.An (k.W-k.U.A))≤l.Y;omega
def mH (N:Nat) {l:AO}(a:0≤l.Y) {t:Int}(b:0≤t∧t≤l.Y) (c:Int):∃y,L8 N l (⟨0,t,false,false⟩:Ep) c=some y∧0≤y.W∧y.W≤l.Y:=by
 unfold L8 LC;by_cases h:l.Y=0
 ·rw[show decide (l.Y≠0)=false by simp [h],uH];exact⟨_,rfl,b⟩
 ·rw[show decide (l.Y≠0)=true by simp [h],uG,Us N a,uF];exact⟨_,rfl,by show 0≤max 0 (min l.Y c);omega,by show max 0 (min l.Y c)≤l.Y;omega⟩
def Pi (N:Nat) (i:Int) (L:Nat):Hh N i (L:Int)=some (decide (0≤i)&&decide (i<(L:Int))):=rfl
def Vp {N:Nat}(hN:18446744073709551616<N) {w:BX}{b:AF}(X:w.b=b) (G:L4 N b) {in_:BT}(hf:in_.Bc.length≤4398048311104) (hc:in_.Bb.length≤4398048311104) (sure:List Bool) (g:Lc b w.h.D):∃l,Hi N w in_ sure=some l∧Lc b l:=by
 subst X;have Y:=G.head.li;unfold Hi;obtain⟨H,i1,e1⟩:=Gi in_.Bc.length (λn i l=>CF N w in_ (Cx N w in_ sure) n i l) (Cx N w in_ sure) (λ_ l=>Lc w.b l) (λn k l g=>by
  simp only[CF];rw[ES g];rfl) (λn k l m g=>by
  simp only[CF];rw[Ei g,uG,A9 g,uF,Pi,uF];have s:∀l,Eb N (k:Int) (CF N w in_ (Cx N w in_ sure) n) l=CF N w in_ (Cx N w in_ sure) n ((k+1:Nat):Int) l:=λl=>by
   unfold Eb;rw[BE (by omega)]
  simp only[s];generalize in_.Bc[k]=f
  by_cases d:0≤f.Z∧f.Z<w.b.D.length
  ·obtain⟨a,I,p⟩:=Tj (l:=w.b.D) d.1 d.2;obtain⟨x,B,t⟩:=Tj (l:=l) (i:=f.Z) d.1 (by rw[m.1];exact d.2);rw[uK d.1,uK d.2];simp only[xB,vL,uH,I,uF];by_cases J:a.F=5
   ·rw[show decide (a.F≠5)=false by simp [J],uH];have v:∀o:AB,(o=⟨1,1⟩∨o=⟨0,0⟩)→Lc w.b (upd l f.Z ({ x with R:=o}:AH)):=λo ho=>by
     unfold upd;refine m.set λC j=>?_;have:C=a:=by rw[p] at j;exact(uX j).symm
     subst this;have q:=m.2 _ _ _ p t;refine⟨q.pos,q.tgt,?_⟩;rcases ho with rfl|rfl
     ·exact .inr ⟨.inl J,.inl rfl⟩
     ·exact .inl rfl
    by_cases Q:f.F=2
    ·rw[uK Q,uG];simp only[FE,B,uF];exact⟨_,v _ (.inl rfl),rfl⟩
    ·rw[uM Q,uH];by_cases U:f.F=3
     ·rw[uK U,uG];simp only[FE,B,uF];exact⟨_,v _ (.inr rfl),rfl⟩
     ·rw[uM U,uH];exact⟨_,m,rfl⟩
   ·rw[show decide (a.F≠5)=true by simp [J],uG];exact⟨_,m,rfl⟩
  ·rw[show (decide (0≤f.Z)&&decide (f.Z<(w.b.D.length:Int)))=false by
    rw[zO];simp only[vC];omega]
   exact⟨_,m,rfl⟩) N 0 w.h.D g (by omega) (uO _)
 rw[show CF N w in_ (Cx N w in_ sure) N 0 w.h.D=Cx N w in_ sure H from e1];unfold Cx;obtain⟨V,i2,e2⟩:=Gi in_.Bb.length (λn i l=>CX N w in_ (Cw N w sure) n i l) (Cw N w sure) (λ_ l=>Lc w.b l) (λn k l g=>by
  simp only[CX];rw[ES g];rfl) (λn k l m g=>by
  simp only[CX];rw[Ei g,uG,A9 g,uF,Pi,uF];have s:∀l,GK N (k:Int) (CX N w in_ (Cw N w sure) n) l=CX N w in_ (Cw N w sure) n ((k+1:Nat):Int) l:=λl=>by
   unfold GK;rw[BE (by omega)]
  simp only[s];generalize in_.Bb[k]=f
  by_cases d:0≤f.Z∧f.Z<w.b.D.length
  ·obtain⟨a,I,p⟩:=Tj (l:=w.b.D) d.1 d.2;obtain⟨x,B,t⟩:=Tj (l:=l) (i:=f.Z) d.1 (by rw[m.1];exact d.2);have q:=m.2 _ _ _ p t;have K:a∈w.b.D:=wO p;obtain⟨y,M,y1⟩:=mH N (l:=a) (by have:=(G.lk a K).spd;omega) q.tgt f.W;rw[uK d.1,uK d.2];simp only[xB,uG,I,B,M,uF];refine⟨_,?_,rfl⟩;unfold upd;refine m.set λC j=>?_;have:C=a:=by rw[p] at j;exact(uX j).symm
   subst this;exact⟨q.pos,y1,q.opn⟩
  ·rw[show (decide (0≤f.Z)&&decide (f.Z<(w.b.D.length:Int)))=false by
    rw[zO];simp only[vC];omega]
   exact⟨_,m,rfl⟩) N 0 H i1 (by omega) (uO _)
 rw[show CX N w in_ (Cw N w sure) N 0 H=Cw N w sure V from e2];unfold Cw;obtain⟨l3,i3,e3⟩:=Gi w.b.D.length (λn i l=>D5 N w sure n i l) some (λ_ l=>Lc w.b l) (λn k l g=>by
  simp only[D5];rw[ES g];rfl) (λn k l m g=>by
  have z:k<l.length:=by rw[m.1];exact g
  simp only[D5];rw[Ei g,uG,A9 g,A9 z];simp only[uF,BE (show k<4611686018427387904 by omega)];have q:=m.2 k _ _ (uU g) (uU z);have u:∃c,cond (decide ((k:Int)<(sure.length:Int))) ((ix sure (k:Int)).bind λA=>some A) (some false)=some c:=by
   by_cases h:k<sure.length
   ·rw[Ei h,uG,A9 h];exact⟨_,rfl⟩
   ·rw[ES (by omega)];exact⟨_,rfl⟩
  obtain⟨c,ec⟩:=u;obtain⟨y,M,hy⟩:=Z4 (G.lk _ (vA g)) q c;rw[ec];simp only[uF,M,RU];exact⟨_,m.set λC j=>by rw[uU g] at j;cases j;exact hy,rfl⟩) N 0 V i2 (by omega) (uO _)
 exact⟨l3,e3,i3⟩
def fJ (s:Int×Int×Bool):Prop:=s.2.2=true→0≤s.1∧s.1≤s.2.1∧s.2.1≤1
def Zi (N:Nat) {i j:Int}{b:Bool}(h:fJ (i,j,b)) {a:Int}(c:0≤a∧a≤1) (d:Int→Int→Bool→Option (Bool×(Int×Int×Bool))):∃g k,HC N i j b d a=d g k true∧fJ (g,k,true):=by
 unfold HC;cases b
 ·exact⟨a,a,rfl,λ_=>⟨c.1,vZ _,c.2⟩⟩
 ·obtain⟨l,m,n⟩:=h rfl;have l:0≤i:=l;have m:i≤j:=m;have n:j≤1:=n;exact⟨min i a,max j a,rfl,λ_=>⟨by show 0≤min i a;omega,by show min i a≤max j a;omega,by show max j a≤1;omega⟩⟩
def YV (N:Nat) (l:AO) (a:Ep) (v:Int):∃y,Jx N l a v=some y:=by
 unfold Jx IF;exact Df.cond (λ_=>Df.mk _) λ_=>Df.cond (λ_=>Df.mk _) λ_=>Df.cond (λ_=>Df.mk _) λ_=>Df.mk _
def jV {N:Nat}(v:10<N) (l:AO) (k:AH) (x:Int) {i j:Int}{b:Bool}(h:fJ (i,j,b)):∃s,GU N l k x i j b=some (true,s)∧fJ s:=by
 unfold GU;obtain⟨s,p,q⟩:=Gi 2 (λn m s=>CY N l k x n m s.1 s.2.1 s.2.2) (λs=>some (true,s)) (λ_ s=>fJ s) (λn m s t=>by
  simp only[CY];rw[uM (show ¬(m:Int)<2 by omega)];rfl) (λn m s c t=>by
  simp only[CY];rw[uK (show(m:Int)<2 by omega),uG];simp only[Jw,uF,EV,BE (show m<4611686018427387904 by omega)];cases (decide (k.R.B≤(m:Int))&&decide ((m:Int)≤k.R.A))
  ·exact⟨s,c,rfl⟩
  ·obtain⟨y,u⟩:=YV N l (⟨0,0,false,(decide ((m:Int)=1))⟩:Ep) x;rw[u];simp only[vL,uH,uF];cases y.R
   ·obtain⟨d,g,e,o⟩:=Zi N (i:=s.1) (j:=s.2.1) (b:=s.2.2) c (a:=0) (by decide) (EV N (m:Int) (CY N l k x n));refine⟨(d,g,true),o,Eq.trans e ?_⟩;unfold EV;rw[BE (by omega)]
   ·obtain⟨d,g,e,o⟩:=Zi N (i:=s.1) (j:=s.2.1) (b:=s.2.2) c (a:=1) (by decide) (EV N (m:Int) (CY N l k x n));refine⟨(d,g,true),o,Eq.trans e ?_⟩;unfold EV;rw[BE (by omega)]) N 0 (i,j,b) h (by omega) (uO _)
 exact⟨s,q,p⟩
def Wk {N:Nat}(c:AB) (l:AO) (a:Int→(Int×Int×Bool)→Option (Bool×(Int×Int×Bool))) (b:∀x s,fJ s→∃s',a x s=some (true,s')∧fJ s') {s:Int×Int×Bool}(d:fJ s):∃s',JL N c l a s=some (true,s')∧fJ s':=by
 unfold JL;simp only[Dt,Jw,uF];cases decide (c.B≤c.A)
 ·exact⟨s,rfl,d⟩
 ·simp only[vL,uH];obtain⟨j,k,m⟩:=b c.B s d;obtain⟨g,n,i⟩:=b c.A j m;obtain⟨o,p,q⟩:=b (BR (l.Aa+1)) g i;rw[k];simp only[uF,uG];rw[n];simp only[uF,uG,Fb];rw[p];simp only[uF,uG];cases cond (decide (l.Aa<9223372036854775807)) (decide (c.B≤BR (l.Aa+1))&&decide (BR (l.Aa+1)≤c.A)) false
  ·exact⟨g,rfl,i⟩
  ·exact⟨o,rfl,q⟩
def Vo {N:Nat}(q:10<N) (l:AO) {k:AH}(a:Td l k) (v:AB):∃g,Jl N l k v=some g∧Td l g:=by
 unfold Jl;by_cases c:l.F=3
 ·rw[show decide (l.F≠3)=false by simp [c],uH];simp only[Km,uF];obtain⟨s,e,o⟩:=Wk (N:=N) v l (λt d=>GU N l k t d.1 d.2.1 d.2.2) (λx s u=>jV q l k x u) (s:=(0,0,false)) (λh=>by cases h);rw[e];simp only[uF,uG,KQ];obtain⟨i,j,b⟩:=s;cases b
  ·exact⟨_,rfl,a.pos,a.tgt,a.opn⟩
  ·obtain⟨m,n,p⟩:=o rfl;have m:0≤i:=m;have n:i≤j:=n;have p:j≤1:=p;refine⟨_,rfl,a.pos,a.tgt,?_⟩;have w:(i=0∧j=0)∨(i=1∧j=1)∨(i=0∧j=1):=by omega
   rcases w with ⟨rfl,rfl⟩|⟨rfl,rfl⟩|⟨rfl,rfl⟩
   ·exact .inl rfl
   ·exact .inr ⟨.inr c,.inl rfl⟩
   ·exact .inr ⟨.inr c,.inr rfl⟩
 ·rw[show decide (l.F≠3)=true by simp [c],uG];exact⟨k,rfl,a⟩
def R9 (s:AB):Prop:=0≤s.B∧s.B≤s.A∧s.A≤9223372036854775807
def H6.n {s:AB}(h:H6 s):R9 s:=by obtain⟨a,b,c⟩:=h;exact⟨a,b,by omega⟩
def VW (N:Nat) {a b:AB}(d:R9 a) (g:R9 b):∃c,HI N a b=some c∧R9 c:=by
 obtain⟨i,k,l⟩:=d;obtain⟨j,m,n⟩:=g;unfold HI;rw[TV N (by unfold AA;omega) (by unfold AA;omega),uF,TV N (by unfold AA;omega) (by unfold AA;omega),uF,ZS i j,ZS (by omega) (by omega)];exact⟨_,rfl,by show 0≤min _ _;omega,by show min _ _≤min _ _;omega,by show min _ _≤_;omega⟩
def La (P:AB→Prop) (n:Nat) (l:List AB):Prop:=l.length=n∧∀x∈l,P x
def La.set {P:AB→Prop}{n:Nat}{l:List AB}(h:La P n l) (k:Nat) {x:AB}(a:P x):La P n (l.set k x):=
 ⟨by simp [h.1],λy b=>(List.mem_or_eq_of_mem_set b).elim (h.2 y) λe=>e▸a⟩
def OK.filt {P:Nat}{t:Int}{q:List AZ}(k:OK P t q) {r:List AZ}(d:r.Sublist q) (h:∀e∈r,t+1≤e.O):OK P (t+1) r:=
 ⟨List.Pairwise.sublist d k.srt,λe g=>by
  obtain⟨a,b,_,c⟩:=k.el e (d.subset g);exact⟨a,b,h e g,c⟩⟩
def R8 {N:Nat}(hN:18446744073709551616<N) {w:BX}{b:AF}(ab:w.b=b) (hb:L4 N b) (hv:w.h.K.length=b.E.length) (ac:∀v∈w.h.K,H6 v) {t:Int}(ht:w.h.I=t) (hq:OK b.E.length t w.h.N) (aj:w.h.N.length≤4398048311104) (g:Lc b w.h.D) (hp:w.peaks.length=b.E.length) (ad:∀x∈w.peaks,x=⟨0,0⟩) {d:List AB}(hr:∀s∈d,AA s.B∧AA s.A):
  ∃q l p,E8 N w d=some (q,l,p)∧OK b.E.length (t+1) q∧q.length≤w.h.N.length∧Lc b l∧La H6 b.E.length p:=by
 subst ab;subst ht;have ak:=hb.head.pl;have al:=hb.head.li;unfold E8;have start:La R9 w.b.E.length w.peaks:=⟨hp,λx o=>by rw[ad x o];exact⟨by decide,by decide,by decide⟩⟩
 obtain⟨p1,i1,e1⟩:=Gi w.h.K.length (λn i l=>BK N w d (BL N w) n i l) (BL N w) (λ_ l=>La R9 w.b.E.length l) (λn k l g=>by
  simp only[BK];rw[ES g];rfl) (λn k l j g=>by
  have m:k<l.length:=by rw[j.1];omega
  have hV:=ac _ (vA g);have ae:∀a c:Int,EK N (k:Int) l (BK N w d (BL N w) n) a c=BK N w d (BL N w) n ((k+1:Nat):Int) (l.set k ⟨a,c⟩):=λa c=>by
   unfold EK;rw[A9 m];simp only[uF,BE (show k<4611686018427387904 by omega),RU]
  simp only[BK];rw[Ei g,uG,A9 g];simp only[uF,ae];generalize w.h.K[k]=v at hV
  by_cases h:k<d.length
  ·rw[Ei h,uG,A9 h];simp only[uF,Dt];have hR:=hr _ (vA h);generalize d[k]=r at hR
   obtain⟨⟨r1,r2⟩,r3,r4⟩:=hR;by_cases Q:r.B≤r.A∧0≤r.B
   ·rw[uK Q.1,uK Q.2];simp only[uG,uF];obtain⟨c,ec,hc⟩:=VW N hV.n (show R9 r from⟨Q.2,Q.1,r4⟩);rw[ec,uF];exact⟨_,j.set k (x:=⟨c.B,c.A⟩) hc,rfl⟩
   ·have e:(cond (decide (r.B≤r.A)) (some (decide (0≤r.B))) (some false)).bind (λaf=>cond af ((HI N v r).bind λU=>BK N w d (BL N w) n ((k+1:Nat):Int) (l.set k ⟨U.B,U.A⟩)) (BK N w d (BL N w) n ((k+1:Nat):Int) (l.set k ⟨v.B,v.A⟩)))=BK N w d (BL N w) n ((k+1:Nat):Int) (l.set k ⟨v.B,v.A⟩):=by
     by_cases c2:r.B≤r.A
     ·rw[uK c2,uM (λc3=>Q ⟨c2,c3⟩)];rfl
     ·rw[uM c2];rfl
    rw[e];exact⟨_,j.set k (x:=⟨v.B,v.A⟩) hV.n,rfl⟩
  ·rw[ES (by omega)];exact⟨_,j.set k (x:=⟨v.B,v.A⟩) hV.n,rfl⟩) N 0 w.peaks start (by omega) (uO _)
 rw[show BK N w d (BL N w) N 0 w.peaks=BL N w p1 from e1];unfold BL;obtain⟨⟨u,H⟩,⟨i2,V,a2⟩,e2⟩:=Gi w.h.N.length (λn i (s:List AZ×List AB)=>CA N w (CB N w) n s.1 i s.2) (λs=>CB N w s.1 s.2) (λk s=>La R9 w.b.E.length s.2∧s.1.Sublist (w.h.N.take k)∧∀e∈s.1,w.h.I+1≤e.O) (λn k s g=>by
  simp only[CA];rw[ES g];rfl) (λn k s j g=>by
  obtain⟨z,W,X⟩:=j;obtain⟨v1,v2,v3,v4,v5⟩:=hq.el _ (vA g);have Y:=W.length_le;rw[vV] at Y;have ag:∀r:List AZ,r.Sublist (w.h.N.take k)→r.Sublist (w.h.N.take (k+1)):=λr hr=>hr.trans (by rw[yQ g];exact List.sublist_append_left _ _);have G:(s.1++[w.h.N[k]]).Sublist (w.h.N.take (k+1)):=by rw[yQ g];exact W.append (List.Sublist.refl _)
  simp only[CA];rw[Ei g,uG,A9 g];simp only[uF,GE,BE (show k<4611686018427387904 by omega)];generalize o:w.h.N[k]=x at v1 v2 v3 v4 v5 G
  by_cases ha:x.O≤w.h.I
  ·obtain⟨y,ey,ah⟩:=Tj (l:=s.2) (i:=x.C) v4 (by rw[z.1];exact v5);obtain⟨c,ec,hc⟩:=VW N (z.2 y (wO ah)) v1.n;rw[uK ha];simp only[uG,ey,ec,uF];exact⟨(s.1,upd s.2 x.C c),⟨z.set _ hc,ag _ W,X⟩,rfl⟩
  ·rw[uM ha,uH,N6 (by omega) (by decide)];refine⟨(s.1++[x],s.2),⟨z,G,λe J=>?_⟩,rfl⟩;rcases wF.1 J with J|J
   ·exact X e J
   ·rw[wI.1 J];omega) N 0 ([],p1) ⟨i1,by simp,λe J=>by cases J⟩ (by omega) (uO _)
 rw[show CA N w (CB N w) N [] 0 p1=CB N w u H from e2];rw[wQ] at V;have V:u.Sublist w.h.N:=V;have i2:La R9 w.b.E.length H:=i2;unfold CB;have am:=i2.1;obtain⟨M,⟨i3,j3⟩,e3⟩:=Gi H.length (λn i l=>CV N H (CW N w u) n i l) (CW N w u) (λk l=>La R9 w.b.E.length l∧∀i,i<k→∀x,l[i]? =some x→H6 x) (λn k l g=>by
  simp only[CV];rw[ES g];rfl) (λn k l j g=>by
  obtain⟨z,W⟩:=j;have m:k<l.length:=by rw[z.1];omega
  obtain⟨x1,x2,x3⟩:=z.2 _ (vA m);simp only[CV];rw[Ei g,uG,A9 m];simp only[uF,Mz,BE (show k<4611686018427387904 by omega),RU];have hS:H6 ⟨min (l[k]).B 1125899906842624,min (l[k]).A 1125899906842624⟩:=⟨by show 0≤min _ _;omega,by show min _ _≤min _ _;omega,by show min _ _≤_;omega⟩
  refine⟨_,⟨z.set k hS.n,λi j x o=>?_⟩,rfl⟩;by_cases e:k=i
  ·subst e;rw[yN m] at o;cases o;exact hS
  ·rw[yD e] at o;exact W i (by omega) x o) N 0 H ⟨i2,λi j=>by omega⟩ (by omega) (uO _)
 rw[show CV N H (CW N w u) N 0 H=CW N w u M from e3];have Z:La H6 w.b.E.length M:=⟨i3.1,λx o=>by
  obtain⟨i,j⟩:=vY.1 o;have:=(uV.1 j).1;exact j3 i (by have:=i3.1;omega) x j⟩
 unfold CW;obtain⟨l4,i4,e4⟩:=Gi w.b.D.length (λn i l=>CU N w u M n i l) (λl=>some (u,l,M)) (λ_ l=>Lc w.b l) (λn k l g=>by
  simp only[CU];rw[ES g];rfl) (λn k l j g=>by
  have m:k<l.length:=by rw[j.1];exact g
  have ok:=hb.links _ (vA g);have hK:=j.2 k _ _ (uU g) (uU m);simp only[CU];rw[Ei g,uG,A9 g];simp only[uF,GD,BE (show k<4611686018427387904 by omega)];by_cases X:(w.b.D[k]).F=3
  ·obtain⟨y,ey,_⟩:=Tj (l:=M) (i:=(w.b.D[k]).P) ok.fr.1 (by rw[Z.1];exact ok.fr.2);obtain⟨k',ek,ai⟩:=Vo (N:=N) (by omega) _ hK y;rw[uK X,uG,A9 m];simp only[ey,ek,uF,RU];exact⟨_,j.set λa2 aa=>by rw[uU g] at aa;cases aa;exact ai,rfl⟩
  ·rw[uM X,uH];exact⟨_,j,rfl⟩) N 0 w.h.D g (by omega) (uO _)
 exact⟨u,l4,M,e4,hq.filt V a2,V.length_le,i4,Z⟩
end Go.Proofs.YtibidnaedddfdaaGreat
