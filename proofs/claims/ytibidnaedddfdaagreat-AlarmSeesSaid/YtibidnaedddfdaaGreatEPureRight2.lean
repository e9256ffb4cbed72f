import Derived.Test.YtibidnaedddfdaaGreatEPureDiv
namespace Go.Proofs.YtibidnaedddfdaaGreat
set_option linter.all false
open Go.RowKit
def Lk (b x:Bool):cond b true x=(b||x):=by cases b<;>rfl
def Ri (b x:Bool):cond b x false=(b&&x):=by cases b<;>rfl
def BE {k:Nat}(h:k<4611686018427387904):BR ((k:Int)+1)=((k+1:Nat):Int):=by rw[CT (by omega) (by omega)];rfl
def Ei {k L:Nat}(h:k<L):decide ((k:Int)<(L:Int))=true:=by simp;omega
def ES {k L:Nat}(h:L≤k):decide ((k:Int)<(L:Int))=false:=by simp;omega
def Hg (L:Nat) (f:Nat→Int→Option Bool) (d:Option Bool) (P:Nat→Prop) (a:∀n (k:Nat),L≤k→f (n+1) (k:Int)=d) (b:∀n (k:Nat),k<L→f (n+1) (k:Int)=some false∨(P k∧f (n+1) (k:Int)=f n ((k+1:Nat):Int))):
  ∀n (k:Nat),L<n+k→k≤L→f n (k:Int)=some false∨((∀i,k≤i→i<L→P i)∧f n (k:Int)=d)
 |0,k,h,m=>by omega
 |n+1,k,h,m=>by
  rcases vG k L with g|g
  ·rcases b n k g with j|⟨j,h2⟩
   ·exact .inl j
   ·rcases Hg L f d P a b n (k+1) (by omega) (by omega) with l|⟨l,h4⟩
    ·exact .inl (h2.trans l)
    ·refine .inr ⟨λi o c=>?_,h2.trans h4⟩;by_cases e:i=k
     ·subst e;exact j
     ·exact l i (by omega) c
  ·exact .inr ⟨λi o c=>by omega,a n k g⟩
def XY {σ t:Type}(L:Nat) (f:Nat→Int→σ→Option t) (c:σ→Option t) (I:σ→Prop) (a:∀n (k:Nat) s,L≤k→f (n+1) (k:Int) s=c s) (b:∀n (k:Nat) s,I s→k<L→∃s',I s'∧f (n+1) (k:Int) s=f n ((k+1:Nat):Int) s'):
  ∀n (k:Nat) s,I s→L<n+k→k≤L→∃s',I s'∧f n (k:Int) s=c s'
 |0,k,s,_,h,i=>by omega
 |n+1,k,s,g,h,i=>by
  rcases vG k L with d|d
  ·obtain⟨j,l,m⟩:=b n k s g d;obtain⟨o,p,q⟩:=XY L f c I a b n (k+1) j l (by omega) (by omega);exact⟨o,p,m.trans q⟩
  ·exact⟨s,g,a n k s d⟩
def US (n:Int):Bool:=decide (0≤n)&&decide (n≤1125899906842624)
def L5 {n:Int}(h:US n=true):JK n:=by simpa [US,JK] using h
def Mw (N:Nat) (n:Int):Cr N n=some (US n):=rfl
def Zr (n a b:Int):Bool:=decide (a≤n)&&decide (n≤b)
def Ns (N:Nat) (n a b:Int):C8 N n a b=some (Zr n a b):=rfl
def LW {n a b:Int}(h:Zr n a b=true):a≤n∧n≤b:=by simpa [Zr] using h
def UC (a b:Int):Bool:=(US a&&US b)&&(decide (b≠0)||decide (a=0))
def Q0 (N:Nat) (a b:Int):IJ N a b=some (UC a b):=by
 simp only[IJ,Mw,uF,Fb,Ri,UC]
def Pk {a b:Int}(h:UC a b=true):JK a∧JK b:=by
 simp only[UC,uL] at h;exact⟨L5 h.1.1,L5 h.1.2⟩
def Qy (N:Nat) (n:Int) {L:Nat}(a:L<4611686018427387904):Gd N n (L:Int)=some (Zr n 0 ((L:Int)-1)):=by
 simp only[Gd,Ns,uF];rw[CT (by omega) (by omega)]
def VQ (L:Nat) (fr to:Int):Bool:=decide (to= -1)||(Zr to 0 ((L:Int)-1)&&decide (to≠fr))
def RX (N:Nat) (b:AF) (fr to:Int) (a:b.E.length<4611686018427387904):KC N b fr to=some (VQ b.E.length fr to):=by
 simp only[KC,Qy N _ a,uF,Fb,Lk,VQ]
def W7 {L:Nat}{fr to:Int}(h:VQ L fr to=true):to= -1∨(0≤to∧to<L):=by
 simp only[VQ,uZ,uL,uY] at h;rcases h with h|h
 ·exact .inl h
 ·have:=LW h.1;exact .inr ⟨this.1,by omega⟩
structure KE (b:AF):Prop where
 own:b.Aq.length≤16
 cells:0≤b.S∧b.S≤64
 pl:b.E.length≤64
 li:b.D.length≤96
 to:b.Ad.length≤40
 ga:b.Ab.length≤128
 ro:b.Ar.length≤128
 sh:b.At.length≤40
def Uz {s:ByteArray}{k:Nat}(h:k<s.size):∃z,Xs s (k:Int)=some z:=by
 unfold Xs;rw[uI (by omega)];simp only[xT];exact⟨_,by rw[getElem?_pos s k h];rfl⟩
def dZ {N:Nat}(q:1000<N) (b:AF):∃v,Jt N b=some v∧(v=true→KE b):=by
 unfold Jt;simp only[Ns,uF,Fb,Lk];generalize d:(_|| !Zr b.T 0 1099511627776)=B
 cases B
 ·simp only[vH,vC,xD] at d;obtain⟨⟨⟨⟨⟨⟨⟨⟨⟨⟨s,g⟩,i⟩,j⟩,t⟩,u⟩,w⟩,x⟩,y⟩,l⟩,m⟩:=d;have A:=LW g;have C:=LW i;have D:=LW j;have c:KE b:=⟨by omega,by omega,by omega,by omega,by omega,by omega,by omega,by omega⟩
  simp only[uH];have a:∃v,FD N b=some v:=by
   unfold FD;rcases Hg b.As.length (FB N b (Ha N)) (Ha N) (λ_=>True) (λn k h=>by
    simp only[FB];rw[ES h];rfl) (λn k h=>by
    simp only[FB];rw[Ei h,uG,A9 h];simp only[uF,Mw,BE (show k<4611686018427387904 by omega)];cases US b.As[k]
    ·exact .inl rfl
    ·exact .inr ⟨trivial,rfl⟩) N 0 (by omega) (uO _) with h|⟨_,h⟩
   ·exact⟨_,h⟩
   ·exact⟨true,h⟩
  rcases Hg b.M.size (FC N b (FD N b)) (FD N b) (λ_=>True) (λn k h=>by
    simp only[FC];rw[ES h];rfl) (λn k h=>by
    simp only[FC];obtain⟨z,o⟩:=Uz h;rw[Ei h,uG,o];simp only[uF,BE (show k<4611686018427387904 by omega)];cases (decide (z<32)||decide (126<z)||decide (z=34)||decide (z=92))
    ·exact .inr ⟨trivial,rfl⟩
    ·exact .inl rfl) N 0 (by omega) (uO _) with h|⟨_,h⟩
  ·exact⟨false,h,λh=>by cases h⟩
  ·obtain⟨v,p⟩:=a;exact⟨v,h.trans p,λ_=>c⟩
 ·exact⟨false,rfl,λh=>by cases h⟩
def Ym {N:Nat}(d:1000<N) (s:ByteArray):Df (Kr N s):=by
 unfold Kr;cases c:(decide ((s.size:Int)<1)||decide (24<(s.size:Int))||s==ByteArray.mk #[111,117,116])
 ·simp only[vH,vC] at c;obtain⟨z,a⟩:=Uz (s:=s) (k:=0) (by omega);have b:Xs s 0=some z:=a;simp only[uH,b,uF,Fb,Lk];refine Df.cond (λ_=>Df.mk _) λ_=>?_;rcases Hg s.size (G1 N s (Ij N)) (Ij N) (λ_=>True) (λn k h=>by
    simp only[G1];rw[ES h];rfl) (λn k h=>by
    simp only[G1];obtain⟨z,a⟩:=Uz h;rw[Ei h,uG,a];simp only[uF,BE (show k<4611686018427387904 by omega)];cases (((decide (z<97)||decide (122<z))&&(decide (z<48)||decide (57<z)))&&decide (z≠95))
    ·exact .inr ⟨trivial,rfl⟩
    ·exact .inl rfl) N 1 (by omega) (by omega) with h|⟨_,h⟩
  ·exact⟨_,h⟩
  ·exact⟨_,h⟩
 ·simp only[uG,uF];exact Df.mk _
def Zx {N:Nat}(d:1000<N) (m:List (AG×Bool)) (a b:ByteArray):Df (LD N m a b):=by
 have c:∀s,Df (JP N m b s):=λs=>by
  unfold JP;exact Df.bind (Ym d b) λ_ _=>Df.cond (λ_=>Df.mk _) λ_=>Df.mk _
 unfold LD;exact Df.cond (λ_=>c _) λ_=>c _
def M7 {N:Nat}(d:1000<N) (m:List (AG×Bool)) (c:Bool) (a b:ByteArray):∃v,Dc N m c a b=some v:=by
 unfold Dc;exact Df.bind (Zx d m a b) λ_ _=>Df.mk _
def Zf {N:Nat}(c:1000<N) {b:AF}(o:KE b):Df (KM N b):=by
 obtain⟨w,x,y,z,A,B,C,F⟩:=o;have d:∀{σ} (L:Nat) (f:Nat→Int→σ→Option Bool) (g:σ→Option Bool),L≤128→(∀n (k:Nat) s,L≤k→f (n+1) (k:Int) s=g s)→(∀n (k:Nat) s,k<L→∃s',f (n+1) (k:Int) s=f n ((k+1:Nat):Int) s')→(∀s,Df (g s))→∀s,Df (f N 0 s):=λL f g G i p j s=>by
  obtain⟨s',_,e⟩:=XY L f g (λ_=>True) i (λn k s _ h=>by obtain⟨s',h'⟩:=p n k s h;exact⟨s',trivial,h'⟩) N 0 s trivial (by omega) (uO _);obtain⟨v,a⟩:=j s';exact⟨v,e.trans a⟩
 have l:∀s:Bool×List (AG×Bool),Df (D0 N b (FU N) N 0 s.1 s.2):=d (σ:=Bool×List (AG×Bool)) b.Ar.length (λn k s=>D0 N b (FU N) n k s.1 s.2) (λs=>FU N s.1) (by omega) (λn k s h=>by simp only[D0];rw[ES h];rfl)
  (λn k s h=>by
   simp only[D0];rw[Ei h,uG,A9 h];simp only[uF];obtain⟨v,a⟩:=M7 c s.2 s.1 (ByteArray.mk #[114,111,97,100]) (b.Ar[k]).M;rw[a];simp only[uF,BE (show k<4611686018427387904 by omega)];exact⟨(v.2,v.1),rfl⟩) (λs=>Df.mk _)
 have m:∀s:Bool×List (AG×Bool),Df (D1 N b (FV N b) N 0 s.1 s.2):=d (σ:=Bool×List (AG×Bool)) b.Ab.length (λn k s=>D1 N b (FV N b) n k s.1 s.2) (λs=>FV N b s.1 s.2) (by omega) (λn k s h=>by simp only[D1];rw[ES h];rfl)
  (λn k s h=>by
   simp only[D1];rw[Ei h,uG,A9 h];simp only[uF];obtain⟨v,a⟩:=M7 c s.2 s.1 (ByteArray.mk #[103,97,117,103,101]) (b.Ab[k]).M;rw[a];simp only[uF,BE (show k<4611686018427387904 by omega)];exact⟨(v.2,v.1),rfl⟩) (λs=>l s)
 have q:∀s:Bool×List (AG×Bool),Df (EE N b (Fp N b) N 0 s.1 s.2):=d (σ:=Bool×List (AG×Bool)) b.At.length (λn k s=>EE N b (Fp N b) n k s.1 s.2) (λs=>Fp N b s.1 s.2) (by omega) (λn k s h=>by simp only[EE];rw[ES h];rfl)
  (λn k s h=>by
   simp only[EE];rw[Ei h,uG,A9 h];simp only[uF];obtain⟨v,a⟩:=M7 c s.2 s.1 (ByteArray.mk #[115,104,101,108,116,101,114]) (b.At[k]).M;rw[a];simp only[uF,BE (show k<4611686018427387904 by omega)];exact⟨(v.2,v.1),rfl⟩) (λs=>m s)
 have t:∀s:Bool×List (AG×Bool),Df (EF N b (Fq N b) N 0 s.1 s.2):=d (σ:=Bool×List (AG×Bool)) b.Ad.length (λn k s=>EF N b (Fq N b) n k s.1 s.2) (λs=>Fq N b s.1 s.2) (by omega) (λn k s h=>by simp only[EF];rw[ES h];rfl)
  (λn k s h=>by
   simp only[EF];rw[Ei h,uG,A9 h];simp only[uF];obtain⟨v,a⟩:=M7 c s.2 s.1 (ByteArray.mk #[116,111,119,110]) (b.Ad[k]).M;rw[a];simp only[uF,BE (show k<4611686018427387904 by omega)];exact⟨(v.2,v.1),rfl⟩) (λs=>q s)
 have u:∀s:Bool×List (AG×Bool),Df (EG N b (Fs N b) N 0 s.1 s.2):=d (σ:=Bool×List (AG×Bool)) b.D.length (λn k s=>EG N b (Fs N b) n k s.1 s.2) (λs=>Fs N b s.1 s.2) (by omega) (λn k s h=>by simp only[EG];rw[ES h];rfl)
  (λn k s h=>by
   simp only[EG];rw[Ei h,uG,A9 h];simp only[uF];obtain⟨v,a⟩:=M7 c s.2 s.1 (ByteArray.mk #[108,105,110,107]) (b.D[k]).M;rw[a];simp only[uF,BE (show k<4611686018427387904 by omega)];exact⟨(v.2,v.1),rfl⟩) (λs=>t s)
 have j:∀s:Bool×List (AG×Bool),Df (EH N b (Ft N b) N 0 s.1 s.2):=d (σ:=Bool×List (AG×Bool)) b.E.length (λn k s=>EH N b (Ft N b) n k s.1 s.2) (λs=>Ft N b s.1 s.2) (by omega) (λn k s h=>by simp only[EH];rw[ES h];rfl)
  (λn k s h=>by
   simp only[EH];rw[Ei h,uG,A9 h];simp only[uF];obtain⟨v,a⟩:=M7 c s.2 s.1 (ByteArray.mk #[112,108,97,99,101]) (b.E[k]).M;rw[a];simp only[uF,BE (show k<4611686018427387904 by omega)];exact⟨(v.2,v.1),rfl⟩) (λs=>u s)
 have i:∀s:Bool×List (AG×Bool),Df (EI N b (Fu N b) N 0 s.1 s.2):=d (σ:=Bool×List (AG×Bool)) b.Aq.length (λn k s=>EI N b (Fu N b) n k s.1 s.2) (λs=>Fu N b s.1 s.2) (by omega) (λn k s h=>by simp only[EI];rw[ES h];rfl)
  (λn k s h=>by
   simp only[EI];rw[Ei h,uG,A9 h];simp only[uF];obtain⟨v,a⟩:=M7 c s.2 s.1 (ByteArray.mk #[111,119,110,101,114]) (b.Aq[k]);rw[a];simp only[uF,BE (show k<4611686018427387904 by omega)];exact⟨(v.2,v.1),rfl⟩) (λs=>j s)
 exact i (true,[])
structure Lq (b:AF) (p:EU):Prop where
 lev:Cp p.Ba
 num:JK p.V
 den:JK p.Q
 down:p.Ap= -1∨(0≤p.Ap∧p.Ap<b.E.length)
 cap:JK p.Ai
 delay:0≤p.X∧p.X≤240
def VV {N:Nat}(p:EU) (a:Int→Option Bool) (c:p.Bi.length≤16):∀(n:Nat) (s:Int) (k:Nat),p.Bi.length<n+k→k≤p.Bi.length→Dz N p a n s (k:Int)=some false∨∃s',Dz N p a n s (k:Int)=a s'
 |0,s,k,h,d=>by omega
 |n+1,s,k,h,d=>by
  simp only[Dz];rcases vG k p.Bi.length with b|b
  ·rw[Ei b,uG,A9 b];simp only[uF,Mw,BE (show k<4611686018427387904 by omega)];cases US p.Bi[k]
   ·exact .inl rfl
   ·exact VV (N:=N) p a c n _ (k+1) (by omega) (by omega)
  ·rw[ES b];exact .inr ⟨s,rfl⟩
def XM {N:Nat}(b:AF) (p:EU) (a:Int) (c:Int→Option Bool) (i:0≤b.S∧b.S≤64):∀(n:Nat) (s:Int) (k:Nat), -1≤s→s≤64→65<n+s→k<100→(k:Int)≤s+1→Dy N b p a c n s (k:Int)=some false∨Dy N b p a c n s (k:Int)=c a
 |0,s,k,j,l,m,o,q=>by omega
 |n+1,s,k,j,l,m,o,q=>by
  simp only[Dy];rcases vG k p.Am.length with d|d
  ·rw[Ei d,uG,A9 d];simp only[uF,Mw,Fb,Lk,BE (show k<4611686018427387904 by omega)];cases g:(decide ((p.Am[k]).Bn≤s)||decide (b.S≤(p.Am[k]).Bn)|| !US (p.Am[k]).Bu)
   ·simp only[vH,vC] at g;obtain⟨⟨t,u⟩,v⟩:=g;exact XM (N:=N) b p a c i n _ (k+1) (by omega) (by omega) (by omega) (by omega) (by omega)
   ·exact .inl rfl
  ·rw[ES d];exact .inr rfl
def T6 {N:Nat}(o:1000<N) (b:AF) (a:KE b):∀(n:Nat) (s:Int) (k:Nat),b.E.length<n+k→k≤b.E.length→∃v,CJ N b (Cg N) n s (k:Int)=some v∧(v=true→∀(i:Nat) p,k≤i→b.E[i]? =some p→Lq b p)
 |0,s,k,h,q=>by omega
 |n+1,s,k,h,q=>by
  have K:=a.pl;simp only[CJ];rcases vG k b.E.length with c|c
  ·rw[Ei c,uG,A9 c];obtain⟨M,g,j⟩:=KH (N:=N) (by omega) (b.E[k]).Ba;simp only[uF,Ns,Mw,Q0,g,RX N b _ _ (show b.E.length<4611686018427387904 by omega),Fb,Lk];generalize l:(_|| !VQ b.E.length (k:Int) (b.E[k]).Ap)=B
   cases B
   ·simp only[vH,vC,xD] at l;obtain⟨⟨⟨⟨⟨⟨⟨⟨Q,U⟩,t⟩,u⟩,V⟩,w⟩,x⟩,m⟩,y⟩:=l;have z:(b.E[k]).Bi.length=b.Aq.length:=by
     have:((b.E[k]).Bi.length:Int)=(b.Aq.length:Int):=by simpa using x
     omega
    have A:Lq b b.E[k]:=⟨j w,(Pk m).1,(Pk m).2,W7 y,L5 u,LW t⟩
    simp only[uH];rcases VV (N:=N) b.E[k] (FT N b b.E[k] (DF N (k:Int) (CJ N b (Cg N) n))) (by have:=a.own;omega) N s 0 (by have:=a.own;omega) (uO _) with e|⟨s',e⟩
    ·exact⟨false,e,λh=>by cases h⟩
    ·have C:Dz N b.E[k] (FT N b b.E[k] (DF N (k:Int) (CJ N b (Cg N) n))) N s 0=_:=e;rw[C];unfold FT;rcases XM (N:=N) b b.E[k] s' (DF N (k:Int) (CJ N b (Cg N) n)) a.cells N (-1) 0 (by omega) (by omega) (by omega) (by omega) (by omega) with e|e
     ·exact⟨false,e,λh=>by cases h⟩
     ·have D:Dy N b b.E[k] s' (DF N (k:Int) (CJ N b (Cg N) n)) N (-1) 0=_:=e;rw[D];unfold DF;rw[BE (show k<4611686018427387904 by omega)];obtain⟨v,F,G⟩:=T6 o b a n s' (k+1) (by omega) (by omega);refine⟨v,F,λH i p I d=>?_⟩;by_cases J:i=k
      ·subst J;have:p=b.E[i]:=by simpa [c] using d.symm
       rw[this];exact A
      ·exact G H i p (by omega) d
   ·exact⟨false,rfl,λh=>by cases h⟩
  ·rw[ES c];refine⟨_,rfl,λ_ i p I d=>?_⟩;have:=(uV.1 d).1;omega
def Ya {N:Nat}(c:1000<N) (b:AF) (a:KE b):∃v,J1 N b=some v∧(v=true→∀p∈b.E,Lq b p):=by
 obtain⟨v,d,g⟩:=T6 c b a N 0 0 (by have:=a.pl;omega) (uO _);refine⟨v,d,λj p k=>?_⟩;obtain⟨i,l,rfl⟩:=xF.1 k;exact g j i _ (uO _) (by simp [l])
structure K7 (b:AF) (l:AO):Prop where
 kind:0≤l.F∧l.F≤5
 fr:0≤l.P∧l.P<b.E.length
 to:l.C= -1∨(0≤l.C∧l.C<b.E.length)
 delay:0≤l.X∧l.X≤240
 gate:l.F=0→Cp l.Av∧Cp l.Ac.B∧Cp l.Ac.A∧JK l.Ak∧JK l.Af
 part:l.F=1∨l.F=5∨l.F=3→JK l.V∧1≤l.Q∧l.Q≤1125899906842624
 seep:l.F=4→JK l.V∧1≤l.Q∧l.Q≤1125899906842624∧JK l.Ak∧JK l.Af∧l.C≠ -1
def ZF {N:Nat}(d:18446744073709551616<N) (a b:List AV) (g:1≤a.length) (c:a.length≤32) (i:b.length≤32):Df (Dg N a b):=by
 unfold Dg;rcases Hg b.length (EW N a b (Gj N)) (Gj N) (λ_=>True) (λn k h=>by
  simp only[EW];rw[ES h];rfl) (λn k h=>by
  simp only[EW];obtain⟨v,j⟩:=VP d g c (b[k]).H;rw[Ei h,uG,A9 h];simp only[uF,j,BE (show k<4611686018427387904 by omega)];cases (decide ((b[k]).L<v.1)||decide (v.1=(b[k]).L)&&v.2)
  ·exact .inr ⟨trivial,rfl⟩
  ·exact .inl rfl) N 0 (by omega) (uO _) with h|⟨_,h⟩
 ·exact⟨_,h⟩
 ·exact⟨true,h⟩
def Ql {N:Nat}(d:18446744073709551616<N) (a b:List AV):Df (Fe N a b):=by
 unfold Fe;obtain⟨s,i,j⟩:=KH (N:=N) (by omega) a;obtain⟨t,l,m⟩:=KH (N:=N) (by omega) b;simp only[i,l,uF,Fb,Lk];refine Df.cond (λ_=>Df.mk _) λh=>?_;simp only[vH,xD] at h;obtain⟨o,p,_⟩:=j h.1;obtain⟨q,g,_⟩:=m h.2;rcases Hg a.length (D8 N a b (Dg N a b)) (Dg N a b) (λ_=>True) (λn k h=>by
  simp only[D8];rw[ES h];rfl) (λn k h=>by
  simp only[D8];obtain⟨v,c⟩:=VP d q g (a[k]).H;rw[Ei h,uG,A9 h];simp only[uF,c,BE (show k<4611686018427387904 by omega)];cases decide (v.1<(a[k]).L)
  ·exact .inr ⟨trivial,rfl⟩
  ·exact .inl rfl) N 0 (by omega) (uO _) with h|⟨_,h⟩
 ·exact⟨_,h⟩
 ·obtain⟨v,c⟩:=ZF d a b o p g;exact⟨v,h.trans c⟩
def UF {N:Nat}(m:18446744073709551616<N) (l:AO):∃v,Gy N l=some v∧(v=true→
  (l.F=0→Cp l.Av∧Cp l.Ac.B∧Cp l.Ac.A∧JK l.Ak∧JK l.Af)∧(l.F=1∨l.F=5∨l.F=3→JK l.V∧1≤l.Q∧l.Q≤1125899906842624)∧
  (¬(l.F=0∨l.F=1∨l.F=5∨l.F=2∨l.F=3)→JK l.V∧1≤l.Q∧l.Q≤1125899906842624∧JK l.Ak∧JK l.Af∧l.C≠ -1)):=by
 obtain⟨H,q,s⟩:=KH (N:=N) (by omega) l.Av;obtain⟨I,t,u⟩:=KH (N:=N) (by omega) l.Ac.B;obtain⟨J,w,x⟩:=KH (N:=N) (by omega) l.Ac.A;obtain⟨K,y⟩:=Ql m l.Ac.B l.Av;obtain⟨M,z⟩:=Ql m l.Av l.Ac.A;unfold Gy;by_cases k0:l.F=0
 ·rw[show decide (l.F=0)=true by simp [k0],uG];simp only[q,t,w,y,z,Ns,Mw,Q0,uF,Fb,Ri];refine⟨_,rfl,λh=>?_⟩;simp only[uL] at h;obtain⟨⟨⟨⟨⟨⟨⟨⟨⟨d,a⟩,b⟩,i⟩,D⟩,U⟩,W⟩,X⟩,n⟩,G⟩:=h;exact⟨λ_=>⟨s d,u a,x b,(Pk n).1,(Pk n).2⟩,λh=>by omega,λh=>absurd (.inl k0) h⟩
 ·rw[show decide (l.F=0)=false by simp [k0],uH];have o:∀c:Bool,(c=true↔l.F=1∨l.F=5)→∃v,Eh N l c=some v∧(v=true→
    (l.F=0→Cp l.Av∧Cp l.Ac.B∧Cp l.Ac.A∧JK l.Ak∧JK l.Af)∧(l.F=1∨l.F=5∨l.F=3→JK l.V∧1≤l.Q∧l.Q≤1125899906842624)∧
    (¬(l.F=0∨l.F=1∨l.F=5∨l.F=2∨l.F=3)→JK l.V∧1≤l.Q∧l.Q≤1125899906842624∧JK l.Ak∧JK l.Af∧l.C≠ -1)):=λc p=>by
   unfold Eh;simp only[Ns,Mw,Q0,uF,Fb,Ri];cases c
   ·have Y:¬(l.F=1∨l.F=5):=λh=>by have:=p.2 h;cases this
    rw[uH];by_cases j:l.F=2
    ·rw[show decide (l.F=2)=true by simp [j],uG];exact⟨_,rfl,λ_=>⟨λh=>absurd h k0,λh=>by omega,λh=>absurd (.inr (.inr (.inr (.inl j)))) h⟩⟩
    ·rw[show decide (l.F=2)=false by simp [j],uH];by_cases k:l.F=3
     ·rw[show decide (l.F=3)=true by simp [k],uG];refine⟨_,rfl,λh=>?_⟩;simp only[uL] at h;obtain⟨⟨⟨⟨d,a⟩,b⟩,i⟩,D⟩:=h;exact⟨λh=>absurd h k0,λ_=>⟨L5 d,LW a⟩,λh=>absurd (.inr (.inr (.inr (.inr k)))) h⟩
     ·rw[show decide (l.F=3)=false by simp [k],uH];refine⟨_,rfl,λh=>?_⟩;simp only[uL,uY] at h;obtain⟨⟨⟨d,a⟩,b⟩,i⟩:=h;exact⟨λh=>absurd h k0,λh=>by omega,λ_=>⟨L5 d,(LW a).1,(LW a).2,(Pk b).1,(Pk b).2,i⟩⟩
   ·have Z:=p.1 rfl;rw[uG];refine⟨_,rfl,λh=>?_⟩;simp only[uL] at h;obtain⟨⟨d,a⟩,b⟩:=h;exact⟨λh=>absurd h k0,λ_=>⟨L5 a,LW b⟩,λh=>by omega⟩
  by_cases g:l.F=1
  ·rw[show decide (l.F=1)=true by simp [g],uG];exact o true (by simp [g])
  ·rw[show decide (l.F=1)=false by simp [g],uH];exact o _ (by simp [g])
def Tx (N:Nat) (l:AO):Df (Gx N l):=by
 unfold Gx;exact Df.cond (λ_=>Df.mk _) λ_=>Df.cond (λ_=>Df.mk _) λ_=>Df.cond (λ_=>Df.mk _) λ_=>Df.cond (λ_=>Df.mk _) λ_=>Df.cond (λ_=>Df.mk _) λ_=>Df.mk _
def Zl {N:Nat}(m:18446744073709551616<N) (b:AF) (c:KE b):∃v,GP N b=some v∧(v=true→∀l∈b.D,K7 b l):=by
 have G:=c.pl;have H:=c.li;unfold GP;rcases Hg b.D.length (DA N b (EJ N)) (EJ N) (λi=>∀l,b.D[i]? =some l→K7 b l) (λn k h=>by
  simp only[DA];rw[ES h];rfl) (λn k h=>by
  simp only[DA];obtain⟨I,o,p⟩:=UF m b.D[k];obtain⟨q,s⟩:=Tx N b.D[k];rw[Ei h,uG,A9 h];simp only[uF,Ns,Qy N _ (show b.E.length<4611686018427387904 by omega),RX N b _ _ (show b.E.length<4611686018427387904 by omega),o,s,Fb,Lk,BE (show k<4611686018427387904 by omega)];generalize d:(_|| !q)=B
  cases B
  ·simp only[vH,xD] at d;obtain⟨⟨⟨⟨⟨t,u⟩,w⟩,g⟩,x⟩,J⟩:=d;have y:=LW t;have z:=LW u;obtain⟨A,C,F⟩:=p x;refine .inr ⟨λl a=>?_,rfl⟩;have:l=b.D[k]:=by simpa [h] using a.symm
   rw[this];exact⟨y,⟨z.1,by omega⟩,W7 w,LW g,A,C,λg=>F (by omega)⟩
  ·exact .inl rfl) N 0 (by omega) (uO _) with h|⟨hp,h⟩
 ·exact⟨false,h,λh=>by cases h⟩
 ·refine⟨true,h,λ_ l a=>?_⟩;obtain⟨i,j,rfl⟩:=xF.1 a;exact hp i (uO _) j _ (by simp [j])
def XW (N:Nat) (b:AF) (o to:Int) (h:to= -1∨(0≤to∧to<b.E.length)):Df (K1 N b o to):=by
 unfold K1;refine Df.cond (λ_=>Df.mk _) λa=>?_;simp only[vC] at a;exact Df.bind (Df.ix (by omega) (by omega)) λ_ _=>Df.mk _
def Wc {N:Nat}(w:1000<N) (b:AF) (m:KE b) (o:∀p∈b.E,Lq b p) (q:∀l∈b.D,K7 b l):Df (Ia N b):=by
 have y:=m.pl;have A:=m.li;have s:Df (EN N b):=by
  unfold EN;rcases Hg b.D.length (EL N b (GH N)) (GH N) (λ_=>True) (λn k h=>by
   simp only[EL];rw[ES h];rfl) (λn k h=>by
   simp only[EL];have a:=q b.D[k] (vA h);obtain⟨x,t⟩:=Df.ix (l:=b.E) a.fr.1 a.fr.2;obtain⟨v,c⟩:=XW N b x.Aw (b.D[k]).C a.to;rw[Ei h,uG,A9 h];simp only[uF,t,c,BE (show k<4611686018427387904 by omega)];have i:∃z,(cond (!v) (some true) ((cond (decide ((b.D[k]).F=4)) ((ix b.E (b.D[k]).C).bind λd=>some (decide (d.Aw≠x.Aw))) (some false)).bind λg=>some g))=some z:=by
    refine Df.cond (λ_=>Df.mk _) λ_=>Df.bind (Df.cond (λu=>?_) λ_=>Df.mk _) λ_ _=>Df.mk _;have j:(b.D[k]).F=4:=by simpa using u
    have:=(a.seep j).2.2.2.2.2;have:=a.to;exact Df.bind (Df.ix (by omega) (by omega)) λ_ _=>Df.mk _
   obtain⟨z,i⟩:=i;rw[i];simp only[uF];cases z
   ·exact .inr ⟨trivial,rfl⟩
   ·exact .inl rfl) N 0 (by omega) (uO _) with h|⟨_,h⟩
  ·exact⟨_,h⟩
  ·exact⟨true,h⟩
 unfold Ia;rcases Hg b.E.length (EM N b (EN N b)) (EN N b) (λ_=>True) (λn k h=>by
   simp only[EM];rw[ES h];rfl) (λn k h=>by
   simp only[EM];have a:=o b.E[k] (vA h);obtain⟨v,c⟩:=XW N b (b.E[k]).Aw (b.E[k]).Ap a.down;rw[Ei h,uG,A9 h];simp only[uF,c,BE (show k<4611686018427387904 by omega)];cases v
   ·exact .inl rfl
   ·exact .inr ⟨trivial,rfl⟩) N 0 (by omega) (uO _) with h|⟨_,h⟩
 ·exact⟨_,h⟩
 ·obtain⟨v,c⟩:=s;exact⟨v,h.trans c⟩
def VU {N:Nat}(g:18446744073709551616<N) (c:List AV) (i:Cp c) (b:Int→Option Int):∀(n:Nat) (s:Int) (k:Nat),c.length<n+k→1≤k→k≤c.length→∃s',Cm N c b n s (k:Int)=b s'
 |0,s,k,h,j,l=>by omega
 |n+1,s,k,h,j,l=>by
  obtain⟨m,o,d⟩:=i;simp only[Cm];rcases vG k c.length with a|a
  ·have p:BR ((k:Int)-1)=((k-1:Nat):Int):=by rw[CT (by omega) (by omega)];omega
   rw[Ei a,uG,p,A9 a,A9 (show k-1<c.length by omega)];simp only[uF,BE (show k<4611686018427387904 by omega)];obtain⟨q,t,u⟩:=d k c[k] (by simp [a]);obtain⟨w,x,_⟩:=d (k-1) c[k-1] (by simp [show k-1<c.length by omega]);obtain⟨z,A⟩:=u c[k-1] (by omega) (by simp [show k-1<c.length by omega]);unfold JK at q t w x;obtain⟨v,y⟩:=Nn g (num:=BR ((c[k]).L-(c[k-1]).L)) (den:=BR ((c[k]).H-(c[k-1]).H)) (by rw[CT (by omega) (by omega)];omega) (by rw[CT (by omega) (by omega)];omega) (by rw[CT (by omega) (by omega)];omega);rw[y];exact VU g c ⟨m,o,d⟩ b n _ (k+1) (by omega) (by omega) (by omega)
  ·rw[ES a];exact⟨s,rfl⟩
def ZM {N:Nat}(d:18446744073709551616<N) (cs:List (List AV)) (m:cs.length≤3) (g:∀c∈cs,Cp c):Df (Gp N cs):=by
 unfold Gp;have:∀(n:Nat) (s:Int) (k:Nat),cs.length<n+k→k≤cs.length→Df (CM N cs (Cn N) n s (k:Int)):=by
  intro n
  induction n with
  |zero=>intro s k h i;omega
  |succ n j=>
   intro s k h i;simp only[CM];rcases vG k cs.length with a|a
   ·rw[Ei a,uG,A9 a];simp only[uF];have b:=g cs[k] (vA a);obtain⟨s',e⟩:=VU d cs[k] b (DJ N (k:Int) (CM N cs (Cn N) n)) N s 1 (by have:=b.2.1;omega) (by omega) b.1;have l:Cm N cs[k] (DJ N (k:Int) (CM N cs (Cn N) n)) N s 1=_:=e;rw[l];unfold DJ;rw[BE (show k<4611686018427387904 by omega)];exact j s' (k+1) (by omega) (by omega)
   ·rw[ES a];exact Df.mk _
 exact this N 0 0 (by omega) (uO _)
def MB {α}(l:List α) (i:Int) (x:α):(upd l i x).length=l.length:=by simp [upd]
def oA {N:Nat}(a:1000<N) (l:List Int) (b:l.length≤64):Df (CI N l):=by
 unfold CI;rcases Hg l.length (Ct N l (Dx N)) (Dx N) (λ_=>True) (λn k h=>by
  simp only[Ct];rw[ES h];rfl) (λn k h=>by
  simp only[Ct];rw[Ei h,uG,A9 h];simp only[uF,BE (show k<4611686018427387904 by omega)];cases decide (1099511627776<l[k])
  ·exact .inr ⟨trivial,rfl⟩
  ·exact .inl rfl) N 0 (by omega) (uO _) with h|⟨_,h⟩
 ·exact⟨_,h⟩
 ·exact⟨true,h⟩
def fV {N:Nat}(p:18446744073709551616<N) (b:AF) (u:KE b) (K:∀l∈b.D,K7 b l) (g:List Int→Option Bool):∀(n:Nat) (k:Nat) (s:List Int),s.length=b.E.length→b.D.length<n+k→k≤b.D.length→∃s',s'.length=b.E.length∧BP N b g n (k:Int) s=g s'
 |0,k,s,a,h,W=>by omega
 |n+1,k,s,a,h,W=>by
  have q3:=u.pl;have q4:=u.li;simp only[BP];rcases vG k b.D.length with j|j
  ·rw[Ei j,uG,A9 j];simp only[uF];have d:=K b.D[k] (vA j);generalize b.D[k]=l at d
   have q:∀s:List Int,s.length=b.E.length→∃s',s'.length=b.E.length∧CH N (k:Int) (BP N b g n) s=g s':=λs a=>by
    unfold CH;rw[BE (show k<4611686018427387904 by omega)];exact fV p b u K g n (k+1) s a (by omega) (by omega)
   obtain⟨x,w⟩:=Df.ix (l:=s) d.fr.1 (by rw[a];exact d.fr.2);have y:∀c:Bool,(c=true→l.F=1∨l.F=5∨l.F=3)→∃s',s'.length=b.E.length∧DX N s l (CH N (k:Int) (BP N b g n)) c=g s':=λc j=>by
    unfold DX;cases c
    ·rw[uH];by_cases z:l.F=4
     ·rw[show decide (l.F=4)=true by simp [z],uG];obtain⟨G,X,Y,Z,M,h6⟩:=d.seep z;obtain⟨v,t⟩:=Nn p G.1 (show 0≤l.Q by omega) (by omega);obtain⟨v2,m⟩:=Nn p Z.1 M.1 (show l.Af≤_ by have:=M.2;omega);have H:=d.to;obtain⟨x2,o⟩:=Df.ix (l:=upd s l.P (BR (x+BR (2*v)))) (i:=l.C) (by omega) (by rw[MB,a];omega);simp only[w,t,o,m,uF];exact q _ (by rw[MB,MB,a])
     ·rw[show decide (l.F=4)=false by simp [z],uH];exact q s a
    ·rw[uG];obtain⟨G,X,Y⟩:=d.part (j rfl);obtain⟨v,t⟩:=Nn p G.1 (show 0≤l.Q by omega) (by omega);simp only[w,t,uF];exact q _ (by rw[MB,a])
   by_cases k0:l.F=0
   ·rw[show decide (l.F=0)=true by simp [k0],uG];obtain⟨c1,c2,c3,c4,U⟩:=d.gate k0;obtain⟨v,t⟩:=ZM p [l.Av,l.Ac.B,l.Ac.A] (by simp) (by simp [c1,c2,c3]);simp only[w,t,uF];by_cases V:l.C= -1
    ·rw[show decide (l.C≠ -1)=false by simp [V],uH];exact q _ (by rw[MB,a])
    ·rw[show decide (l.C≠ -1)=true by simp [V],uG];have H:=d.to;obtain⟨x2,o⟩:=Df.ix (l:=upd s l.P (BR (x+v))) (i:=l.C) (by omega) (by rw[MB,a];omega);obtain⟨v2,m⟩:=Nn p c4.1 U.1 (show l.Af≤_ by have:=U.2;omega);simp only[o,m,uF];exact q _ (by rw[MB,MB,a])
   ·rw[show decide (l.F=0)=false by simp [k0],uH];by_cases I:l.F=1
    ·rw[show decide (l.F=1)=true by simp [I],uG];exact y true λ_=> .inl I
    ·rw[show decide (l.F=1)=false by simp [I],uH];by_cases J:l.F=5
     ·rw[show decide (l.F=5)=true by simp [J],uG];exact y true λ_=> .inr (.inl J)
     ·rw[show decide (l.F=5)=false by simp [J],uH];exact y _ λh=> .inr (.inr (by simpa using h))
  ·rw[ES j];exact⟨s,a,rfl⟩
def YU {N:Nat}(m:18446744073709551616<N) (b:AF) (c:KE b) (q:∀p∈b.E,Lq b p) (t:∀l∈b.D,K7 b l):Df (Fl N b):=by
 have F:=c.pl;have G:=c.li;unfold Fl;rw[show Mn (b.E.length:Int) (b.E.length:Int) 8=true by simp [Mn];omega];simp only[chk,uG];have u:∀(n:Nat) (k:Nat) (s:List Int),s.length=b.E.length→b.E.length<n+k→k≤b.E.length→∃s',s'.length=b.E.length∧Cu N b (Cf N b) n (k:Int) s=Cf N b s':=by
  intro n
  induction n with
  |zero=>intro k s d h w;omega
  |succ n x=>
   intro k s d h w;simp only[Cu];rcases vG k b.E.length with a|a
   ·have g:=q b.E[k] (vA a);obtain⟨v,y⟩:=Nn m g.num.1 g.den.1 (by have:=g.den.2;omega);rw[Ei a,uG,A9 a,A9 (show k<s.length by omega)];simp only[uF,y,BE (show k<4611686018427387904 by omega)];exact x (k+1) _ (by rw[MB,d]) (by omega) (by omega)
   ·rw[ES a];exact⟨s,d,rfl⟩
 obtain⟨o,z,A⟩:=u N 0 (List.replicate ((b.E.length:Int):Int).toNat 0) (by simp) (by omega) (uO _);have i:Cu N b (Cf N b) N 0 (List.replicate ((b.E.length:Int):Int).toNat 0)=_:=A;rw[i];unfold Cf;obtain⟨B,H,C⟩:=fV m b c t (CI N) N 0 o z (by omega) (uO _);have j:BP N b (CI N) N 0 o=_:=C;rw[j];exact oA (by omega) B (by omega)
end Go.Proofs.YtibidnaedddfdaaGreat
