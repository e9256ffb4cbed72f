import Derived.Test.YtibidnaedddfdaaGreatDPureDiv
namespace Go.Proofs.YtibidnaedddfdaaGreat
set_option linter.all false
open Go.RowKit
def JE (b x:Bool):cond b true x=(b||x):=by cases b<;>rfl
def OG (b x:Bool):cond b x false=(b&&x):=by cases b<;>rfl
def BV {k:Nat}(h:k<4611686018427387904):B8 ((k:Int)+1)=((k+1:Nat):Int):=by rw[DE (by omega) (by omega)];rfl
def FX {k L:Nat}(h:k<L):decide ((k:Int)<(L:Int))=true:=by simp;omega
def FY {k L:Nat}(h:L≤k):decide ((k:Int)<(L:Int))=false:=by simp;omega
def Fl (L:Nat) (f:Nat→Int→Option Bool) (d:Option Bool) (P:Nat→Prop) (a:∀n (k:Nat),L≤k→f (n+1) (k:Int)=d) (b:∀n (k:Nat),k<L→f (n+1) (k:Int)=some false∨(P k∧f (n+1) (k:Int)=f n ((k+1:Nat):Int))):
  ∀n (k:Nat),L<n+k→k≤L→f n (k:Int)=some false∨((∀i,k≤i→i<L→P i)∧f n (k:Int)=d)
 |0,k,h,m=>by omega
 |n+1,k,h,m=>by
  rcases jN k L with g|g
  ·rcases b n k g with j|⟨j,h2⟩
   ·exact .inl j
   ·rcases Fl L f d P a b n (k+1) (by omega) (by omega) with l|⟨l,h4⟩
    ·exact .inl (h2.trans l)
    ·refine .inr ⟨λi o c=>?_,h2.trans h4⟩
     by_cases e:i=k
     ·subst e;exact j
     ·exact l i (by omega) c
  ·exact .inr ⟨λi o c=>by omega,a n k g⟩
def T3 {σ t:Type}(L:Nat) (f:Nat→Int→σ→Option t) (c:σ→Option t) (I:σ→Prop) (a:∀n (k:Nat) s,L≤k→f (n+1) (k:Int) s=c s) (b:∀n (k:Nat) s,I s→k<L→∃s',I s'∧f (n+1) (k:Int) s=f n ((k+1:Nat):Int) s'):
  ∀n (k:Nat) s,I s→L<n+k→k≤L→∃s',I s'∧f n (k:Int) s=c s'
 |0,k,s,_,h,i=>by omega
 |n+1,k,s,g,h,i=>by
  rcases jN k L with d|d
  ·obtain⟨j,l,m⟩:=b n k s g d
   obtain⟨o,p,q⟩:=T3 L f c I a b n (k+1) j l (by omega) (by omega)
   exact⟨o,p,m.trans q⟩
  ·exact⟨s,g,a n k s d⟩
def Qm (n:Int):Bool:=decide (0≤n)&&decide (n≤1125899906842624)
def I5 {n:Int}(h:Qm n=true):Gh n:=by simpa [Qm,Gh] using h
def Jv (N:Nat) (n:Int):CT N n=some (Qm n):=rfl
def V3 (n a b:Int):Bool:=decide (a≤n)&&decide (n≤b)
def Kk (N:Nat) (n a b:Int):Cc N n a b=some (V3 n a b):=rfl
def Ij {n a b:Int}(h:V3 n a b=true):a≤n∧n≤b:=by simpa [V3] using h
def QT (a b:Int):Bool:=(Qm a&&Qm b)&&(decide (b≠0)||decide (a=0))
def Ng (N:Nat) (a b:Int):Fv N a b=some (QT a b):=by
 simp only[Fv,Jv,iM,E7,OG,QT]
def MR {a b:Int}(h:QT a b=true):Gh a∧Gh b:=by
 simp only[QT,iQ] at h
 exact⟨I5 h.1.1,I5 h.1.2⟩
def Nf (N:Nat) (n:Int) {L:Nat}(a:L<4611686018427387904):Ej N n (L:Int)=some (V3 n 0 ((L:Int)-1)):=by
 simp only[Ej,Kk,iM]
 rw[DE (by omega) (by omega)]
def Rp (L:Nat) (fr to:Int):Bool:=decide (to= -1)||(V3 to 0 ((L:Int)-1)&&decide (to≠fr))
def N8 (N:Nat) (b:AU) (fr to:Int) (a:b.D.length<4611686018427387904):HS N b fr to=some (Rp b.D.length fr to):=by
 simp only[HS,Nf N _ a,iM,E7,JE,Rp]
def Tm {L:Nat}{fr to:Int}(h:Rp L fr to=true):to= -1∨(0≤to∧to<L):=by
 simp only[Rp,jC,iQ,jG] at h
 rcases h with h|h
 ·exact .inl h
 ·have:=Ij h.1;exact .inr ⟨this.1,by omega⟩
structure HX (b:AU):Prop where
 own:b.Ar.length≤16
 cells:0≤b.W∧b.W≤64
 pl:b.D.length≤64
 li:b.F.length≤96
 to:b.Ac.length≤40
 ga:b.Am.length≤128
 ro:b.An.length≤128
 sh:b.Aq.length≤40
def RM {s:ByteArray}{k:Nat}(h:k<s.size):∃z,UQ s (k:Int)=some z:=by
 unfold UQ
 rw[iP (by omega)]
 simp only[Int.toNat_natCast]
 exact⟨_,by rw[getElem?_pos s k h];rfl⟩
def X2 {N:Nat}(q:1000<N) (b:AU):∃v,G1 N b=some v∧(v=true→HX b):=by
 unfold G1
 simp only[Kk,iM,E7,JE]
 generalize d:(_|| !V3 b.Z 0 1099511627776)=B
 cases B
 ·simp only[jP,jK,kY] at d
  obtain⟨⟨⟨⟨⟨⟨⟨⟨⟨⟨s,g⟩,i⟩,j⟩,t⟩,u⟩,w⟩,x⟩,y⟩,l⟩,m⟩:=d
  have A:=Ij g
  have C:=Ij i
  have D:=Ij j
  have c:HX b:=⟨by omega,by omega,by omega,by omega,by omega,by omega,by omega,by omega⟩
  simp only[iO]
  have a:∃v,D0 N b=some v:=by
   unfold D0
   rcases Fl b.Ap.length (Dy N b (FQ N)) (FQ N) (λ_=>True) (λn k h=>by
    simp only[Dy];rw[FY h];rfl) (λn k h=>by
    simp only[Dy]
    rw[FX h,iN,Bv h]
    simp only[iM,Jv,BV (show k<4611686018427387904 by omega)]
    cases Qm b.Ap[k]
    ·exact .inl rfl
    ·exact .inr ⟨trivial,rfl⟩) N 0 (by omega) (iU _) with h|⟨_,h⟩
   ·exact⟨_,h⟩
   ·exact⟨true,h⟩
  rcases Fl b.J.size (Dz N b (D0 N b)) (D0 N b) (λ_=>True) (λn k h=>by
    simp only[Dz];rw[FY h];rfl) (λn k h=>by
    simp only[Dz]
    obtain⟨z,o⟩:=RM h
    rw[FX h,iN,o]
    simp only[iM,BV (show k<4611686018427387904 by omega)]
    cases (decide (z<32)||decide (126<z)||decide (z=34)||decide (z=92))
    ·exact .inr ⟨trivial,rfl⟩
    ·exact .inl rfl) N 0 (by omega) (iU _) with h|⟨_,h⟩
  ·exact⟨false,h,λh=>by cases h⟩
  ·obtain⟨v,p⟩:=a
   exact⟨v,h.trans p,λ_=>c⟩
 ·exact⟨false,rfl,λh=>by cases h⟩
def Ut {N:Nat}(d:1000<N) (s:ByteArray):Df (H8 N s):=by
 unfold H8
 cases c:(decide ((s.size:Int)<1)||decide (24<(s.size:Int))||s==ByteArray.mk #[111,117,116])
 ·simp only[jP,jK] at c
  obtain⟨z,a⟩:=RM (s:=s) (k:=0) (by omega)
  have b:UQ s 0=some z:=a
  simp only[iO,b,iM,E7,JE]
  refine Df.cond (λ_=>Df.mk _) λ_=>?_
  rcases Fl s.size (Ey N s (GA N)) (GA N) (λ_=>True) (λn k h=>by
    simp only[Ey];rw[FY h];rfl) (λn k h=>by
    simp only[Ey]
    obtain⟨z,a⟩:=RM h
    rw[FX h,iN,a]
    simp only[iM,BV (show k<4611686018427387904 by omega)]
    cases (((decide (z<97)||decide (122<z))&&(decide (z<48)||decide (57<z)))&&decide (z≠95))
    ·exact .inr ⟨trivial,rfl⟩
    ·exact .inl rfl) N 1 (by omega) (by omega) with h|⟨_,h⟩
  ·exact⟨_,h⟩
  ·exact⟨_,h⟩
 ·simp only[iN,iM]
  exact Df.mk _
def V8 {N:Nat}(d:1000<N) (m:List (AK×Bool)) (a b:ByteArray):Df (IQ N m a b):=by
 have c:∀s,Df (GW N m b s):=λs=>by
  unfold GW
  exact Df.bind (Ut d b) λ_ _=>Df.cond (λ_=>Df.mk _) λ_=>Df.mk _
 unfold IQ
 exact Df.cond (λ_=>c _) λ_=>c _
def J7 {N:Nat}(d:1000<N) (m:List (AK×Bool)) (c:Bool) (a b:ByteArray):∃v,Cx N m c a b=some v:=by
 unfold Cx
 exact Df.bind (V8 d m a b) λ_ _=>Df.mk _
def Vr {N:Nat}(c:1000<N) {b:AU}(o:HX b):Df (Hb N b):=by
 obtain⟨w,x,y,z,A,B,C,G⟩:=o
 have d:∀{σ} (L:Nat) (f:Nat→Int→σ→Option Bool) (g:σ→Option Bool),L≤128→(∀n (k:Nat) s,L≤k→f (n+1) (k:Int) s=g s)→(∀n (k:Nat) s,k<L→∃s',f (n+1) (k:Int) s=f n ((k+1:Nat):Int) s')→(∀s,Df (g s))→∀s,Df (f N 0 s):=λL f g H i p j s=>by
  obtain⟨s',_,e⟩:=T3 L f g (λ_=>True) i (λn k s _ h=>by obtain⟨s',h'⟩:=p n k s h;exact⟨s',trivial,h'⟩) N 0 s trivial (by omega) (iU _)
  obtain⟨v,a⟩:=j s'
  exact⟨v,e.trans a⟩
 have l:∀s:Bool×List (AK×Bool),Df (C5 N b (D4 N) N 0 s.1 s.2):=d (σ:=Bool×List (AK×Bool)) b.An.length (λn k s=>C5 N b (D4 N) n k s.1 s.2) (λs=>D4 N s.1) (by omega) (λn k s h=>by simp only[C5];rw[FY h];rfl)
  (λn k s h=>by
   simp only[C5]
   rw[FX h,iN,Bv h]
   simp only[iM]
   obtain⟨v,a⟩:=J7 c s.2 s.1 (ByteArray.mk #[114,111,97,100]) (b.An[k]).J
   rw[a]
   simp only[iM,BV (show k<4611686018427387904 by omega)]
   exact⟨(v.2,v.1),rfl⟩) (λs=>Df.mk _)
 have m:∀s:Bool×List (AK×Bool),Df (C6 N b (D5 N b) N 0 s.1 s.2):=d (σ:=Bool×List (AK×Bool)) b.Am.length (λn k s=>C6 N b (D5 N b) n k s.1 s.2) (λs=>D5 N b s.1 s.2) (by omega) (λn k s h=>by simp only[C6];rw[FY h];rfl)
  (λn k s h=>by
   simp only[C6]
   rw[FX h,iN,Bv h]
   simp only[iM]
   obtain⟨v,a⟩:=J7 c s.2 s.1 (ByteArray.mk #[103,97,117,103,101]) (b.Am[k]).J
   rw[a]
   simp only[iM,BV (show k<4611686018427387904 by omega)]
   exact⟨(v.2,v.1),rfl⟩) (λs=>l s)
 have q:∀s:Bool×List (AK×Bool),Df (DH N b (EH N b) N 0 s.1 s.2):=d (σ:=Bool×List (AK×Bool)) b.Aq.length (λn k s=>DH N b (EH N b) n k s.1 s.2) (λs=>EH N b s.1 s.2) (by omega) (λn k s h=>by simp only[DH];rw[FY h];rfl)
  (λn k s h=>by
   simp only[DH]
   rw[FX h,iN,Bv h]
   simp only[iM]
   obtain⟨v,a⟩:=J7 c s.2 s.1 (ByteArray.mk #[115,104,101,108,116,101,114]) (b.Aq[k]).J
   rw[a]
   simp only[iM,BV (show k<4611686018427387904 by omega)]
   exact⟨(v.2,v.1),rfl⟩) (λs=>m s)
 have t:∀s:Bool×List (AK×Bool),Df (DI N b (EI N b) N 0 s.1 s.2):=d (σ:=Bool×List (AK×Bool)) b.Ac.length (λn k s=>DI N b (EI N b) n k s.1 s.2) (λs=>EI N b s.1 s.2) (by omega) (λn k s h=>by simp only[DI];rw[FY h];rfl)
  (λn k s h=>by
   simp only[DI]
   rw[FX h,iN,Bv h]
   simp only[iM]
   obtain⟨v,a⟩:=J7 c s.2 s.1 (ByteArray.mk #[116,111,119,110]) (b.Ac[k]).J
   rw[a]
   simp only[iM,BV (show k<4611686018427387904 by omega)]
   exact⟨(v.2,v.1),rfl⟩) (λs=>q s)
 have u:∀s:Bool×List (AK×Bool),Df (DJ N b (EJ N b) N 0 s.1 s.2):=d (σ:=Bool×List (AK×Bool)) b.F.length (λn k s=>DJ N b (EJ N b) n k s.1 s.2) (λs=>EJ N b s.1 s.2) (by omega) (λn k s h=>by simp only[DJ];rw[FY h];rfl)
  (λn k s h=>by
   simp only[DJ]
   rw[FX h,iN,Bv h]
   simp only[iM]
   obtain⟨v,a⟩:=J7 c s.2 s.1 (ByteArray.mk #[108,105,110,107]) (b.F[k]).J
   rw[a]
   simp only[iM,BV (show k<4611686018427387904 by omega)]
   exact⟨(v.2,v.1),rfl⟩) (λs=>t s)
 have j:∀s:Bool×List (AK×Bool),Df (DK N b (EK N b) N 0 s.1 s.2):=d (σ:=Bool×List (AK×Bool)) b.D.length (λn k s=>DK N b (EK N b) n k s.1 s.2) (λs=>EK N b s.1 s.2) (by omega) (λn k s h=>by simp only[DK];rw[FY h];rfl)
  (λn k s h=>by
   simp only[DK]
   rw[FX h,iN,Bv h]
   simp only[iM]
   obtain⟨v,a⟩:=J7 c s.2 s.1 (ByteArray.mk #[112,108,97,99,101]) (b.D[k]).J
   rw[a]
   simp only[iM,BV (show k<4611686018427387904 by omega)]
   exact⟨(v.2,v.1),rfl⟩) (λs=>u s)
 have i:∀s:Bool×List (AK×Bool),Df (DL N b (EL N b) N 0 s.1 s.2):=d (σ:=Bool×List (AK×Bool)) b.Ar.length (λn k s=>DL N b (EL N b) n k s.1 s.2) (λs=>EL N b s.1 s.2) (by omega) (λn k s h=>by simp only[DL];rw[FY h];rfl)
  (λn k s h=>by
   simp only[DL]
   rw[FX h,iN,Bv h]
   simp only[iM]
   obtain⟨v,a⟩:=J7 c s.2 s.1 (ByteArray.mk #[111,119,110,101,114]) (b.Ar[k])
   rw[a]
   simp only[iM,BV (show k<4611686018427387904 by omega)]
   exact⟨(v.2,v.1),rfl⟩) (λs=>j s)
 exact i (true,[])
end Go.Proofs.YtibidnaedddfdaaGreat
