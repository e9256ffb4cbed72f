import Derived.Test.YtblcgjadhemlbaaGreatUPureDiv
namespace Go.Proofs.YtblcgjadhemlbaaGreat
open Go.RowKit
set_option linter.unusedVariables false
set_option linter.unusedSimpArgs false
theorem Km (b x:Bool):cond b true x=(b||x):=by cases b<;>rfl
theorem Pw (b x:Bool):cond b x false=(b&&x):=by cases b<;>rfl
theorem BE {k:Nat}(h:k<4611686018427387904):BC ((k:Int)+1)=((k+1:Nat):Int):=by rw[DB (by omega) (by omega)];rfl
theorem Ea {k L:Nat}(h:k<L):decide ((k:Int)<(L:Int))=true:=by simp;omega
theorem Ey {k L:Nat}(h:L≤k):decide ((k:Int)<(L:Int))=false:=by simp;omega
theorem IG (L:Nat) (f:Nat→Int→Option Bool) (kj:Option Bool) (P:Nat→Prop) (hstop:∀n (k:Nat),L≤k→f (n+1) (k:Int)=kj) (hstep:∀n (k:Nat),k<L→f (n+1) (k:Int)=some false∨(P k∧f (n+1) (k:Int)=f n ((k+1:Nat):Int))):
  ∀n (k:Nat),L<n+k→k≤L→f n (k:Int)=some false∨((∀i,k≤i→i<L→P i)∧f n (k:Int)=kj)
 |0,k,h,hk=>by omega
 |n+1,k,h,hk=>by
  rcases Nat.lt_or_ge k L with hl|hl
  ·rcases hstep n k hl with h1|⟨h1,h2⟩
   ·exact .inl h1
   ·rcases IG L f kj P hstop hstep n (k+1) (by omega) (by omega) with h3|⟨h3,h4⟩
    ·exact .inl (h2.trans h3)
    ·refine .inr ⟨λi hi hil=>?_,h2.trans h4⟩
     by_cases e:i=k
     ·subst e;exact h1
     ·exact h3 i (by omega) hil
  ·exact .inr ⟨λi hi hil=>by omega,hstop n k hl⟩
theorem US {σ β:Type}(L:Nat) (f:Nat→Int→σ→Option β) (kj:σ→Option β) (I:σ→Prop) (hstop:∀n (k:Nat) s,L≤k→f (n+1) (k:Int) s=kj s) (hstep:∀n (k:Nat) s,I s→k<L→∃s',I s'∧f (n+1) (k:Int) s=f n ((k+1:Nat):Int) s'):
  ∀n (k:Nat) s,I s→L<n+k→k≤L→∃s',I s'∧f n (k:Int) s=kj s'
 |0,k,s,_,h,hk=>by omega
 |n+1,k,s,hi,h,hk=>by
  rcases Nat.lt_or_ge k L with hl|hl
  ·obtain⟨s1,i1,h1⟩:=hstep n k s hi hl
   obtain⟨s2,i2,h2⟩:=US L f kj I hstop hstep n (k+1) s1 i1 (by omega) (by omega)
   exact⟨s2,i2,h1.trans h2⟩
  ·exact⟨s,hi,hstop n k s hl⟩
def Q3 (n:Int):Bool:=decide (0≤n)&&decide (n≤1125899906842624)
theorem MC {n:Int}(h:Q3 n=true):Ik n:=by simpa [Q3,Ik] using h
theorem LZ (N:Nat) (n:Int):B0 N n=some (Q3 n):=rfl
def Wi (n lo hi:Int):Bool:=decide (lo≤n)&&decide (n≤hi)
theorem NB (N:Nat) (n lo hi:Int):B8 N n lo hi=some (Wi n lo hi):=rfl
theorem KI {n lo hi:Int}(h:Wi n lo hi=true):lo≤n∧n≤hi:=by simpa [Wi] using h
def Ud (a b:Int):Bool:=(Q3 a&&Q3 b)&&(decide (b≠0)||decide (a=0))
theorem RZ (N:Nat) (a b:Int):Fp N a b=some (Ud a b):=by
 simp only[Fp,LZ,Option.bind_some,Fi,Pw,Ud]
theorem Mo {a b:Int}(h:Ud a b=true):Ik a∧Ik b:=by
 simp only[Ud,Bool.and_eq_true] at h
 exact⟨MC h.1.1,MC h.1.2⟩
theorem Pk (N:Nat) (n:Int) {L:Nat}(hL:L<4611686018427387904):D8 N n (L:Int)=some (Wi n 0 ((L:Int)-1)):=by
 simp only[D8,NB,Option.bind_some]
 rw[DB (by omega) (by omega)]
def SJ (L:Nat) (fr to:Int):Bool:=decide (to= -1)||(Wi to 0 ((L:Int)-1)&&decide (to≠fr))
theorem Qa (N:Nat) (b:AW) (fr to:Int) (hL:b.Places.length<4611686018427387904):Hl N b fr to=some (SJ b.Places.length fr to):=by
 simp only[Hl,Pk N _ hL,Option.bind_some,Fi,Km,SJ]
theorem UD {L:Nat}{fr to:Int}(h:SJ L fr to=true):to= -1∨(0≤to∧to<L):=by
 simp only[SJ,Bool.or_eq_true,Bool.and_eq_true,decide_eq_true_eq] at h
 rcases h with h|h
 ·exact .inl h
 ·have:=KI h.1;exact .inr ⟨this.1,by omega⟩
structure G1 (b:AW):Prop where
 own:b.Owners.length≤16
 cells:0≤b.Cells∧b.Cells≤64
 pl:b.Places.length≤64
 li:b.Links.length≤96
 to:b.Towns.length≤40
 ga:b.Gauges.length≤128
 ro:b.Roads.length≤128
 sh:b.Shelters.length≤40
 own1:1≤b.Owners.length
theorem Rs {s:ByteArray}{k:Nat}(h:k<s.size):∃z,Uq s (k:Int)=some z:=by
 unfold Uq
 rw[if_neg (by omega)]
 simp only[Int.toNat_natCast]
 exact⟨_,by rw[getElem?_pos s k h];rfl⟩
theorem YM {N:Nat}(hN:1000<N) (b:AW):∃v,HH N b=some v∧(v=true→G1 b):=by
 unfold HH
 simp only[NB,Option.bind_some,Fi,Km]
 generalize hB:(_|| !Wi b.Err 0 1099511627776)=B
 cases B
 ·simp only[Bool.or_eq_false_iff,decide_eq_false_iff_not,Bool.not_eq_false'] at hB
  obtain⟨⟨⟨⟨⟨⟨⟨⟨⟨⟨h1,h2⟩,h3⟩,h4⟩,h5⟩,h6⟩,h7⟩,h8⟩,h9⟩,h10⟩,h11⟩:=hB
  have g2:=KI h2
  have g3:=KI h3
  have g4:=KI h4
  have hok:G1 b:=⟨by omega,by omega,by omega,by omega,by omega,by omega,by omega,by omega,by omega⟩
  simp only[cond_false]
  have hroom:∃v,DZ N b=some v:=by
   unfold DZ
   rcases IG b.Room.length (DX N b (FI N)) (FI N) (λ_=>True) (λn k h=>by
    simp only[DX];rw[Ey h];rfl) (λn k h=>by
    simp only[DX]
    rw[Ea h,cond_true,BA h]
    simp only[Option.bind_some,LZ,BE (show k<4611686018427387904 by omega)]
    cases Q3 b.Room[k]
    ·exact .inl rfl
    ·exact .inr ⟨trivial,rfl⟩) N 0 (by omega) (Nat.zero_le _) with h|⟨_,h⟩
   ·exact⟨_,h⟩
   ·exact⟨true,h⟩
  rcases IG b.Name.size (DY N b (DZ N b)) (DZ N b) (λ_=>True) (λn k h=>by
    simp only[DY];rw[Ey h];rfl) (λn k h=>by
    simp only[DY]
    obtain⟨z,hz⟩:=Rs h
    rw[Ea h,cond_true,hz]
    simp only[Option.bind_some,BE (show k<4611686018427387904 by omega)]
    cases (decide (z<32)||decide (126<z)||decide (z=34)||decide (z=92))
    ·exact .inr ⟨trivial,rfl⟩
    ·exact .inl rfl) N 0 (by omega) (Nat.zero_le _) with h|⟨_,h⟩
  ·exact⟨false,h,λh=>by cases h⟩
  ·obtain⟨v,hv⟩:=hroom
   exact⟨v,h.trans hv,λ_=>hok⟩
 ·exact⟨false,rfl,λh=>by cases h⟩
theorem VR {N:Nat}(hN:1000<N) (s:ByteArray):Df (IU N s):=by
 unfold IU
 cases hB:(decide ((s.size:Int)<1)||decide (24<(s.size:Int))||s==ByteArray.mk #[111,117,116])
 ·simp only[Bool.or_eq_false_iff,decide_eq_false_iff_not] at hB
  obtain⟨z,hz⟩:=Rs (s:=s) (k:=0) (by omega)
  have hz':Uq s 0=some z:=hz
  simp only[cond_false,hz',Option.bind_some,Fi,Km]
  refine Df.cond (λ_=>Df.mk _) λ_=>?_
  rcases IG s.size (EZ N s (GI N)) (GI N) (λ_=>True) (λn k h=>by
    simp only[EZ];rw[Ey h];rfl) (λn k h=>by
    simp only[EZ]
    obtain⟨z,hz⟩:=Rs h
    rw[Ea h,cond_true,hz]
    simp only[Option.bind_some,BE (show k<4611686018427387904 by omega)]
    cases (((decide (z<97)||decide (122<z))&&(decide (z<48)||decide (57<z)))&&decide (z≠95))
    ·exact .inr ⟨trivial,rfl⟩
    ·exact .inl rfl) N 1 (by omega) (by omega) with h|⟨_,h⟩
  ·exact⟨_,h⟩
  ·exact⟨_,h⟩
 ·simp only[cond_true,Option.bind_some]
  exact Df.mk _
theorem Wn {N:Nat}(hN:1000<N) (m:List (AQ×Bool)) (a b:ByteArray):Df (Iu N m a b):=by
 have hj:∀s,Df (Gg N m b s):=λs=>by
  unfold Gg
  exact Df.bind (VR hN b) λ_ _=>Df.cond (λ_=>Df.mk _) λ_=>Df.mk _
 unfold Iu
 exact Df.cond (λ_=>hj _) λ_=>hj _
theorem Kn {N:Nat}(hN:1000<N) (m:List (AQ×Bool)) (c:Bool) (a b:ByteArray):∃v,CP N m c a b=some v:=by
 unfold CP
 exact Df.bind (Wn hN m a b) λ_ _=>Df.mk _
theorem WW {N:Nat}(hN:1000<N) {b:AW}(hb:G1 b):Df (Hx N b):=by
 obtain⟨q1,q2,q3,q4,q5,q6,q7,q8⟩:=hb
 have st:∀{σ} (L:Nat) (f:Nat→Int→σ→Option Bool) (kj:σ→Option Bool),L≤128→(∀n (k:Nat) s,L≤k→f (n+1) (k:Int) s=kj s)→(∀n (k:Nat) s,k<L→∃s',f (n+1) (k:Int) s=f n ((k+1:Nat):Int) s')→(∀s,Df (kj s))→∀s,Df (f N 0 s):=λL f kj hL h1 h2 h3 s=>by
  obtain⟨s',_,e⟩:=US L f kj (λ_=>True) h1 (λn k s _ h=>by obtain⟨s',h'⟩:=h2 n k s h;exact⟨s',trivial,h'⟩) N 0 s trivial (by omega) (Nat.zero_le _)
  obtain⟨v,hv⟩:=h3 s'
  exact⟨v,e.trans hv⟩
 have h13:∀s:Bool×List (AQ×Bool),Df (CX N b (Dd N) N 0 s.1 s.2):=st (σ:=Bool×List (AQ×Bool)) b.Roads.length (λn k s=>CX N b (Dd N) n k s.1 s.2) (λs=>Dd N s.1) (by omega) (λn k s h=>by simp only[CX];rw[Ey h];rfl)
  (λn k s h=>by
   simp only[CX]
   rw[Ea h,cond_true,BA h]
   simp only[Option.bind_some]
   obtain⟨v,hv⟩:=Kn hN s.2 s.1 (ByteArray.mk #[114,111,97,100]) (b.Roads[k]).Name
   rw[hv]
   simp only[Option.bind_some,BE (show k<4611686018427387904 by omega)]
   exact⟨(v.2,v.1),rfl⟩) (λs=>Df.mk _)
 have h11:∀s:Bool×List (AQ×Bool),Df (CY N b (De N b) N 0 s.1 s.2):=st (σ:=Bool×List (AQ×Bool)) b.Gauges.length (λn k s=>CY N b (De N b) n k s.1 s.2) (λs=>De N b s.1 s.2) (by omega) (λn k s h=>by simp only[CY];rw[Ey h];rfl)
  (λn k s h=>by
   simp only[CY]
   rw[Ea h,cond_true,BA h]
   simp only[Option.bind_some]
   obtain⟨v,hv⟩:=Kn hN s.2 s.1 (ByteArray.mk #[103,97,117,103,101]) (b.Gauges[k]).Name
   rw[hv]
   simp only[Option.bind_some,BE (show k<4611686018427387904 by omega)]
   exact⟨(v.2,v.1),rfl⟩) (λs=>h13 s)
 have h9:∀s:Bool×List (AQ×Bool),Df (Ch N b (Dq N b) N 0 s.1 s.2):=st (σ:=Bool×List (AQ×Bool)) b.Shelters.length (λn k s=>Ch N b (Dq N b) n k s.1 s.2) (λs=>Dq N b s.1 s.2) (by omega) (λn k s h=>by simp only[Ch];rw[Ey h];rfl)
  (λn k s h=>by
   simp only[Ch]
   rw[Ea h,cond_true,BA h]
   simp only[Option.bind_some]
   obtain⟨v,hv⟩:=Kn hN s.2 s.1 (ByteArray.mk #[115,104,101,108,116,101,114]) (b.Shelters[k]).Name
   rw[hv]
   simp only[Option.bind_some,BE (show k<4611686018427387904 by omega)]
   exact⟨(v.2,v.1),rfl⟩) (λs=>h11 s)
 have h7:∀s:Bool×List (AQ×Bool),Df (Ci N b (Dr N b) N 0 s.1 s.2):=st (σ:=Bool×List (AQ×Bool)) b.Towns.length (λn k s=>Ci N b (Dr N b) n k s.1 s.2) (λs=>Dr N b s.1 s.2) (by omega) (λn k s h=>by simp only[Ci];rw[Ey h];rfl)
  (λn k s h=>by
   simp only[Ci]
   rw[Ea h,cond_true,BA h]
   simp only[Option.bind_some]
   obtain⟨v,hv⟩:=Kn hN s.2 s.1 (ByteArray.mk #[116,111,119,110]) (b.Towns[k]).Name
   rw[hv]
   simp only[Option.bind_some,BE (show k<4611686018427387904 by omega)]
   exact⟨(v.2,v.1),rfl⟩) (λs=>h9 s)
 have h5:∀s:Bool×List (AQ×Bool),Df (Cj N b (Dt N b) N 0 s.1 s.2):=st (σ:=Bool×List (AQ×Bool)) b.Links.length (λn k s=>Cj N b (Dt N b) n k s.1 s.2) (λs=>Dt N b s.1 s.2) (by omega) (λn k s h=>by simp only[Cj];rw[Ey h];rfl)
  (λn k s h=>by
   simp only[Cj]
   rw[Ea h,cond_true,BA h]
   simp only[Option.bind_some]
   obtain⟨v,hv⟩:=Kn hN s.2 s.1 (ByteArray.mk #[108,105,110,107]) (b.Links[k]).Name
   rw[hv]
   simp only[Option.bind_some,BE (show k<4611686018427387904 by omega)]
   exact⟨(v.2,v.1),rfl⟩) (λs=>h7 s)
 have h3:∀s:Bool×List (AQ×Bool),Df (Ck N b (Du N b) N 0 s.1 s.2):=st (σ:=Bool×List (AQ×Bool)) b.Places.length (λn k s=>Ck N b (Du N b) n k s.1 s.2) (λs=>Du N b s.1 s.2) (by omega) (λn k s h=>by simp only[Ck];rw[Ey h];rfl)
  (λn k s h=>by
   simp only[Ck]
   rw[Ea h,cond_true,BA h]
   simp only[Option.bind_some]
   obtain⟨v,hv⟩:=Kn hN s.2 s.1 (ByteArray.mk #[112,108,97,99,101]) (b.Places[k]).Name
   rw[hv]
   simp only[Option.bind_some,BE (show k<4611686018427387904 by omega)]
   exact⟨(v.2,v.1),rfl⟩) (λs=>h5 s)
 have h1:∀s:Bool×List (AQ×Bool),Df (Cm N b (Dv N b) N 0 s.1 s.2):=st (σ:=Bool×List (AQ×Bool)) b.Owners.length (λn k s=>Cm N b (Dv N b) n k s.1 s.2) (λs=>Dv N b s.1 s.2) (by omega) (λn k s h=>by simp only[Cm];rw[Ey h];rfl)
  (λn k s h=>by
   simp only[Cm]
   rw[Ea h,cond_true,BA h]
   simp only[Option.bind_some]
   obtain⟨v,hv⟩:=Kn hN s.2 s.1 (ByteArray.mk #[111,119,110,101,114]) (b.Owners[k])
   rw[hv]
   simp only[Option.bind_some,BE (show k<4611686018427387904 by omega)]
   exact⟨(v.2,v.1),rfl⟩) (λs=>h3 s)
 exact h1 (true,[])
end Go.Proofs.YtblcgjadhemlbaaGreat
