import Derived.Test.YtblcgjadhemlbaaGreatQPureDiv
namespace Go.Proofs.YtblcgjadhemlbaaGreat
open Go.RowKit
set_option linter.unusedVariables false
set_option linter.unusedSimpArgs false
theorem KG (b x:Bool):cond b true x=(b||x):=by cases b<;>rfl
theorem Mq (b x:Bool):cond b x false=(b&&x):=by cases b<;>rfl
theorem T5 {α β}(b:Bool) (x y:Option α) (f:α→Option β):Option.bind (cond b x y) f=cond b (Option.bind x f) (Option.bind y f):=by cases b<;>rfl
theorem BH {k:Nat}(h:k<4611686018427387904):BD ((k:Int)+1)=((k+1:Nat):Int):=by rw[GF (by omega) (by omega)];rfl
theorem E6 {k L:Nat}(h:k<L):decide ((k:Int)<(L:Int))=true:=by simp;omega
theorem E7 {k L:Nat}(h:L≤k):decide ((k:Int)<(L:Int))=false:=by simp;omega
theorem HQ (L:Nat) (f:Nat→Int→Option Bool) (kj:Option Bool) (P:Nat→Prop) (hstop:∀n (k:Nat),L≤k→f (n+1) (k:Int)=kj) (hstep:∀n (k:Nat),k<L→f (n+1) (k:Int)=some false∨(P k∧f (n+1) (k:Int)=f n ((k+1:Nat):Int))):
  ∀n (k:Nat),L<n+k→k≤L→f n (k:Int)=some false∨((∀i,k≤i→i<L→P i)∧f n (k:Int)=kj)
 |0,k,h,hk=>by omega
 |n+1,k,h,hk=>by
  rcases Nat.lt_or_ge k L with hl|hl
  ·rcases hstep n k hl with h1|⟨h1,h2⟩
   ·exact .inl h1
   ·rcases HQ L f kj P hstop hstep n (k+1) (by omega) (by omega) with h3|⟨h3,h4⟩
    ·exact .inl (h2.trans h3)
    ·refine .inr ⟨λi hi hil=>?_,h2.trans h4⟩
     by_cases e:i=k
     ·subst e;exact h1
     ·exact h3 i (by omega) hil
  ·exact .inr ⟨λi hi hil=>by omega,hstop n k hl⟩
theorem Sx {σ β:Type}(L:Nat) (f:Nat→Int→σ→Option β) (kj:σ→Option β) (I:σ→Prop) (hstop:∀n (k:Nat) s,L≤k→f (n+1) (k:Int) s=kj s) (hstep:∀n (k:Nat) s,I s→k<L→∃s',I s'∧f (n+1) (k:Int) s=f n ((k+1:Nat):Int) s'):
  ∀n (k:Nat) s,I s→L<n+k→k≤L→∃s',I s'∧f n (k:Int) s=kj s'
 |0,k,s,_,h,hk=>by omega
 |n+1,k,s,hi,h,hk=>by
  rcases Nat.lt_or_ge k L with hl|hl
  ·obtain⟨s1,i1,h1⟩:=hstep n k s hi hl
   obtain⟨s2,i2,h2⟩:=Sx L f kj I hstop hstep n (k+1) s1 i1 (by omega) (by omega)
   exact⟨s2,i2,h1.trans h2⟩
  ·exact⟨s,hi,hstop n k s hl⟩
def P7 (n:Int):Bool:=decide (0≤n)&&decide (n≤1125899906842624)
theorem JH {n:Int}(h:P7 n=true):Hy n:=by simpa [P7,Hy] using h
theorem J5 (N:Nat) (n:Int):Bu N n=some (P7 n):=rfl
def U0 (n lo hi:Int):Bool:=decide (lo≤n)&&decide (n≤hi)
theorem Kr (N:Nat) (n lo hi:Int):B6 N n lo hi=some (U0 n lo hi):=rfl
theorem Is {n lo hi:Int}(h:U0 n lo hi=true):lo≤n∧n≤hi:=by simpa [U0] using h
def Ps (a b:Int):Bool:=(P7 a&&P7 b)&&(decide (b≠0)||decide (a=0))
theorem NH (N:Nat) (a b:Int):Fa N a b=some (Ps a b):=by
 simp only[Fa,J5,Option.bind_some,Ee,Mq,Ps]
theorem MM {a b:Int}(h:Ps a b=true):Hy a∧Hy b:=by
 simp only[Ps,Bool.and_eq_true] at h
 exact⟨JH h.1.1,JH h.1.2⟩
theorem NF (N:Nat) (n:Int) {L:Nat}(hL:L<4611686018427387904):EA N n (L:Int)=some (U0 n 0 ((L:Int)-1)):=by
 simp only[EA,Kr,Option.bind_some]
 rw[GF (by omega) (by omega)]
def Q7 (L:Nat) (fr to:Int):Bool:=decide (to= -1)||(U0 to 0 ((L:Int)-1)&&decide (to≠fr))
theorem Nh (N:Nat) (b:AZ) (fr to:Int) (hL:b.Places.length<4611686018427387904):HL N b fr to=some (Q7 b.Places.length fr to):=by
 simp only[HL,NF N _ hL,Option.bind_some,Ee,KG,Q7]
theorem Sj {L:Nat}{fr to:Int}(h:Q7 L fr to=true):to= -1∨(0≤to∧to<L):=by
 simp only[Q7,Bool.or_eq_true,Bool.and_eq_true,decide_eq_true_eq] at h
 rcases h with h|h
 ·exact .inl h
 ·have:=Is h.1;exact .inr ⟨this.1,by omega⟩
structure Hs (b:AZ):Prop where
 own:b.Owners.length≤16
 cells:0≤b.Cells∧b.Cells≤64
 pl:b.Places.length≤64
 li:b.Links.length≤96
 to:b.Towns.length≤40
 ga:b.Gauges.length≤128
 ro:b.Roads.length≤128
 sh:b.Shelters.length≤40
 own1:1≤b.Owners.length
theorem Ql {s:ByteArray}{k:Nat}(h:k<s.size):∃z,TQ s (k:Int)=some z:=by
 unfold TQ
 rw[if_neg (by omega)]
 simp only[Int.toNat_natCast]
 exact⟨_,by rw[getElem?_pos s k h];rfl⟩
theorem WX {N:Nat}(hN:1000<N) (b:AZ):∃v,G0 N b=some v∧(v=true→Hs b):=by
 unfold G0
 simp only[Kr,Option.bind_some,Ee,KG]
 generalize hB:(_|| !U0 b.Err 0 1099511627776)=B
 cases B
 ·simp only[Bool.or_eq_false_iff,decide_eq_false_iff_not,Bool.not_eq_false'] at hB
  obtain⟨⟨⟨⟨⟨⟨⟨⟨⟨⟨h1,h2⟩,h3⟩,h4⟩,h5⟩,h6⟩,h7⟩,h8⟩,h9⟩,h10⟩,h11⟩:=hB
  have g2:=Is h2
  have g3:=Is h3
  have g4:=Is h4
  have hok:Hs b:=⟨by omega,by omega,by omega,by omega,by omega,by omega,by omega,by omega,by omega⟩
  simp only[cond_false]
  have hroom:∃v,Da N b=some v:=by
   unfold Da
   rcases HQ b.Room.length (DY N b (E3 N)) (E3 N) (λ_=>True) (λn k h=>by
    simp only[DY];rw[E7 h];rfl) (λn k h=>by
    simp only[DY]
    rw[E6 h,cond_true,BQ h]
    simp only[Option.bind_some,J5,BH (show k<4611686018427387904 by omega)]
    cases P7 b.Room[k]
    ·exact .inl rfl
    ·exact .inr ⟨trivial,rfl⟩) N 0 (by omega) (Nat.zero_le _) with h|⟨_,h⟩
   ·exact⟨_,h⟩
   ·exact⟨true,h⟩
  rcases HQ b.Name.size (DZ N b (Da N b)) (Da N b) (λ_=>True) (λn k h=>by
    simp only[DZ];rw[E7 h];rfl) (λn k h=>by
    simp only[DZ]
    obtain⟨z,hz⟩:=Ql h
    rw[E6 h,cond_true,hz]
    simp only[Option.bind_some,BH (show k<4611686018427387904 by omega)]
    cases (decide (z<32)||decide (126<z)||decide (z=34)||decide (z=92))
    ·exact .inr ⟨trivial,rfl⟩
    ·exact .inl rfl) N 0 (by omega) (Nat.zero_le _) with h|⟨_,h⟩
  ·exact⟨false,h,λh=>by cases h⟩
  ·obtain⟨v,hv⟩:=hroom
   exact⟨v,h.trans hv,λ_=>hok⟩
 ·exact⟨false,rfl,λh=>by cases h⟩
theorem Tw {N:Nat}(hN:1000<N) (s:ByteArray):Df (H7 N s):=by
 unfold H7
 cases hB:(decide ((s.size:Int)<1)||decide (24<(s.size:Int))||s==ByteArray.mk #[111,117,116])
 ·simp only[Bool.or_eq_false_iff,decide_eq_false_iff_not] at hB
  obtain⟨z,hz⟩:=Ql (s:=s) (k:=0) (by omega)
  have hz':TQ s 0=some z:=hz
  simp only[cond_false,hz',Option.bind_some,Ee,KG]
  refine Df.cond (λ_=>Df.mk _) λ_=>?_
  rcases HQ s.size (EW N s (Fx N)) (Fx N) (λ_=>True) (λn k h=>by
    simp only[EW];rw[E7 h];rfl) (λn k h=>by
    simp only[EW]
    obtain⟨z,hz⟩:=Ql h
    rw[E6 h,cond_true,hz]
    simp only[Option.bind_some,BH (show k<4611686018427387904 by omega)]
    cases (((decide (z<97)||decide (122<z))&&(decide (z<48)||decide (57<z)))&&decide (z≠95))
    ·exact .inr ⟨trivial,rfl⟩
    ·exact .inl rfl) N 1 (by omega) (by omega) with h|⟨_,h⟩
  ·exact⟨_,h⟩
  ·exact⟨_,h⟩
 ·simp only[cond_true,Option.bind_some]
  exact Df.mk _
theorem VB {N:Nat}(hN:1000<N) (m:List (AQ×Bool)) (a b:ByteArray):Df (IY N m a b):=by
 have hj:∀s,Df (GQ N m b s):=λs=>by
  unfold GQ
  exact Df.bind (Tw hN b) λ_ _=>Df.cond (λ_=>Df.mk _) λ_=>Df.mk _
 unfold IY
 exact Df.cond (λ_=>hj _) λ_=>hj _
theorem KH {N:Nat}(hN:1000<N) (m:List (AQ×Bool)) (c:Bool) (a b:ByteArray):∃v,CQ N m c a b=some v:=by
 unfold CQ
 exact Df.bind (VB hN m a b) λ_ _=>Df.mk _
theorem Uq {N:Nat}(hN:1000<N) {b:AZ}(hb:Hs b):Df (HV N b):=by
 obtain⟨q1,q2,q3,q4,q5,q6,q7,q8⟩:=hb
 have st:∀{σ} (L:Nat) (f:Nat→Int→σ→Option Bool) (kj:σ→Option Bool),L≤128→(∀n (k:Nat) s,L≤k→f (n+1) (k:Int) s=kj s)→(∀n (k:Nat) s,k<L→∃s',f (n+1) (k:Int) s=f n ((k+1:Nat):Int) s')→(∀s,Df (kj s))→∀s,Df (f N 0 s):=λL f kj hL h1 h2 h3 s=>by
  obtain⟨s',_,e⟩:=Sx L f kj (λ_=>True) h1 (λn k s _ h=>by obtain⟨s',h'⟩:=h2 n k s h;exact⟨s',trivial,h'⟩) N 0 s trivial (by omega) (Nat.zero_le _)
  obtain⟨v,hv⟩:=h3 s'
  exact⟨v,e.trans hv⟩
 have h13:∀s:Bool×List (AQ×Bool),Df (CY N b (Dc N) N 0 s.1 s.2):=st (σ:=Bool×List (AQ×Bool)) b.Roads.length (λn k s=>CY N b (Dc N) n k s.1 s.2) (λs=>Dc N s.1) (by omega) (λn k s h=>by simp only[CY];rw[E7 h];rfl)
  (λn k s h=>by
   simp only[CY]
   rw[E6 h,cond_true,BQ h]
   simp only[Option.bind_some]
   obtain⟨v,hv⟩:=KH hN s.2 s.1 (ByteArray.mk #[114,111,97,100]) (b.Roads[k]).Name
   rw[hv]
   simp only[Option.bind_some,BH (show k<4611686018427387904 by omega)]
   exact⟨(v.2,v.1),rfl⟩) (λs=>Df.mk _)
 have h11:∀s:Bool×List (AQ×Bool),Df (CZ N b (Dd N b) N 0 s.1 s.2):=st (σ:=Bool×List (AQ×Bool)) b.Gauges.length (λn k s=>CZ N b (Dd N b) n k s.1 s.2) (λs=>Dd N b s.1 s.2) (by omega) (λn k s h=>by simp only[CZ];rw[E7 h];rfl)
  (λn k s h=>by
   simp only[CZ]
   rw[E6 h,cond_true,BQ h]
   simp only[Option.bind_some]
   obtain⟨v,hv⟩:=KH hN s.2 s.1 (ByteArray.mk #[103,97,117,103,101]) (b.Gauges[k]).Name
   rw[hv]
   simp only[Option.bind_some,BH (show k<4611686018427387904 by omega)]
   exact⟨(v.2,v.1),rfl⟩) (λs=>h13 s)
 have h9:∀s:Bool×List (AQ×Bool),Df (Ck N b (Dq N b) N 0 s.1 s.2):=st (σ:=Bool×List (AQ×Bool)) b.Shelters.length (λn k s=>Ck N b (Dq N b) n k s.1 s.2) (λs=>Dq N b s.1 s.2) (by omega) (λn k s h=>by simp only[Ck];rw[E7 h];rfl)
  (λn k s h=>by
   simp only[Ck]
   rw[E6 h,cond_true,BQ h]
   simp only[Option.bind_some]
   obtain⟨v,hv⟩:=KH hN s.2 s.1 (ByteArray.mk #[115,104,101,108,116,101,114]) (b.Shelters[k]).Name
   rw[hv]
   simp only[Option.bind_some,BH (show k<4611686018427387904 by omega)]
   exact⟨(v.2,v.1),rfl⟩) (λs=>h11 s)
 have h7:∀s:Bool×List (AQ×Bool),Df (Cm N b (Dr N b) N 0 s.1 s.2):=st (σ:=Bool×List (AQ×Bool)) b.Towns.length (λn k s=>Cm N b (Dr N b) n k s.1 s.2) (λs=>Dr N b s.1 s.2) (by omega) (λn k s h=>by simp only[Cm];rw[E7 h];rfl)
  (λn k s h=>by
   simp only[Cm]
   rw[E6 h,cond_true,BQ h]
   simp only[Option.bind_some]
   obtain⟨v,hv⟩:=KH hN s.2 s.1 (ByteArray.mk #[116,111,119,110]) (b.Towns[k]).Name
   rw[hv]
   simp only[Option.bind_some,BH (show k<4611686018427387904 by omega)]
   exact⟨(v.2,v.1),rfl⟩) (λs=>h9 s)
 have h5:∀s:Bool×List (AQ×Bool),Df (Cn N b (Dt N b) N 0 s.1 s.2):=st (σ:=Bool×List (AQ×Bool)) b.Links.length (λn k s=>Cn N b (Dt N b) n k s.1 s.2) (λs=>Dt N b s.1 s.2) (by omega) (λn k s h=>by simp only[Cn];rw[E7 h];rfl)
  (λn k s h=>by
   simp only[Cn]
   rw[E6 h,cond_true,BQ h]
   simp only[Option.bind_some]
   obtain⟨v,hv⟩:=KH hN s.2 s.1 (ByteArray.mk #[108,105,110,107]) (b.Links[k]).Name
   rw[hv]
   simp only[Option.bind_some,BH (show k<4611686018427387904 by omega)]
   exact⟨(v.2,v.1),rfl⟩) (λs=>h7 s)
 have h3:∀s:Bool×List (AQ×Bool),Df (Co N b (Du N b) N 0 s.1 s.2):=st (σ:=Bool×List (AQ×Bool)) b.Places.length (λn k s=>Co N b (Du N b) n k s.1 s.2) (λs=>Du N b s.1 s.2) (by omega) (λn k s h=>by simp only[Co];rw[E7 h];rfl)
  (λn k s h=>by
   simp only[Co]
   rw[E6 h,cond_true,BQ h]
   simp only[Option.bind_some]
   obtain⟨v,hv⟩:=KH hN s.2 s.1 (ByteArray.mk #[112,108,97,99,101]) (b.Places[k]).Name
   rw[hv]
   simp only[Option.bind_some,BH (show k<4611686018427387904 by omega)]
   exact⟨(v.2,v.1),rfl⟩) (λs=>h5 s)
 have h1:∀s:Bool×List (AQ×Bool),Df (Cp N b (Dv N b) N 0 s.1 s.2):=st (σ:=Bool×List (AQ×Bool)) b.Owners.length (λn k s=>Cp N b (Dv N b) n k s.1 s.2) (λs=>Dv N b s.1 s.2) (by omega) (λn k s h=>by simp only[Cp];rw[E7 h];rfl)
  (λn k s h=>by
   simp only[Cp]
   rw[E6 h,cond_true,BQ h]
   simp only[Option.bind_some]
   obtain⟨v,hv⟩:=KH hN s.2 s.1 (ByteArray.mk #[111,119,110,101,114]) (b.Owners[k])
   rw[hv]
   simp only[Option.bind_some,BH (show k<4611686018427387904 by omega)]
   exact⟨(v.2,v.1),rfl⟩) (λs=>h3 s)
 exact h1 (true,[])
end Go.Proofs.YtblcgjadhemlbaaGreat
