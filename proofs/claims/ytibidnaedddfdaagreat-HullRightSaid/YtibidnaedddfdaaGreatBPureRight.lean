import Derived.Test.YtibidnaedddfdaaGreatBPureDiv
namespace Go.Proofs.YtibidnaedddfdaaGreat
open Go.RowKit
set_option linter.unusedVariables false
set_option linter.unusedSimpArgs false
theorem H0 (b x:Bool):cond b true x=(b||x):=by cases b<;>rfl
theorem MM (b x:Bool):cond b x false=(b&&x):=by cases b<;>rfl
theorem Au {k:Nat}(h:k<4611686018427387904):A3 ((k:Int)+1)=((k+1:Nat):Int):=by rw[B9 (by omega) (by omega)];rfl
theorem EJ {k L:Nat}(h:k<L):decide ((k:Int)<(L:Int))=true:=by simp;omega
theorem EK {k L:Nat}(h:L≤k):decide ((k:Int)<(L:Int))=false:=by simp;omega
theorem Ey (L:Nat) (f:Nat→Int→Option Bool) (kj:Option Bool) (P:Nat→Prop) (hstop:∀n (k:Nat),L≤k→f (n+1) (k:Int)=kj) (hstep:∀n (k:Nat),k<L→f (n+1) (k:Int)=some false∨(P k∧f (n+1) (k:Int)=f n ((k+1:Nat):Int))):
  ∀n (k:Nat),L<n+k→k≤L→f n (k:Int)=some false∨((∀i,k≤i→i<L→P i)∧f n (k:Int)=kj)
 |0,k,h,hk=>by omega
 |n+1,k,h,hk=>by
  rcases Nat.lt_or_ge k L with hl|hl
  ·rcases hstep n k hl with h1|⟨h1,h2⟩
   ·exact .inl h1
   ·rcases Ey L f kj P hstop hstep n (k+1) (by omega) (by omega) with h3|⟨h3,h4⟩
    ·exact .inl (h2.trans h3)
    ·refine .inr ⟨λi hi hil=>?_,h2.trans h4⟩
     by_cases e:i=k
     ·subst e;exact h1
     ·exact h3 i (by omega) hil
  ·exact .inr ⟨λi hi hil=>by omega,hstop n k hl⟩
theorem RO {σ β:Type}(L:Nat) (f:Nat→Int→σ→Option β) (kj:σ→Option β) (I:σ→Prop) (hstop:∀n (k:Nat) s,L≤k→f (n+1) (k:Int) s=kj s) (hstep:∀n (k:Nat) s,I s→k<L→∃s',I s'∧f (n+1) (k:Int) s=f n ((k+1:Nat):Int) s'):
  ∀n (k:Nat) s,I s→L<n+k→k≤L→∃s',I s'∧f n (k:Int) s=kj s'
 |0,k,s,_,h,hk=>by omega
 |n+1,k,s,hi,h,hk=>by
  rcases Nat.lt_or_ge k L with hl|hl
  ·obtain⟨s1,i1,h1⟩:=hstep n k s hi hl
   obtain⟨s2,i2,h2⟩:=RO L f kj I hstop hstep n (k+1) s1 i1 (by omega) (by omega)
   exact⟨s2,i2,h1.trans h2⟩
  ·exact⟨s,hi,hstop n k s hl⟩
def OR (n:Int):Bool:=decide (0≤n)&&decide (n≤1125899906842624)
theorem HW {n:Int}(h:OR n=true):E2 n:=by simpa [OR,E2] using h
theorem IL (N:Nat) (n:Int):BM N n=some (OR n):=rfl
def Tn (n lo hi:Int):Bool:=decide (lo≤n)&&decide (n≤hi)
theorem I8 (N:Nat) (n lo hi:Int):BU N n lo hi=some (Tn n lo hi):=rfl
theorem G6 {n lo hi:Int}(h:Tn n lo hi=true):lo≤n∧n≤hi:=by simpa [Tn] using h
def OD (a b:Int):Bool:=(OR a&&OR b)&&(decide (b≠0)||decide (a=0))
theorem Lp (N:Nat) (a b:Int):EF N a b=some (OD a b):=by
 simp only[EF,IL,Option.bind_some,Dx,MM,OD]
theorem Km {a b:Int}(h:OD a b=true):E2 a∧E2 b:=by
 simp only[OD,Bool.and_eq_true] at h
 exact⟨HW h.1.1,HW h.1.2⟩
theorem Lj (N:Nat) (n:Int) {L:Nat}(hL:L<4611686018427387904):DO N n (L:Int)=some (Tn n 0 ((L:Int)-1)):=by
 simp only[DO,I8,Option.bind_some]
 rw[B9 (by omega) (by omega)]
def PQ (L:Nat) (fr to:Int):Bool:=decide (to= -1)||(Tn to 0 ((L:Int)-1)&&decide (to≠fr))
theorem L7 (N:Nat) (b:AK) (fr to:Int) (hL:b.Places.length<4611686018427387904):Fg N b fr to=some (PQ b.Places.length fr to):=by
 simp only[Fg,Lj N _ hL,Option.bind_some,Dx,H0,PQ]
theorem Q5 {L:Nat}{fr to:Int}(h:PQ L fr to=true):to= -1∨(0≤to∧to<L):=by
 simp only[PQ,Bool.or_eq_true,Bool.and_eq_true,decide_eq_true_eq] at h
 rcases h with h|h
 ·exact .inl h
 ·have:=G6 h.1;exact .inr ⟨this.1,by omega⟩
structure Fi (b:AK):Prop where
 own:b.Owners.length≤16
 cells:0≤b.Cells∧b.Cells≤64
 pl:b.Places.length≤64
 li:b.Links.length≤96
 to:b.Towns.length≤40
 ga:b.Gauges.length≤128
 ro:b.Roads.length≤128
 sh:b.Shelters.length≤40
theorem O5 {s:ByteArray}{k:Nat}(h:k<s.size):∃z,Rq s (k:Int)=some z:=by
 unfold Rq
 rw[if_neg (by omega)]
 simp only[Int.toNat_natCast]
 exact⟨_,by rw[getElem?_pos s k h];rfl⟩
theorem VV {N:Nat}(hN:1000<N) (b:AK):∃v,FQ N b=some v∧(v=true→Fi b):=by
 unfold FQ
 simp only[I8,Option.bind_some,Dx,H0]
 generalize hB:(_|| !Tn b.Err 0 1099511627776)=B
 cases B
 ·simp only[Bool.or_eq_false_iff,decide_eq_false_iff_not,Bool.not_eq_false'] at hB
  obtain⟨⟨⟨⟨⟨⟨⟨⟨⟨⟨h1,h2⟩,h3⟩,h4⟩,h5⟩,h6⟩,h7⟩,h8⟩,h9⟩,h10⟩,h11⟩:=hB
  have g2:=G6 h2
  have g3:=G6 h3
  have g4:=G6 h4
  have hok:Fi b:=⟨by omega,by omega,by omega,by omega,by omega,by omega,by omega,by omega⟩
  simp only[cond_false]
  have hroom:∃v,Cm N b=some v:=by
   unfold Cm
   rcases Ey b.Room.length (Cj N b (Dw N)) (Dw N) (λ_=>True) (λn k h=>by
    simp only[Cj];rw[EK h];rfl) (λn k h=>by
    simp only[Cj]
    rw[EJ h,cond_true,Aw h]
    simp only[Option.bind_some,IL,Au (show k<4611686018427387904 by omega)]
    cases OR b.Room[k]
    ·exact .inl rfl
    ·exact .inr ⟨trivial,rfl⟩) N 0 (by omega) (Nat.zero_le _) with h|⟨_,h⟩
   ·exact⟨_,h⟩
   ·exact⟨true,h⟩
  rcases Ey b.Name.size (Ck N b (Cm N b)) (Cm N b) (λ_=>True) (λn k h=>by
    simp only[Ck];rw[EK h];rfl) (λn k h=>by
    simp only[Ck]
    obtain⟨z,hz⟩:=O5 h
    rw[EJ h,cond_true,hz]
    simp only[Option.bind_some,Au (show k<4611686018427387904 by omega)]
    cases (decide (z<32)||decide (126<z)||decide (z=34)||decide (z=92))
    ·exact .inr ⟨trivial,rfl⟩
    ·exact .inl rfl) N 0 (by omega) (Nat.zero_le _) with h|⟨_,h⟩
  ·exact⟨false,h,λh=>by cases h⟩
  ·obtain⟨v,hv⟩:=hroom
   exact⟨v,h.trans hv,λ_=>hok⟩
 ·exact⟨false,rfl,λh=>by cases h⟩
theorem SJ {N:Nat}(hN:1000<N) (s:ByteArray):Df (GW N s):=by
 unfold GW
 cases hB:(decide ((s.size:Int)<1)||decide (24<(s.size:Int))||s==ByteArray.mk #[111,117,116])
 ·simp only[Bool.or_eq_false_iff,decide_eq_false_iff_not] at hB
  obtain⟨z,hz⟩:=O5 (s:=s) (k:=0) (by omega)
  have hz':Rq s 0=some z:=hz
  simp only[cond_false,hz',Option.bind_some,Dx,H0]
  refine Df.cond (λ_=>Df.mk _) λ_=>?_
  rcases Ey s.size (Dd N s (EX N)) (EX N) (λ_=>True) (λn k h=>by
    simp only[Dd];rw[EK h];rfl) (λn k h=>by
    simp only[Dd]
    obtain⟨z,hz⟩:=O5 h
    rw[EJ h,cond_true,hz]
    simp only[Option.bind_some,Au (show k<4611686018427387904 by omega)]
    cases (((decide (z<97)||decide (122<z))&&(decide (z<48)||decide (57<z)))&&decide (z≠95))
    ·exact .inr ⟨trivial,rfl⟩
    ·exact .inl rfl) N 1 (by omega) (by omega) with h|⟨_,h⟩
  ·exact⟨_,h⟩
  ·exact⟨_,h⟩
 ·simp only[cond_true,Option.bind_some]
  exact Df.mk _
theorem Tt {N:Nat}(hN:1000<N) (m:List (AG×Bool)) (a b:ByteArray):Df (Gq N m a b):=by
 have hj:∀s,Df (En N m b s):=λs=>by
  unfold En
  exact Df.bind (SJ hN b) λ_ _=>Df.cond (λ_=>Df.mk _) λ_=>Df.mk _
 unfold Gq
 exact Df.cond (λ_=>hj _) λ_=>hj _
theorem IW {N:Nat}(hN:1000<N) (m:List (AG×Bool)) (c:Bool) (a b:ByteArray):∃v,Bk N m c a b=some v:=by
 unfold Bk
 exact Df.bind (Tt hN m a b) λ_ _=>Df.mk _
theorem Tb {N:Nat}(hN:1000<N) {b:AK}(hb:Fi b):Df (Fu N b):=by
 obtain⟨q1,q2,q3,q4,q5,q6,q7,q8⟩:=hb
 have st:∀{σ} (L:Nat) (f:Nat→Int→σ→Option Bool) (kj:σ→Option Bool),L≤128→(∀n (k:Nat) s,L≤k→f (n+1) (k:Int) s=kj s)→(∀n (k:Nat) s,k<L→∃s',f (n+1) (k:Int) s=f n ((k+1:Nat):Int) s')→(∀s,Df (kj s))→∀s,Df (f N 0 s):=λL f kj hL h1 h2 h3 s=>by
  obtain⟨s',_,e⟩:=RO L f kj (λ_=>True) h1 (λn k s _ h=>by obtain⟨s',h'⟩:=h2 n k s h;exact⟨s',trivial,h'⟩) N 0 s trivial (by omega) (Nat.zero_le _)
  obtain⟨v,hv⟩:=h3 s'
  exact⟨v,e.trans hv⟩
 have h13:∀s:Bool×List (AG×Bool),Df (Bs N b (Cr N) N 0 s.1 s.2):=st (σ:=Bool×List (AG×Bool)) b.Roads.length (λn k s=>Bs N b (Cr N) n k s.1 s.2) (λs=>Cr N s.1) (by omega) (λn k s h=>by simp only[Bs];rw[EK h];rfl)
  (λn k s h=>by
   simp only[Bs]
   rw[EJ h,cond_true,Aw h]
   simp only[Option.bind_some]
   obtain⟨v,hv⟩:=IW hN s.2 s.1 (ByteArray.mk #[114,111,97,100]) (b.Roads[k]).Name
   rw[hv]
   simp only[Option.bind_some,Au (show k<4611686018427387904 by omega)]
   exact⟨(v.2,v.1),rfl⟩) (λs=>Df.mk _)
 have h11:∀s:Bool×List (AG×Bool),Df (Bt N b (Cs N b) N 0 s.1 s.2):=st (σ:=Bool×List (AG×Bool)) b.Gauges.length (λn k s=>Bt N b (Cs N b) n k s.1 s.2) (λs=>Cs N b s.1 s.2) (by omega) (λn k s h=>by simp only[Bt];rw[EK h];rfl)
  (λn k s h=>by
   simp only[Bt]
   rw[EJ h,cond_true,Aw h]
   simp only[Option.bind_some]
   obtain⟨v,hv⟩:=IW hN s.2 s.1 (ByteArray.mk #[103,97,117,103,101]) (b.Gauges[k]).Name
   rw[hv]
   simp only[Option.bind_some,Au (show k<4611686018427387904 by omega)]
   exact⟨(v.2,v.1),rfl⟩) (λs=>h13 s)
 have h9:∀s:Bool×List (AG×Bool),Df (B3 N b (C2 N b) N 0 s.1 s.2):=st (σ:=Bool×List (AG×Bool)) b.Shelters.length (λn k s=>B3 N b (C2 N b) n k s.1 s.2) (λs=>C2 N b s.1 s.2) (by omega) (λn k s h=>by simp only[B3];rw[EK h];rfl)
  (λn k s h=>by
   simp only[B3]
   rw[EJ h,cond_true,Aw h]
   simp only[Option.bind_some]
   obtain⟨v,hv⟩:=IW hN s.2 s.1 (ByteArray.mk #[115,104,101,108,116,101,114]) (b.Shelters[k]).Name
   rw[hv]
   simp only[Option.bind_some,Au (show k<4611686018427387904 by omega)]
   exact⟨(v.2,v.1),rfl⟩) (λs=>h11 s)
 have h7:∀s:Bool×List (AG×Bool),Df (B4 N b (C3 N b) N 0 s.1 s.2):=st (σ:=Bool×List (AG×Bool)) b.Towns.length (λn k s=>B4 N b (C3 N b) n k s.1 s.2) (λs=>C3 N b s.1 s.2) (by omega) (λn k s h=>by simp only[B4];rw[EK h];rfl)
  (λn k s h=>by
   simp only[B4]
   rw[EJ h,cond_true,Aw h]
   simp only[Option.bind_some]
   obtain⟨v,hv⟩:=IW hN s.2 s.1 (ByteArray.mk #[116,111,119,110]) (b.Towns[k]).Name
   rw[hv]
   simp only[Option.bind_some,Au (show k<4611686018427387904 by omega)]
   exact⟨(v.2,v.1),rfl⟩) (λs=>h9 s)
 have h5:∀s:Bool×List (AG×Bool),Df (B5 N b (C4 N b) N 0 s.1 s.2):=st (σ:=Bool×List (AG×Bool)) b.Links.length (λn k s=>B5 N b (C4 N b) n k s.1 s.2) (λs=>C4 N b s.1 s.2) (by omega) (λn k s h=>by simp only[B5];rw[EK h];rfl)
  (λn k s h=>by
   simp only[B5]
   rw[EJ h,cond_true,Aw h]
   simp only[Option.bind_some]
   obtain⟨v,hv⟩:=IW hN s.2 s.1 (ByteArray.mk #[108,105,110,107]) (b.Links[k]).Name
   rw[hv]
   simp only[Option.bind_some,Au (show k<4611686018427387904 by omega)]
   exact⟨(v.2,v.1),rfl⟩) (λs=>h7 s)
 have h3:∀s:Bool×List (AG×Bool),Df (B6 N b (C5 N b) N 0 s.1 s.2):=st (σ:=Bool×List (AG×Bool)) b.Places.length (λn k s=>B6 N b (C5 N b) n k s.1 s.2) (λs=>C5 N b s.1 s.2) (by omega) (λn k s h=>by simp only[B6];rw[EK h];rfl)
  (λn k s h=>by
   simp only[B6]
   rw[EJ h,cond_true,Aw h]
   simp only[Option.bind_some]
   obtain⟨v,hv⟩:=IW hN s.2 s.1 (ByteArray.mk #[112,108,97,99,101]) (b.Places[k]).Name
   rw[hv]
   simp only[Option.bind_some,Au (show k<4611686018427387904 by omega)]
   exact⟨(v.2,v.1),rfl⟩) (λs=>h5 s)
 have h1:∀s:Bool×List (AG×Bool),Df (B7 N b (C6 N b) N 0 s.1 s.2):=st (σ:=Bool×List (AG×Bool)) b.Owners.length (λn k s=>B7 N b (C6 N b) n k s.1 s.2) (λs=>C6 N b s.1 s.2) (by omega) (λn k s h=>by simp only[B7];rw[EK h];rfl)
  (λn k s h=>by
   simp only[B7]
   rw[EJ h,cond_true,Aw h]
   simp only[Option.bind_some]
   obtain⟨v,hv⟩:=IW hN s.2 s.1 (ByteArray.mk #[111,119,110,101,114]) (b.Owners[k])
   rw[hv]
   simp only[Option.bind_some,Au (show k<4611686018427387904 by omega)]
   exact⟨(v.2,v.1),rfl⟩) (λs=>h3 s)
 exact h1 (true,[])
end Go.Proofs.YtibidnaedddfdaaGreat
