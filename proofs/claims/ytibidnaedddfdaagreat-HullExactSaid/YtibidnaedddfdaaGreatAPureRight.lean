import Derived.Test.YtibidnaedddfdaaGreatAPureDiv
namespace Go.Proofs.YtibidnaedddfdaaGreat
open Go.RowKit
set_option linter.unusedVariables false
set_option linter.unusedSimpArgs false
theorem JQ (b x:Bool):cond b true x=(b||x):=by cases b<;>rfl
theorem Js (b x:Bool):cond b x false=(b&&x):=by cases b<;>rfl
theorem Az {k:Nat}(h:k<4611686018427387904):Ar ((k:Int)+1)=((k+1:Nat):Int):=by rw[E6 (by omega) (by omega)];rfl
theorem EN {k L:Nat}(h:k<L):decide ((k:Int)<(L:Int))=true:=by simp;omega
theorem EO {k L:Nat}(h:L≤k):decide ((k:Int)<(L:Int))=false:=by simp;omega
theorem Fm (L:Nat) (f:Nat→Int→Option Bool) (kj:Option Bool) (P:Nat→Prop) (hstop:∀n (k:Nat),L≤k→f (n+1) (k:Int)=kj) (hstep:∀n (k:Nat),k<L→f (n+1) (k:Int)=some false∨(P k∧f (n+1) (k:Int)=f n ((k+1:Nat):Int))):
  ∀n (k:Nat),L<n+k→k≤L→f n (k:Int)=some false∨((∀i,k≤i→i<L→P i)∧f n (k:Int)=kj)
 |0,k,h,hk=>by omega
 |n+1,k,h,hk=>by
  rcases Nat.lt_or_ge k L with hl|hl
  ·rcases hstep n k hl with h1|⟨h1,h2⟩
   ·exact .inl h1
   ·rcases Fm L f kj P hstop hstep n (k+1) (by omega) (by omega) with h3|⟨h3,h4⟩
    ·exact .inl (h2.trans h3)
    ·refine .inr ⟨λi hi hil=>?_,h2.trans h4⟩
     by_cases e:i=k
     ·subst e;exact h1
     ·exact h3 i (by omega) hil
  ·exact .inr ⟨λi hi hil=>by omega,hstop n k hl⟩
theorem Qy {σ β:Type}(L:Nat) (f:Nat→Int→σ→Option β) (kj:σ→Option β) (I:σ→Prop) (hstop:∀n (k:Nat) s,L≤k→f (n+1) (k:Int) s=kj s) (hstep:∀n (k:Nat) s,I s→k<L→∃s',I s'∧f (n+1) (k:Int) s=f n ((k+1:Nat):Int) s'):
  ∀n (k:Nat) s,I s→L<n+k→k≤L→∃s',I s'∧f n (k:Int) s=kj s'
 |0,k,s,_,h,hk=>by omega
 |n+1,k,s,hi,h,hk=>by
  rcases Nat.lt_or_ge k L with hl|hl
  ·obtain⟨s1,i1,h1⟩:=hstep n k s hi hl
   obtain⟨s2,i2,h2⟩:=Qy L f kj I hstop hstep n (k+1) s1 i1 (by omega) (by omega)
   exact⟨s2,i2,h1.trans h2⟩
  ·exact⟨s,hi,hstop n k s hl⟩
def OX (n:Int):Bool:=decide (0≤n)&&decide (n≤1125899906842624)
theorem Kb {n:Int}(h:OX n=true):G3 n:=by simpa [OX,G3] using h
theorem Je (N:Nat) (n:Int):BC N n=some (OX n):=rfl
def Sy (n lo hi:Int):Bool:=decide (lo≤n)&&decide (n≤hi)
theorem Lb (N:Nat) (n lo hi:Int):BF N n lo hi=some (Sy n lo hi):=rfl
theorem IR {n lo hi:Int}(h:Sy n lo hi=true):lo≤n∧n≤hi:=by simpa [Sy] using h
def Q3 (a b:Int):Bool:=(OX a&&OX b)&&(decide (b≠0)||decide (a=0))
theorem Oq (N:Nat) (a b:Int):EB N a b=some (Q3 a b):=by
 simp only[EB,Je,Option.bind_some,C2,Js,Q3]
theorem LC {a b:Int}(h:Q3 a b=true):G3 a∧G3 b:=by
 simp only[Q3,Bool.and_eq_true] at h
 exact⟨Kb h.1.1,Kb h.1.2⟩
theorem Nc (N:Nat) (n:Int) {L:Nat}(hL:L<4611686018427387904):Cr N n (L:Int)=some (Sy n 0 ((L:Int)-1)):=by
 simp only[Cr,Lb,Option.bind_some]
 rw[E6 (by omega) (by omega)]
def PU (L:Nat) (fr to:Int):Bool:=decide (to= -1)||(Sy to 0 ((L:Int)-1)&&decide (to≠fr))
theorem OE (N:Nat) (b:AJ) (fr to:Int) (hL:b.Places.length<4611686018427387904):F5 N b fr to=some (PU b.Places.length fr to):=by
 simp only[F5,Nc N _ hL,Option.bind_some,C2,JQ,PU]
theorem Qo {L:Nat}{fr to:Int}(h:PU L fr to=true):to= -1∨(0≤to∧to<L):=by
 simp only[PU,Bool.or_eq_true,Bool.and_eq_true,decide_eq_true_eq] at h
 rcases h with h|h
 ·exact .inl h
 ·have:=IR h.1;exact .inr ⟨this.1,by omega⟩
structure FE (b:AJ):Prop where
 own:b.Owners.length≤16
 cells:0≤b.Cells∧b.Cells≤64
 pl:b.Places.length≤64
 li:b.Links.length≤96
 to:b.Towns.length≤40
 ga:b.Gauges.length≤128
 ro:b.Roads.length≤128
 sh:b.Shelters.length≤40
theorem O8 {s:ByteArray}{k:Nat}(h:k<s.size):∃z,RJ s (k:Int)=some z:=by
 unfold RJ
 rw[if_neg (by omega)]
 simp only[Int.toNat_natCast]
 exact⟨_,by rw[getElem?_pos s k h];rfl⟩
theorem Ug {N:Nat}(hN:1000<N) (b:AJ):∃v,Ff N b=some v∧(v=true→FE b):=by
 unfold Ff
 simp only[Lb,Option.bind_some,C2,JQ]
 generalize hB:(_|| !Sy b.Err 0 1099511627776)=B
 cases B
 ·simp only[Bool.or_eq_false_iff,decide_eq_false_iff_not,Bool.not_eq_false'] at hB
  obtain⟨⟨⟨⟨⟨⟨⟨⟨⟨⟨h1,h2⟩,h3⟩,h4⟩,h5⟩,h6⟩,h7⟩,h8⟩,h9⟩,h10⟩,h11⟩:=hB
  have g2:=IR h2
  have g3:=IR h3
  have g4:=IR h4
  have hok:FE b:=⟨by omega,by omega,by omega,by omega,by omega,by omega,by omega,by omega⟩
  simp only[cond_false]
  have hroom:∃v,CG N b=some v:=by
   unfold CG
   rcases Fm b.Room.length (CE N b (Di N)) (Di N) (λ_=>True) (λn k h=>by
    simp only[CE];rw[EO h];rfl) (λn k h=>by
    simp only[CE]
    rw[EN h,cond_true,A9 h]
    simp only[Option.bind_some,Je,Az (show k<4611686018427387904 by omega)]
    cases OX b.Room[k]
    ·exact .inl rfl
    ·exact .inr ⟨trivial,rfl⟩) N 0 (by omega) (Nat.zero_le _) with h|⟨_,h⟩
   ·exact⟨_,h⟩
   ·exact⟨true,h⟩
  rcases Fm b.Name.size (CF N b (CG N b)) (CG N b) (λ_=>True) (λn k h=>by
    simp only[CF];rw[EO h];rfl) (λn k h=>by
    simp only[CF]
    obtain⟨z,hz⟩:=O8 h
    rw[EN h,cond_true,hz]
    simp only[Option.bind_some,Az (show k<4611686018427387904 by omega)]
    cases (decide (z<32)||decide (126<z)||decide (z=34)||decide (z=92))
    ·exact .inr ⟨trivial,rfl⟩
    ·exact .inl rfl) N 0 (by omega) (Nat.zero_le _) with h|⟨_,h⟩
  ·exact⟨false,h,λh=>by cases h⟩
  ·obtain⟨v,hv⟩:=hroom
   exact⟨v,h.trans hv,λ_=>hok⟩
 ·exact⟨false,rfl,λh=>by cases h⟩
theorem Rm {N:Nat}(hN:1000<N) (s:ByteArray):Df (Gm N s):=by
 unfold Gm
 cases hB:(decide ((s.size:Int)<1)||decide (24<(s.size:Int))||s==ByteArray.mk #[111,117,116])
 ·simp only[Bool.or_eq_false_iff,decide_eq_false_iff_not] at hB
  obtain⟨z,hz⟩:=O8 (s:=s) (k:=0) (by omega)
  have hz':RJ s 0=some z:=hz
  simp only[cond_false,hz',Option.bind_some,C2,JQ]
  refine Df.cond (λ_=>Df.mk _) λ_=>?_
  rcases Fm s.size (C8 N s (Ej N)) (Ej N) (λ_=>True) (λn k h=>by
    simp only[C8];rw[EO h];rfl) (λn k h=>by
    simp only[C8]
    obtain⟨z,hz⟩:=O8 h
    rw[EN h,cond_true,hz]
    simp only[Option.bind_some,Az (show k<4611686018427387904 by omega)]
    cases (((decide (z<97)||decide (122<z))&&(decide (z<48)||decide (57<z)))&&decide (z≠95))
    ·exact .inr ⟨trivial,rfl⟩
    ·exact .inl rfl) N 1 (by omega) (by omega) with h|⟨_,h⟩
  ·exact⟨_,h⟩
  ·exact⟨_,h⟩
 ·simp only[cond_true,Option.bind_some]
  exact Df.mk _
theorem TC {N:Nat}(hN:1000<N) (m:List (AG×Bool)) (a b:ByteArray):Df (HC N m a b):=by
 have hj:∀s,Df (E5 N m b s):=λs=>by
  unfold E5
  exact Df.bind (Rm hN b) λ_ _=>Df.cond (λ_=>Df.mk _) λ_=>Df.mk _
 unfold HC
 exact Df.cond (λ_=>hj _) λ_=>hj _
theorem Ix {N:Nat}(hN:1000<N) (m:List (AG×Bool)) (c:Bool) (a b:ByteArray):∃v,BR N m c a b=some v:=by
 unfold BR
 exact Df.bind (TC hN m a b) λ_ _=>Df.mk _
theorem Sn {N:Nat}(hN:1000<N) {b:AJ}(hb:FE b):Df (GC N b):=by
 obtain⟨q1,q2,q3,q4,q5,q6,q7,q8⟩:=hb
 have st:∀{σ} (L:Nat) (f:Nat→Int→σ→Option Bool) (kj:σ→Option Bool),L≤128→(∀n (k:Nat) s,L≤k→f (n+1) (k:Int) s=kj s)→(∀n (k:Nat) s,k<L→∃s',f (n+1) (k:Int) s=f n ((k+1:Nat):Int) s')→(∀s,Df (kj s))→∀s,Df (f N 0 s):=λL f kj hL h1 h2 h3 s=>by
  obtain⟨s',_,e⟩:=Qy L f kj (λ_=>True) h1 (λn k s _ h=>by obtain⟨s',h'⟩:=h2 n k s h;exact⟨s',trivial,h'⟩) N 0 s trivial (by omega) (Nat.zero_le _)
  obtain⟨v,hv⟩:=h3 s'
  exact⟨v,e.trans hv⟩
 have h13:∀s:Bool×List (AG×Bool),Df (BW N b (CO N) N 0 s.1 s.2):=st (σ:=Bool×List (AG×Bool)) b.Roads.length (λn k s=>BW N b (CO N) n k s.1 s.2) (λs=>CO N s.1) (by omega) (λn k s h=>by simp only[BW];rw[EO h];rfl)
  (λn k s h=>by
   simp only[BW]
   rw[EN h,cond_true,A9 h]
   simp only[Option.bind_some]
   obtain⟨v,hv⟩:=Ix hN s.2 s.1 (ByteArray.mk #[114,111,97,100]) (b.Roads[k]).Name
   rw[hv]
   simp only[Option.bind_some,Az (show k<4611686018427387904 by omega)]
   exact⟨(v.2,v.1),rfl⟩) (λs=>Df.mk _)
 have h11:∀s:Bool×List (AG×Bool),Df (BX N b (CP N b) N 0 s.1 s.2):=st (σ:=Bool×List (AG×Bool)) b.Gauges.length (λn k s=>BX N b (CP N b) n k s.1 s.2) (λs=>CP N b s.1 s.2) (by omega) (λn k s h=>by simp only[BX];rw[EO h];rfl)
  (λn k s h=>by
   simp only[BX]
   rw[EN h,cond_true,A9 h]
   simp only[Option.bind_some]
   obtain⟨v,hv⟩:=Ix hN s.2 s.1 (ByteArray.mk #[103,97,117,103,101]) (b.Gauges[k]).Name
   rw[hv]
   simp only[Option.bind_some,Az (show k<4611686018427387904 by omega)]
   exact⟨(v.2,v.1),rfl⟩) (λs=>h13 s)
 have h9:∀s:Bool×List (AG×Bool),Df (Bb N b (CZ N b) N 0 s.1 s.2):=st (σ:=Bool×List (AG×Bool)) b.Shelters.length (λn k s=>Bb N b (CZ N b) n k s.1 s.2) (λs=>CZ N b s.1 s.2) (by omega) (λn k s h=>by simp only[Bb];rw[EO h];rfl)
  (λn k s h=>by
   simp only[Bb]
   rw[EN h,cond_true,A9 h]
   simp only[Option.bind_some]
   obtain⟨v,hv⟩:=Ix hN s.2 s.1 (ByteArray.mk #[115,104,101,108,116,101,114]) (b.Shelters[k]).Name
   rw[hv]
   simp only[Option.bind_some,Az (show k<4611686018427387904 by omega)]
   exact⟨(v.2,v.1),rfl⟩) (λs=>h11 s)
 have h7:∀s:Bool×List (AG×Bool),Df (Bc N b (Ca N b) N 0 s.1 s.2):=st (σ:=Bool×List (AG×Bool)) b.Towns.length (λn k s=>Bc N b (Ca N b) n k s.1 s.2) (λs=>Ca N b s.1 s.2) (by omega) (λn k s h=>by simp only[Bc];rw[EO h];rfl)
  (λn k s h=>by
   simp only[Bc]
   rw[EN h,cond_true,A9 h]
   simp only[Option.bind_some]
   obtain⟨v,hv⟩:=Ix hN s.2 s.1 (ByteArray.mk #[116,111,119,110]) (b.Towns[k]).Name
   rw[hv]
   simp only[Option.bind_some,Az (show k<4611686018427387904 by omega)]
   exact⟨(v.2,v.1),rfl⟩) (λs=>h9 s)
 have h5:∀s:Bool×List (AG×Bool),Df (Bd N b (Cb N b) N 0 s.1 s.2):=st (σ:=Bool×List (AG×Bool)) b.Links.length (λn k s=>Bd N b (Cb N b) n k s.1 s.2) (λs=>Cb N b s.1 s.2) (by omega) (λn k s h=>by simp only[Bd];rw[EO h];rfl)
  (λn k s h=>by
   simp only[Bd]
   rw[EN h,cond_true,A9 h]
   simp only[Option.bind_some]
   obtain⟨v,hv⟩:=Ix hN s.2 s.1 (ByteArray.mk #[108,105,110,107]) (b.Links[k]).Name
   rw[hv]
   simp only[Option.bind_some,Az (show k<4611686018427387904 by omega)]
   exact⟨(v.2,v.1),rfl⟩) (λs=>h7 s)
 have h3:∀s:Bool×List (AG×Bool),Df (Be N b (Cc N b) N 0 s.1 s.2):=st (σ:=Bool×List (AG×Bool)) b.Places.length (λn k s=>Be N b (Cc N b) n k s.1 s.2) (λs=>Cc N b s.1 s.2) (by omega) (λn k s h=>by simp only[Be];rw[EO h];rfl)
  (λn k s h=>by
   simp only[Be]
   rw[EN h,cond_true,A9 h]
   simp only[Option.bind_some]
   obtain⟨v,hv⟩:=Ix hN s.2 s.1 (ByteArray.mk #[112,108,97,99,101]) (b.Places[k]).Name
   rw[hv]
   simp only[Option.bind_some,Az (show k<4611686018427387904 by omega)]
   exact⟨(v.2,v.1),rfl⟩) (λs=>h5 s)
 have h1:∀s:Bool×List (AG×Bool),Df (Bf N b (Cd N b) N 0 s.1 s.2):=st (σ:=Bool×List (AG×Bool)) b.Owners.length (λn k s=>Bf N b (Cd N b) n k s.1 s.2) (λs=>Cd N b s.1 s.2) (by omega) (λn k s h=>by simp only[Bf];rw[EO h];rfl)
  (λn k s h=>by
   simp only[Bf]
   rw[EN h,cond_true,A9 h]
   simp only[Option.bind_some]
   obtain⟨v,hv⟩:=Ix hN s.2 s.1 (ByteArray.mk #[111,119,110,101,114]) (b.Owners[k])
   rw[hv]
   simp only[Option.bind_some,Az (show k<4611686018427387904 by omega)]
   exact⟨(v.2,v.1),rfl⟩) (λs=>h3 s)
 exact h1 (true,[])
end Go.Proofs.YtibidnaedddfdaaGreat
