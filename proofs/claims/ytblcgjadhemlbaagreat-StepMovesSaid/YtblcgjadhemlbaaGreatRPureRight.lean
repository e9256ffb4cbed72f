import Derived.Test.YtblcgjadhemlbaaGreatRPureDiv
namespace Go.Proofs.YtblcgjadhemlbaaGreat
open Go.RowKit
set_option linter.unusedVariables false
set_option linter.unusedSimpArgs false
theorem Ku (b x:Bool):cond b true x=(b||x):=by cases b<;>rfl
theorem OQ (b x:Bool):cond b x false=(b&&x):=by cases b<;>rfl
theorem BF {k:Nat}(h:k<4611686018427387904):BD ((k:Int)+1)=((k+1:Nat):Int):=by rw[EF (by omega) (by omega)];rfl
theorem Ee {k L:Nat}(h:k<L):decide ((k:Int)<(L:Int))=true:=by simp;omega
theorem Eh {k L:Nat}(h:L≤k):decide ((k:Int)<(L:Int))=false:=by simp;omega
theorem IP (L:Nat) (f:Nat→Int→Option Bool) (kj:Option Bool) (P:Nat→Prop) (hstop:∀n (k:Nat),L≤k→f (n+1) (k:Int)=kj) (hstep:∀n (k:Nat),k<L→f (n+1) (k:Int)=some false∨(P k∧f (n+1) (k:Int)=f n ((k+1:Nat):Int))):
  ∀n (k:Nat),L<n+k→k≤L→f n (k:Int)=some false∨((∀i,k≤i→i<L→P i)∧f n (k:Int)=kj)
 |0,k,h,hk=>by omega
 |n+1,k,h,hk=>by
  rcases Nat.lt_or_ge k L with hl|hl
  ·rcases hstep n k hl with h1|⟨h1,h2⟩
   ·exact .inl h1
   ·rcases IP L f kj P hstop hstep n (k+1) (by omega) (by omega) with h3|⟨h3,h4⟩
    ·exact .inl (h2.trans h3)
    ·refine .inr ⟨λi hi hil=>?_,h2.trans h4⟩
     by_cases e:i=k
     ·subst e;exact h1
     ·exact h3 i (by omega) hil
  ·exact .inr ⟨λi hi hil=>by omega,hstop n k hl⟩
theorem UH {σ β:Type}(L:Nat) (f:Nat→Int→σ→Option β) (kj:σ→Option β) (I:σ→Prop) (hstop:∀n (k:Nat) s,L≤k→f (n+1) (k:Int) s=kj s) (hstep:∀n (k:Nat) s,I s→k<L→∃s',I s'∧f (n+1) (k:Int) s=f n ((k+1:Nat):Int) s'):
  ∀n (k:Nat) s,I s→L<n+k→k≤L→∃s',I s'∧f n (k:Int) s=kj s'
 |0,k,s,_,h,hk=>by omega
 |n+1,k,s,hi,h,hk=>by
  rcases Nat.lt_or_ge k L with hl|hl
  ·obtain⟨s1,i1,h1⟩:=hstep n k s hi hl
   obtain⟨s2,i2,h2⟩:=UH L f kj I hstop hstep n (k+1) s1 i1 (by omega) (by omega)
   exact⟨s2,i2,h1.trans h2⟩
  ·exact⟨s,hi,hstop n k s hl⟩
def Q3 (n:Int):Bool:=decide (0≤n)&&decide (n≤1125899906842624)
theorem MK {n:Int}(h:Q3 n=true):Iy n:=by simpa [Q3,Iy] using h
theorem Lb (N:Nat) (n:Int):B7 N n=some (Q3 n):=rfl
def WM (n lo hi:Int):Bool:=decide (lo≤n)&&decide (n≤hi)
theorem NM (N:Nat) (n lo hi:Int):CD N n lo hi=some (WM n lo hi):=rfl
theorem KQ {n lo hi:Int}(h:WM n lo hi=true):lo≤n∧n≤hi:=by simpa [WM] using h
def UP (a b:Int):Bool:=(Q3 a&&Q3 b)&&(decide (b≠0)||decide (a=0))
theorem RY (N:Nat) (a b:Int):Fu N a b=some (UP a b):=by
 simp only[Fu,Lb,Option.bind_some,Fc,OQ,UP]
theorem Mz {a b:Int}(h:UP a b=true):Iy a∧Iy b:=by
 simp only[UP,Bool.and_eq_true] at h
 exact⟨MK h.1.1,MK h.1.2⟩
theorem Ps (N:Nat) (n:Int) {L:Nat}(hL:L<4611686018427387904):EO N n (L:Int)=some (WM n 0 ((L:Int)-1)):=by
 simp only[EO,NM,Option.bind_some]
 rw[EF (by omega) (by omega)]
def SH (L:Nat) (fr to:Int):Bool:=decide (to= -1)||(WM to 0 ((L:Int)-1)&&decide (to≠fr))
theorem Qb (N:Nat) (b:AX) (fr to:Int) (hL:b.Places.length<4611686018427387904):Hs N b fr to=some (SH b.Places.length fr to):=by
 simp only[Hs,Ps N _ hL,Option.bind_some,Fc,Ku,SH]
theorem T1 {L:Nat}{fr to:Int}(h:SH L fr to=true):to= -1∨(0≤to∧to<L):=by
 simp only[SH,Bool.or_eq_true,Bool.and_eq_true,decide_eq_true_eq] at h
 rcases h with h|h
 ·exact .inl h
 ·have:=KQ h.1;exact .inr ⟨this.1,by omega⟩
structure qQ (b:AX):Prop where
 own:b.Owners.length≤16
 cells:0≤b.Cells∧b.Cells≤64
 pl:b.Places.length≤64
 li:b.Links.length≤96
 to:b.Towns.length≤40
 ga:b.Gauges.length≤128
 ro:b.Roads.length≤128
 sh:b.Shelters.length≤40
 own1:1≤b.Owners.length
theorem Rq {s:ByteArray}{k:Nat}(h:k<s.size):∃z,Ue s (k:Int)=some z:=by
 unfold Ue
 rw[if_neg (by omega)]
 simp only[Int.toNat_natCast]
 exact⟨_,by rw[getElem?_pos s k h];rfl⟩
theorem Xy {N:Nat}(hN:1000<N) (b:AX):∃v,HV N b=some v∧(v=true→qQ b):=by
 unfold HV
 simp only[NM,Option.bind_some,Fc,Ku]
 generalize hB:(_|| !WM b.Err 0 1099511627776)=B
 cases B
 ·simp only[Bool.or_eq_false_iff,decide_eq_false_iff_not,Bool.not_eq_false'] at hB
  obtain⟨⟨⟨⟨⟨⟨⟨⟨⟨⟨h1,h2⟩,h3⟩,h4⟩,h5⟩,h6⟩,h7⟩,h8⟩,h9⟩,h10⟩,h11⟩:=hB
  have g2:=KQ h2
  have g3:=KQ h3
  have g4:=KQ h4
  have hok:qQ b:=⟨by omega,by omega,by omega,by omega,by omega,by omega,by omega,by omega,by omega⟩
  simp only[cond_false]
  have hroom:∃v,Dj N b=some v:=by
   unfold Dj
   rcases IP b.Room.length (Dh N b (qZ N)) (qZ N) (λ_=>True) (λn k h=>by
    simp only[Dh];rw[Eh h];rfl) (λn k h=>by
    simp only[Dh]
    rw[Ee h,cond_true,BI h]
    simp only[Option.bind_some,Lb,BF (show k<4611686018427387904 by omega)]
    cases Q3 b.Room[k]
    ·exact .inl rfl
    ·exact .inr ⟨trivial,rfl⟩) N 0 (by omega) (Nat.zero_le _) with h|⟨_,h⟩
   ·exact⟨_,h⟩
   ·exact⟨true,h⟩
  rcases IP b.Name.size (Di N b (Dj N b)) (Dj N b) (λ_=>True) (λn k h=>by
    simp only[Di];rw[Eh h];rfl) (λn k h=>by
    simp only[Di]
    obtain⟨z,hz⟩:=Rq h
    rw[Ee h,cond_true,hz]
    simp only[Option.bind_some,BF (show k<4611686018427387904 by omega)]
    cases (decide (z<32)||decide (126<z)||decide (z=34)||decide (z=92))
    ·exact .inr ⟨trivial,rfl⟩
    ·exact .inl rfl) N 0 (by omega) (Nat.zero_le _) with h|⟨_,h⟩
  ·exact⟨false,h,λh=>by cases h⟩
  ·obtain⟨v,hv⟩:=hroom
   exact⟨v,h.trans hv,λ_=>hok⟩
 ·exact⟨false,rfl,λh=>by cases h⟩
theorem VB {N:Nat}(hN:1000<N) (s:ByteArray):Df (Ii N s):=by
 unfold Ii
 cases hB:(decide ((s.size:Int)<1)||decide (24<(s.size:Int))||s==ByteArray.mk #[111,117,116])
 ·simp only[Bool.or_eq_false_iff,decide_eq_false_iff_not] at hB
  obtain⟨z,hz⟩:=Rq (s:=s) (k:=0) (by omega)
  have hz':Ue s 0=some z:=hz
  simp only[cond_false,hz',Option.bind_some,Fc,Ku]
  refine Df.cond (λ_=>Df.mk _) λ_=>?_
  rcases IP s.size (Ep N s (GP N)) (GP N) (λ_=>True) (λn k h=>by
    simp only[Ep];rw[Eh h];rfl) (λn k h=>by
    simp only[Ep]
    obtain⟨z,hz⟩:=Rq h
    rw[Ee h,cond_true,hz]
    simp only[Option.bind_some,BF (show k<4611686018427387904 by omega)]
    cases (((decide (z<97)||decide (122<z))&&(decide (z<48)||decide (57<z)))&&decide (z≠95))
    ·exact .inr ⟨trivial,rfl⟩
    ·exact .inl rfl) N 1 (by omega) (by omega) with h|⟨_,h⟩
  ·exact⟨_,h⟩
  ·exact⟨_,h⟩
 ·simp only[cond_true,Option.bind_some]
  exact Df.mk _
theorem WQ {N:Nat}(hN:1000<N) (m:List (AT×Bool)) (a b:ByteArray):Df (JA N m a b):=by
 have hj:∀s,Df (Gr N m b s):=λs=>by
  unfold Gr
  exact Df.bind (VB hN b) λ_ _=>Df.cond (λ_=>Df.mk _) λ_=>Df.mk _
 unfold JA
 exact Df.cond (λ_=>hj _) λ_=>hj _
theorem Kv {N:Nat}(hN:1000<N) (m:List (AT×Bool)) (c:Bool) (a b:ByteArray):∃v,CV N m c a b=some v:=by
 unfold CV
 exact Df.bind (WQ hN m a b) λ_ _=>Df.mk _
theorem V9 {N:Nat}(hN:1000<N) {b:AX}(hb:qQ b):Df (H5 N b):=by
 obtain⟨q1,q2,q3,q4,q5,q6,q7,q8⟩:=hb
 have st:∀{σ} (L:Nat) (f:Nat→Int→σ→Option Bool) (kj:σ→Option Bool),L≤128→(∀n (k:Nat) s,L≤k→f (n+1) (k:Int) s=kj s)→(∀n (k:Nat) s,k<L→∃s',f (n+1) (k:Int) s=f n ((k+1:Nat):Int) s')→(∀s,Df (kj s))→∀s,Df (f N 0 s):=λL f kj hL h1 h2 h3 s=>by
  obtain⟨s',_,e⟩:=UH L f kj (λ_=>True) h1 (λn k s _ h=>by obtain⟨s',h'⟩:=h2 n k s h;exact⟨s',trivial,h'⟩) N 0 s trivial (by omega) (Nat.zero_le _)
  obtain⟨v,hv⟩:=h3 s'
  exact⟨v,e.trans hv⟩
 have h13:∀s:Bool×List (AT×Bool),Df (Ce N b (Dq N) N 0 s.1 s.2):=st (σ:=Bool×List (AT×Bool)) b.Roads.length (λn k s=>Ce N b (Dq N) n k s.1 s.2) (λs=>Dq N s.1) (by omega) (λn k s h=>by simp only[Ce];rw[Eh h];rfl)
  (λn k s h=>by
   simp only[Ce]
   rw[Ee h,cond_true,BI h]
   simp only[Option.bind_some]
   obtain⟨v,hv⟩:=Kv hN s.2 s.1 (ByteArray.mk #[114,111,97,100]) (b.Roads[k]).Name
   rw[hv]
   simp only[Option.bind_some,BF (show k<4611686018427387904 by omega)]
   exact⟨(v.2,v.1),rfl⟩) (λs=>Df.mk _)
 have h11:∀s:Bool×List (AT×Bool),Df (Cf N b (Dr N b) N 0 s.1 s.2):=st (σ:=Bool×List (AT×Bool)) b.Gauges.length (λn k s=>Cf N b (Dr N b) n k s.1 s.2) (λs=>Dr N b s.1 s.2) (by omega) (λn k s h=>by simp only[Cf];rw[Eh h];rfl)
  (λn k s h=>by
   simp only[Cf]
   rw[Ee h,cond_true,BI h]
   simp only[Option.bind_some]
   obtain⟨v,hv⟩:=Kv hN s.2 s.1 (ByteArray.mk #[103,97,117,103,101]) (b.Gauges[k]).Name
   rw[hv]
   simp only[Option.bind_some,BF (show k<4611686018427387904 by omega)]
   exact⟨(v.2,v.1),rfl⟩) (λs=>h13 s)
 have h9:∀s:Bool×List (AT×Bool),Df (Cq N b (D5 N b) N 0 s.1 s.2):=st (σ:=Bool×List (AT×Bool)) b.Shelters.length (λn k s=>Cq N b (D5 N b) n k s.1 s.2) (λs=>D5 N b s.1 s.2) (by omega) (λn k s h=>by simp only[Cq];rw[Eh h];rfl)
  (λn k s h=>by
   simp only[Cq]
   rw[Ee h,cond_true,BI h]
   simp only[Option.bind_some]
   obtain⟨v,hv⟩:=Kv hN s.2 s.1 (ByteArray.mk #[115,104,101,108,116,101,114]) (b.Shelters[k]).Name
   rw[hv]
   simp only[Option.bind_some,BF (show k<4611686018427387904 by omega)]
   exact⟨(v.2,v.1),rfl⟩) (λs=>h11 s)
 have h7:∀s:Bool×List (AT×Bool),Df (Cr N b (D6 N b) N 0 s.1 s.2):=st (σ:=Bool×List (AT×Bool)) b.Towns.length (λn k s=>Cr N b (D6 N b) n k s.1 s.2) (λs=>D6 N b s.1 s.2) (by omega) (λn k s h=>by simp only[Cr];rw[Eh h];rfl)
  (λn k s h=>by
   simp only[Cr]
   rw[Ee h,cond_true,BI h]
   simp only[Option.bind_some]
   obtain⟨v,hv⟩:=Kv hN s.2 s.1 (ByteArray.mk #[116,111,119,110]) (b.Towns[k]).Name
   rw[hv]
   simp only[Option.bind_some,BF (show k<4611686018427387904 by omega)]
   exact⟨(v.2,v.1),rfl⟩) (λs=>h9 s)
 have h5:∀s:Bool×List (AT×Bool),Df (Cs N b (D7 N b) N 0 s.1 s.2):=st (σ:=Bool×List (AT×Bool)) b.Links.length (λn k s=>Cs N b (D7 N b) n k s.1 s.2) (λs=>D7 N b s.1 s.2) (by omega) (λn k s h=>by simp only[Cs];rw[Eh h];rfl)
  (λn k s h=>by
   simp only[Cs]
   rw[Ee h,cond_true,BI h]
   simp only[Option.bind_some]
   obtain⟨v,hv⟩:=Kv hN s.2 s.1 (ByteArray.mk #[108,105,110,107]) (b.Links[k]).Name
   rw[hv]
   simp only[Option.bind_some,BF (show k<4611686018427387904 by omega)]
   exact⟨(v.2,v.1),rfl⟩) (λs=>h7 s)
 have h3:∀s:Bool×List (AT×Bool),Df (Ct N b (D8 N b) N 0 s.1 s.2):=st (σ:=Bool×List (AT×Bool)) b.Places.length (λn k s=>Ct N b (D8 N b) n k s.1 s.2) (λs=>D8 N b s.1 s.2) (by omega) (λn k s h=>by simp only[Ct];rw[Eh h];rfl)
  (λn k s h=>by
   simp only[Ct]
   rw[Ee h,cond_true,BI h]
   simp only[Option.bind_some]
   obtain⟨v,hv⟩:=Kv hN s.2 s.1 (ByteArray.mk #[112,108,97,99,101]) (b.Places[k]).Name
   rw[hv]
   simp only[Option.bind_some,BF (show k<4611686018427387904 by omega)]
   exact⟨(v.2,v.1),rfl⟩) (λs=>h5 s)
 have h1:∀s:Bool×List (AT×Bool),Df (Cu N b (D9 N b) N 0 s.1 s.2):=st (σ:=Bool×List (AT×Bool)) b.Owners.length (λn k s=>Cu N b (D9 N b) n k s.1 s.2) (λs=>D9 N b s.1 s.2) (by omega) (λn k s h=>by simp only[Cu];rw[Eh h];rfl)
  (λn k s h=>by
   simp only[Cu]
   rw[Ee h,cond_true,BI h]
   simp only[Option.bind_some]
   obtain⟨v,hv⟩:=Kv hN s.2 s.1 (ByteArray.mk #[111,119,110,101,114]) (b.Owners[k])
   rw[hv]
   simp only[Option.bind_some,BF (show k<4611686018427387904 by omega)]
   exact⟨(v.2,v.1),rfl⟩) (λs=>h3 s)
 exact h1 (true,[])
end Go.Proofs.YtblcgjadhemlbaaGreat
