import Derived.Test.YtibidnaedddfdaaGreatCPureDiv2
namespace Go.Proofs.YtibidnaedddfdaaGreat
open Go.RowKit
set_option linter.unusedVariables false
set_option linter.unusedSimpArgs false
theorem Hc (b x:Bool):cond b true x=(b||x):=by cases b<;>rfl
theorem MO (b x:Bool):cond b x false=(b&&x):=by cases b<;>rfl
theorem Ae {k:Nat}(h:k<4611686018427387904):Aw ((k:Int)+1)=((k+1:Nat):Int):=by rw[B1 (by omega) (by omega)];rfl
theorem D9 {k L:Nat}(h:k<L):decide ((k:Int)<(L:Int))=true:=by simp;omega
theorem EA {k L:Nat}(h:L≤k):decide ((k:Int)<(L:Int))=false:=by simp;omega
theorem EN (L:Nat) (f:Nat→Int→Option Bool) (kj:Option Bool) (P:Nat→Prop) (hstop:∀n (k:Nat),L≤k→f (n+1) (k:Int)=kj) (hstep:∀n (k:Nat),k<L→f (n+1) (k:Int)=some false∨(P k∧f (n+1) (k:Int)=f n ((k+1:Nat):Int))):
  ∀n (k:Nat),L<n+k→k≤L→f n (k:Int)=some false∨((∀i,k≤i→i<L→P i)∧f n (k:Int)=kj)
 |0,k,h,hk=>by omega
 |n+1,k,h,hk=>by
  rcases Nat.lt_or_ge k L with hl|hl
  ·rcases hstep n k hl with h1|⟨h1,h2⟩
   ·exact .inl h1
   ·rcases EN L f kj P hstop hstep n (k+1) (by omega) (by omega) with h3|⟨h3,h4⟩
    ·exact .inl (h2.trans h3)
    ·refine .inr ⟨λi hi hil=>?_,h2.trans h4⟩
     by_cases e:i=k
     ·subst e;exact h1
     ·exact h3 i (by omega) hil
  ·exact .inr ⟨λi hi hil=>by omega,hstop n k hl⟩
theorem Re {σ β:Type}(L:Nat) (f:Nat→Int→σ→Option β) (kj:σ→Option β) (I:σ→Prop) (hstop:∀n (k:Nat) s,L≤k→f (n+1) (k:Int) s=kj s) (hstep:∀n (k:Nat) s,I s→k<L→∃s',I s'∧f (n+1) (k:Int) s=f n ((k+1:Nat):Int) s'):
  ∀n (k:Nat) s,I s→L<n+k→k≤L→∃s',I s'∧f n (k:Int) s=kj s'
 |0,k,s,_,h,hk=>by omega
 |n+1,k,s,hi,h,hk=>by
  rcases Nat.lt_or_ge k L with hl|hl
  ·obtain⟨s1,i1,h1⟩:=hstep n k s hi hl
   obtain⟨s2,i2,h2⟩:=Re L f kj I hstop hstep n (k+1) s1 i1 (by omega) (by omega)
   exact⟨s2,i2,h1.trans h2⟩
  ·exact⟨s,hi,hstop n k s hl⟩
def Og (n:Int):Bool:=decide (0≤n)&&decide (n≤1125899906842624)
theorem HT {n:Int}(h:Og n=true):FB n:=by simpa [Og,FB] using h
theorem IK (N:Nat) (n:Int):BG N n=some (Og n):=rfl
def Tu (n lo hi:Int):Bool:=decide (lo≤n)&&decide (n≤hi)
theorem I7 (N:Nat) (n lo hi:Int):BQ N n lo hi=some (Tu n lo hi):=rfl
theorem G7 {n lo hi:Int}(h:Tu n lo hi=true):lo≤n∧n≤hi:=by simpa [Tu] using h
def OO (a b:Int):Bool:=(Og a&&Og b)&&(decide (b≠0)||decide (a=0))
theorem Lp (N:Nat) (a b:Int):EU N a b=some (OO a b):=by
 simp only[EU,IK,Option.bind_some,Dp,MO,OO]
theorem Kb {a b:Int}(h:OO a b=true):FB a∧FB b:=by
 simp only[OO,Bool.and_eq_true] at h
 exact⟨HT h.1.1,HT h.1.2⟩
theorem Lm (N:Nat) (n:Int) {L:Nat}(hL:L<4611686018427387904):DR N n (L:Int)=some (Tu n 0 ((L:Int)-1)):=by
 simp only[DR,I7,Option.bind_some]
 rw[B1 (by omega) (by omega)]
def PW (L:Nat) (fr to:Int):Bool:=decide (to= -1)||(Tu to 0 ((L:Int)-1)&&decide (to≠fr))
theorem MF (N:Nat) (b:AJ) (fr to:Int) (hL:b.Places.length<4611686018427387904):Fu N b fr to=some (PW b.Places.length fr to):=by
 simp only[Fu,Lm N _ hL,Option.bind_some,Dp,Hc,PW]
theorem RK {L:Nat}{fr to:Int}(h:PW L fr to=true):to= -1∨(0≤to∧to<L):=by
 simp only[PW,Bool.or_eq_true,Bool.and_eq_true,decide_eq_true_eq] at h
 rcases h with h|h
 ·exact .inl h
 ·have:=G7 h.1;exact .inr ⟨this.1,by omega⟩
structure Fy (b:AJ):Prop where
 own:b.Owners.length≤16
 cells:0≤b.Cells∧b.Cells≤64
 pl:b.Places.length≤64
 li:b.Links.length≤96
 to:b.Towns.length≤40
 ga:b.Gauges.length≤128
 ro:b.Roads.length≤128
 sh:b.Shelters.length≤40
theorem PF {s:ByteArray}{k:Nat}(h:k<s.size):∃z,R5 s (k:Int)=some z:=by
 unfold R5
 rw[if_neg (by omega)]
 simp only[Int.toNat_natCast]
 exact⟨_,by rw[getElem?_pos s k h];rfl⟩
theorem Vj {N:Nat}(hN:1000<N) (b:AJ):∃v,FW N b=some v∧(v=true→Fy b):=by
 unfold FW
 simp only[I7,Option.bind_some,Dp,Hc]
 generalize hB:(_|| !Tu b.Err 0 1099511627776)=B
 cases B
 ·simp only[Bool.or_eq_false_iff,decide_eq_false_iff_not,Bool.not_eq_false'] at hB
  obtain⟨⟨⟨⟨⟨⟨⟨⟨⟨⟨h1,h2⟩,h3⟩,h4⟩,h5⟩,h6⟩,h7⟩,h8⟩,h9⟩,h10⟩,h11⟩:=hB
  have g2:=G7 h2
  have g3:=G7 h3
  have g4:=G7 h4
  have hok:Fy b:=⟨by omega,by omega,by omega,by omega,by omega,by omega,by omega,by omega⟩
  simp only[cond_false]
  have hroom:∃v,Ck N b=some v:=by
   unfold Ck
   rcases EN b.Room.length (Ci N b (D6 N)) (D6 N) (λ_=>True) (λn k h=>by
    simp only[Ci];rw[EA h];rfl) (λn k h=>by
    simp only[Ci]
    rw[D9 h,cond_true,Al h]
    simp only[Option.bind_some,IK,Ae (show k<4611686018427387904 by omega)]
    cases Og b.Room[k]
    ·exact .inl rfl
    ·exact .inr ⟨trivial,rfl⟩) N 0 (by omega) (Nat.zero_le _) with h|⟨_,h⟩
   ·exact⟨_,h⟩
   ·exact⟨true,h⟩
  rcases EN b.Name.size (Cj N b (Ck N b)) (Ck N b) (λ_=>True) (λn k h=>by
    simp only[Cj];rw[EA h];rfl) (λn k h=>by
    simp only[Cj]
    obtain⟨z,hz⟩:=PF h
    rw[D9 h,cond_true,hz]
    simp only[Option.bind_some,Ae (show k<4611686018427387904 by omega)]
    cases (decide (z<32)||decide (126<z)||decide (z=34)||decide (z=92))
    ·exact .inr ⟨trivial,rfl⟩
    ·exact .inl rfl) N 0 (by omega) (Nat.zero_le _) with h|⟨_,h⟩
  ·exact⟨false,h,λh=>by cases h⟩
  ·obtain⟨v,hv⟩:=hroom
   exact⟨v,h.trans hv,λ_=>hok⟩
 ·exact⟨false,rfl,λh=>by cases h⟩
theorem SW {N:Nat}(hN:1000<N) (s:ByteArray):Df (Gc N s):=by
 unfold Gc
 cases hB:(decide ((s.size:Int)<1)||decide (24<(s.size:Int))||s==ByteArray.mk #[111,117,116])
 ·simp only[Bool.or_eq_false_iff,decide_eq_false_iff_not] at hB
  obtain⟨z,hz⟩:=PF (s:=s) (k:=0) (by omega)
  have hz':R5 s 0=some z:=hz
  simp only[cond_false,hz',Option.bind_some,Dp,Hc]
  refine Df.cond (λ_=>Df.mk _) λ_=>?_
  rcases EN s.size (Dh N s (Eh N)) (Eh N) (λ_=>True) (λn k h=>by
    simp only[Dh];rw[EA h];rfl) (λn k h=>by
    simp only[Dh]
    obtain⟨z,hz⟩:=PF h
    rw[D9 h,cond_true,hz]
    simp only[Option.bind_some,Ae (show k<4611686018427387904 by omega)]
    cases (((decide (z<97)||decide (122<z))&&(decide (z<48)||decide (57<z)))&&decide (z≠95))
    ·exact .inr ⟨trivial,rfl⟩
    ·exact .inl rfl) N 1 (by omega) (by omega) with h|⟨_,h⟩
  ·exact⟨_,h⟩
  ·exact⟨_,h⟩
 ·simp only[cond_true,Option.bind_some]
  exact Df.mk _
theorem Tz {N:Nat}(hN:1000<N) (m:List (AE×Bool)) (a b:ByteArray):Df (Gt N m a b):=by
 have hj:∀s,Df (E3 N m b s):=λs=>by
  unfold E3
  exact Df.bind (SW hN b) λ_ _=>Df.cond (λ_=>Df.mk _) λ_=>Df.mk _
 unfold Gt
 exact Df.cond (λ_=>hj _) λ_=>hj _
theorem IW {N:Nat}(hN:1000<N) (m:List (AE×Bool)) (c:Bool) (a b:ByteArray):∃v,Bi N m c a b=some v:=by
 unfold Bi
 exact Df.bind (Tz hN m a b) λ_ _=>Df.mk _
theorem Th {N:Nat}(hN:1000<N) {b:AJ}(hb:Fy b):Df (F6 N b):=by
 obtain⟨q1,q2,q3,q4,q5,q6,q7,q8⟩:=hb
 have st:∀{σ} (L:Nat) (f:Nat→Int→σ→Option Bool) (kj:σ→Option Bool),L≤128→(∀n (k:Nat) s,L≤k→f (n+1) (k:Int) s=kj s)→(∀n (k:Nat) s,k<L→∃s',f (n+1) (k:Int) s=f n ((k+1:Nat):Int) s')→(∀s,Df (kj s))→∀s,Df (f N 0 s):=λL f kj hL h1 h2 h3 s=>by
  obtain⟨s',_,e⟩:=Re L f kj (λ_=>True) h1 (λn k s _ h=>by obtain⟨s',h'⟩:=h2 n k s h;exact⟨s',trivial,h'⟩) N 0 s trivial (by omega) (Nat.zero_le _)
  obtain⟨v,hv⟩:=h3 s'
  exact⟨v,e.trans hv⟩
 have h13:∀s:Bool×List (AE×Bool),Df (Br N b (Cp N) N 0 s.1 s.2):=st (σ:=Bool×List (AE×Bool)) b.Roads.length (λn k s=>Br N b (Cp N) n k s.1 s.2) (λs=>Cp N s.1) (by omega) (λn k s h=>by simp only[Br];rw[EA h];rfl)
  (λn k s h=>by
   simp only[Br]
   rw[D9 h,cond_true,Al h]
   simp only[Option.bind_some]
   obtain⟨v,hv⟩:=IW hN s.2 s.1 (ByteArray.mk #[114,111,97,100]) (b.Roads[k]).Name
   rw[hv]
   simp only[Option.bind_some,Ae (show k<4611686018427387904 by omega)]
   exact⟨(v.2,v.1),rfl⟩) (λs=>Df.mk _)
 have h11:∀s:Bool×List (AE×Bool),Df (Bs N b (Cq N b) N 0 s.1 s.2):=st (σ:=Bool×List (AE×Bool)) b.Gauges.length (λn k s=>Bs N b (Cq N b) n k s.1 s.2) (λs=>Cq N b s.1 s.2) (by omega) (λn k s h=>by simp only[Bs];rw[EA h];rfl)
  (λn k s h=>by
   simp only[Bs]
   rw[D9 h,cond_true,Al h]
   simp only[Option.bind_some]
   obtain⟨v,hv⟩:=IW hN s.2 s.1 (ByteArray.mk #[103,97,117,103,101]) (b.Gauges[k]).Name
   rw[hv]
   simp only[Option.bind_some,Ae (show k<4611686018427387904 by omega)]
   exact⟨(v.2,v.1),rfl⟩) (λs=>h13 s)
 have h9:∀s:Bool×List (AE×Bool),Df (B5 N b (C2 N b) N 0 s.1 s.2):=st (σ:=Bool×List (AE×Bool)) b.Shelters.length (λn k s=>B5 N b (C2 N b) n k s.1 s.2) (λs=>C2 N b s.1 s.2) (by omega) (λn k s h=>by simp only[B5];rw[EA h];rfl)
  (λn k s h=>by
   simp only[B5]
   rw[D9 h,cond_true,Al h]
   simp only[Option.bind_some]
   obtain⟨v,hv⟩:=IW hN s.2 s.1 (ByteArray.mk #[115,104,101,108,116,101,114]) (b.Shelters[k]).Name
   rw[hv]
   simp only[Option.bind_some,Ae (show k<4611686018427387904 by omega)]
   exact⟨(v.2,v.1),rfl⟩) (λs=>h11 s)
 have h7:∀s:Bool×List (AE×Bool),Df (B6 N b (C3 N b) N 0 s.1 s.2):=st (σ:=Bool×List (AE×Bool)) b.Towns.length (λn k s=>B6 N b (C3 N b) n k s.1 s.2) (λs=>C3 N b s.1 s.2) (by omega) (λn k s h=>by simp only[B6];rw[EA h];rfl)
  (λn k s h=>by
   simp only[B6]
   rw[D9 h,cond_true,Al h]
   simp only[Option.bind_some]
   obtain⟨v,hv⟩:=IW hN s.2 s.1 (ByteArray.mk #[116,111,119,110]) (b.Towns[k]).Name
   rw[hv]
   simp only[Option.bind_some,Ae (show k<4611686018427387904 by omega)]
   exact⟨(v.2,v.1),rfl⟩) (λs=>h9 s)
 have h5:∀s:Bool×List (AE×Bool),Df (B7 N b (C4 N b) N 0 s.1 s.2):=st (σ:=Bool×List (AE×Bool)) b.Links.length (λn k s=>B7 N b (C4 N b) n k s.1 s.2) (λs=>C4 N b s.1 s.2) (by omega) (λn k s h=>by simp only[B7];rw[EA h];rfl)
  (λn k s h=>by
   simp only[B7]
   rw[D9 h,cond_true,Al h]
   simp only[Option.bind_some]
   obtain⟨v,hv⟩:=IW hN s.2 s.1 (ByteArray.mk #[108,105,110,107]) (b.Links[k]).Name
   rw[hv]
   simp only[Option.bind_some,Ae (show k<4611686018427387904 by omega)]
   exact⟨(v.2,v.1),rfl⟩) (λs=>h7 s)
 have h3:∀s:Bool×List (AE×Bool),Df (B8 N b (C5 N b) N 0 s.1 s.2):=st (σ:=Bool×List (AE×Bool)) b.Places.length (λn k s=>B8 N b (C5 N b) n k s.1 s.2) (λs=>C5 N b s.1 s.2) (by omega) (λn k s h=>by simp only[B8];rw[EA h];rfl)
  (λn k s h=>by
   simp only[B8]
   rw[D9 h,cond_true,Al h]
   simp only[Option.bind_some]
   obtain⟨v,hv⟩:=IW hN s.2 s.1 (ByteArray.mk #[112,108,97,99,101]) (b.Places[k]).Name
   rw[hv]
   simp only[Option.bind_some,Ae (show k<4611686018427387904 by omega)]
   exact⟨(v.2,v.1),rfl⟩) (λs=>h5 s)
 have h1:∀s:Bool×List (AE×Bool),Df (B9 N b (C6 N b) N 0 s.1 s.2):=st (σ:=Bool×List (AE×Bool)) b.Owners.length (λn k s=>B9 N b (C6 N b) n k s.1 s.2) (λs=>C6 N b s.1 s.2) (by omega) (λn k s h=>by simp only[B9];rw[EA h];rfl)
  (λn k s h=>by
   simp only[B9]
   rw[D9 h,cond_true,Al h]
   simp only[Option.bind_some]
   obtain⟨v,hv⟩:=IW hN s.2 s.1 (ByteArray.mk #[111,119,110,101,114]) (b.Owners[k])
   rw[hv]
   simp only[Option.bind_some,Ae (show k<4611686018427387904 by omega)]
   exact⟨(v.2,v.1),rfl⟩) (λs=>h3 s)
 exact h1 (true,[])
end Go.Proofs.YtibidnaedddfdaaGreat
namespace Go.Proofs.YtibidnaedddfdaaGreat
open Go.RowKit
set_option linter.unusedVariables false
set_option linter.unusedSimpArgs false
structure HO (b:AJ) (p:C7):Prop where
 lev:Bn p.Level
 num:FB p.Num
 den:FB p.Den
 down:p.Down= -1∨(0≤p.Down∧p.Down<b.Places.length)
 cap:FB p.Cap
 delay:0≤p.Delay∧p.Delay≤240
theorem Pa {N:Nat}(p:C7) (kj:Int→Option Bool) (hl:p.Start.length≤16):∀(n:Nat) (s:Int) (k:Nat),p.Start.length<n+k→k≤p.Start.length→Bq N p kj n s (k:Int)=some false∨∃s',Bq N p kj n s (k:Int)=kj s'
 |0,s,k,h,hk=>by omega
 |n+1,s,k,h,hk=>by
  simp only[Bq]
  rcases Nat.lt_or_ge k p.Start.length with hc|hc
  ·rw[D9 hc,cond_true,Al hc]
   simp only[Option.bind_some,IK,Ae (show k<4611686018427387904 by omega)]
   cases Og p.Start[k]
   ·exact .inl rfl
   ·exact Pa (N:=N) p kj hl n _ (k+1) (by omega) (by omega)
  ·rw[EA hc];exact .inr ⟨s,rfl⟩
theorem RW {N:Nat}(b:AJ) (p:C7) (i109:Int) (kj:Int→Option Bool) (hc:0≤b.Cells∧b.Cells≤64):∀(n:Nat) (s:Int) (k:Nat), -1≤s→s≤64→65<n+s→k<100→(k:Int)≤s+1→Bp N b p i109 kj n s (k:Int)=some false∨Bp N b p i109 kj n s (k:Int)=kj i109
 |0,s,k,h1,h2,h3,h4,h5=>by omega
 |n+1,s,k,h1,h2,h3,h4,h5=>by
  simp only[Bp]
  rcases Nat.lt_or_ge k p.Rain.length with hk|hk
  ·rw[D9 hk,cond_true,Al hk]
   simp only[Option.bind_some,IK,Dp,Hc,Ae (show k<4611686018427387904 by omega)]
   cases hB:(decide ((p.Rain[k]).Index≤s)||decide (b.Cells≤(p.Rain[k]).Index)|| !Og (p.Rain[k]).Area)
   ·simp only[Bool.or_eq_false_iff,decide_eq_false_iff_not] at hB
    obtain⟨⟨g1,g2⟩,g3⟩:=hB
    exact RW (N:=N) b p i109 kj hc n _ (k+1) (by omega) (by omega) (by omega) (by omega) (by omega)
   ·exact .inl rfl
  ·rw[EA hk];exact .inr rfl
theorem OK {N:Nat}(hN:1000<N) (b:AJ) (hb:Fy b):∀(n:Nat) (s:Int) (k:Nat),b.Places.length<n+k→k≤b.Places.length→∃v,Av N b (A7 N) n s (k:Int)=some v∧(v=true→∀(i:Nat) p,k≤i→b.Places[i]? =some p→HO b p)
 |0,s,k,h,hk=>by omega
 |n+1,s,k,h,hk=>by
  have q3:=hb.pl
  simp only[Av]
  rcases Nat.lt_or_ge k b.Places.length with hc|hc
  ·rw[D9 hc,cond_true,Al hc]
   obtain⟨cv,hcv,hcp⟩:=HB (N:=N) (by omega) (b.Places[k]).Level
   simp only[Option.bind_some,I7,IK,Lp,hcv,MF N b _ _ (show b.Places.length<4611686018427387904 by omega),Dp,Hc]
   generalize hB:(_|| !PW b.Places.length (k:Int) (b.Places[k]).Down)=B
   cases B
   ·simp only[Bool.or_eq_false_iff,decide_eq_false_iff_not,Bool.not_eq_false'] at hB
    obtain⟨⟨⟨⟨⟨⟨⟨⟨h1,h2⟩,h3⟩,h4⟩,h5⟩,h6⟩,h7⟩,h8⟩,h9⟩:=hB
    have hst:(b.Places[k]).Start.length=b.Owners.length:=by
     have:((b.Places[k]).Start.length:Int)=(b.Owners.length:Int):=by simpa using h7
     omega
    have hP:HO b b.Places[k]:=⟨hcp h6,(Kb h8).1,(Kb h8).2,RK h9,HT h4,G7 h3⟩
    simp only[cond_false]
    rcases Pa (N:=N) b.Places[k] (Co N b b.Places[k] (BU N (k:Int) (Av N b (A7 N) n))) (by have:=hb.own;omega) N s 0 (by have:=hb.own;omega) (Nat.zero_le _) with e|⟨s',e⟩
    ·exact⟨false,e,λh=>by cases h⟩
    ·have e0:Bq N b.Places[k] (Co N b b.Places[k] (BU N (k:Int) (Av N b (A7 N) n))) N s 0=_:=e
     rw[e0]
     unfold Co
     rcases RW (N:=N) b b.Places[k] s' (BU N (k:Int) (Av N b (A7 N) n)) hb.cells N (-1) 0 (by omega) (by omega) (by omega) (by omega) (by omega) with e|e
     ·exact⟨false,e,λh=>by cases h⟩
     ·have e1:Bp N b b.Places[k] s' (BU N (k:Int) (Av N b (A7 N) n)) N (-1) 0=_:=e
      rw[e1]
      unfold BU
      rw[Ae (show k<4611686018427387904 by omega)]
      obtain⟨v,g1,g2⟩:=OK hN b hb n s' (k+1) (by omega) (by omega)
      refine⟨v,g1,λhv i p hi hp=>?_⟩
      by_cases ei:i=k
      ·subst ei
       have:p=b.Places[i]:=by simpa [hc] using hp.symm
       rw[this];exact hP
      ·exact g2 hv i p (by omega) hp
   ·exact⟨false,rfl,λh=>by cases h⟩
  ·rw[EA hc]
   refine⟨_,rfl,λ_ i p hi hp=>?_⟩
   have:=(List.getElem?_eq_some_iff.1 hp).1
   omega
theorem SP {N:Nat}(hN:1000<N) (b:AJ) (hb:Fy b):∃v,Fd N b=some v∧(v=true→∀p∈b.Places,HO b p):=by
 obtain⟨v,h1,h2⟩:=OK hN b hb N 0 0 (by have:=hb.pl;omega) (Nat.zero_le _)
 refine⟨v,h1,λhv p hp=>?_⟩
 obtain⟨i,hi,rfl⟩:=List.mem_iff_getElem.1 hp
 exact h2 hv i _ (Nat.zero_le _) (by simp [hi])
structure Gm (b:AJ) (l:AQ):Prop where
 kind:0≤l.Kind∧l.Kind≤5
 fr:0≤l.From∧l.From<b.Places.length
 to:l.To= -1∨(0≤l.To∧l.To<b.Places.length)
 delay:0≤l.Delay∧l.Delay≤240
 gate:l.Kind=0→Bn l.Rate∧Bn l.Band.Lo∧Bn l.Band.Hi∧FB l.BackNum∧FB l.BackDen
 part:l.Kind=1∨l.Kind=5∨l.Kind=3→FB l.Num∧1≤l.Den∧l.Den≤1125899906842624
 seep:l.Kind=4→FB l.Num∧1≤l.Den∧l.Den≤1125899906842624∧FB l.BackNum∧FB l.BackDen∧l.To≠ -1
theorem TA {N:Nat}(hN:18446744073709551616<N) (a b:List AU) (ha:1≤a.length) (ha2:a.length≤32) (hb2:b.length≤32):Df (Bm N a b):=by
 unfold Bm
 rcases EN b.length (CI N a b (DY N)) (DY N) (λ_=>True) (λn k h=>by
  simp only[CI];rw[EA h];rfl) (λn k h=>by
  simp only[CI]
  obtain⟨v,hv⟩:=PT hN ha ha2 (b[k]).X
  rw[D9 h,cond_true,Al h]
  simp only[Option.bind_some,hv,Ae (show k<4611686018427387904 by omega)]
  cases (decide ((b[k]).Y<v.1)||decide (v.1=(b[k]).Y)&&v.2)
  ·exact .inr ⟨trivial,rfl⟩
  ·exact .inl rfl) N 0 (by omega) (Nat.zero_le _) with h|⟨_,h⟩
 ·exact⟨_,h⟩
 ·exact⟨true,h⟩
theorem LU {N:Nat}(hN:18446744073709551616<N) (a b:List AU):Df (Cw N a b):=by
 unfold Cw
 obtain⟨va,ea,pa⟩:=HB (N:=N) (by omega) a
 obtain⟨vb,eb,pb⟩:=HB (N:=N) (by omega) b
 simp only[ea,eb,Option.bind_some,Dp,Hc]
 refine Df.cond (λ_=>Df.mk _) λh=>?_
 simp only[Bool.or_eq_false_iff,Bool.not_eq_false'] at h
 obtain⟨a1,a2,_⟩:=pa h.1
 obtain⟨b1,b2,_⟩:=pb h.2
 rcases EN a.length (Bw N a b (Bm N a b)) (Bm N a b) (λ_=>True) (λn k h=>by
  simp only[Bw];rw[EA h];rfl) (λn k h=>by
  simp only[Bw]
  obtain⟨v,hv⟩:=PT hN b1 b2 (a[k]).X
  rw[D9 h,cond_true,Al h]
  simp only[Option.bind_some,hv,Ae (show k<4611686018427387904 by omega)]
  cases decide (v.1<(a[k]).Y)
  ·exact .inr ⟨trivial,rfl⟩
  ·exact .inl rfl) N 0 (by omega) (Nat.zero_le _) with h|⟨_,h⟩
 ·exact⟨_,h⟩
 ·obtain⟨v,hv⟩:=TA hN a b a1 a2 b2
  exact⟨v,h.trans hv⟩
theorem OR {N:Nat}(hN:18446744073709551616<N) (l:AQ):∃v,Dd N l=some v∧(v=true→
  (l.Kind=0→Bn l.Rate∧Bn l.Band.Lo∧Bn l.Band.Hi∧FB l.BackNum∧FB l.BackDen)∧(l.Kind=1∨l.Kind=5∨l.Kind=3→FB l.Num∧1≤l.Den∧l.Den≤1125899906842624)∧
  (¬(l.Kind=0∨l.Kind=1∨l.Kind=5∨l.Kind=2∨l.Kind=3)→FB l.Num∧1≤l.Den∧l.Den≤1125899906842624∧FB l.BackNum∧FB l.BackDen∧l.To≠ -1)):=by
 obtain⟨v1,e1,p1⟩:=HB (N:=N) (by omega) l.Rate
 obtain⟨v2,e2,p2⟩:=HB (N:=N) (by omega) l.Band.Lo
 obtain⟨v3,e3,p3⟩:=HB (N:=N) (by omega) l.Band.Hi
 obtain⟨v4,e4⟩:=LU hN l.Band.Lo l.Rate
 obtain⟨v5,e5⟩:=LU hN l.Rate l.Band.Hi
 unfold Dd
 by_cases k0:l.Kind=0
 ·rw[show decide (l.Kind=0)=true by simp [k0],cond_true]
  simp only[e1,e2,e3,e4,e5,I7,IK,Lp,Option.bind_some,Dp,MO]
  refine⟨_,rfl,λh=>?_⟩
  simp only[Bool.and_eq_true] at h
  obtain⟨⟨⟨⟨⟨⟨⟨⟨⟨h1,h2⟩,h3⟩,h4⟩,h5⟩,h6⟩,h7⟩,h8⟩,h9⟩,h10⟩:=h
  exact⟨λ_=>⟨p1 h1,p2 h2,p3 h3,(Kb h9).1,(Kb h9).2⟩,λh=>by omega,λh=>absurd (.inl k0) h⟩
 ·rw[show decide (l.Kind=0)=false by simp [k0],cond_false]
  have hj:∀c:Bool,(c=true↔l.Kind=1∨l.Kind=5)→∃v,CQ N l c=some v∧(v=true→
    (l.Kind=0→Bn l.Rate∧Bn l.Band.Lo∧Bn l.Band.Hi∧FB l.BackNum∧FB l.BackDen)∧(l.Kind=1∨l.Kind=5∨l.Kind=3→FB l.Num∧1≤l.Den∧l.Den≤1125899906842624)∧
    (¬(l.Kind=0∨l.Kind=1∨l.Kind=5∨l.Kind=2∨l.Kind=3)→FB l.Num∧1≤l.Den∧l.Den≤1125899906842624∧FB l.BackNum∧FB l.BackDen∧l.To≠ -1)):=λc hc=>by
   unfold CQ
   simp only[I7,IK,Lp,Option.bind_some,Dp,MO]
   cases c
   ·have hn:¬(l.Kind=1∨l.Kind=5):=λh=>by have:=hc.2 h;cases this
    rw[cond_false]
    by_cases k2:l.Kind=2
    ·rw[show decide (l.Kind=2)=true by simp [k2],cond_true]
     exact⟨_,rfl,λ_=>⟨λh=>absurd h k0,λh=>by omega,λh=>absurd (.inr (.inr (.inr (.inl k2)))) h⟩⟩
    ·rw[show decide (l.Kind=2)=false by simp [k2],cond_false]
     by_cases k3:l.Kind=3
     ·rw[show decide (l.Kind=3)=true by simp [k3],cond_true]
      refine⟨_,rfl,λh=>?_⟩
      simp only[Bool.and_eq_true] at h
      obtain⟨⟨⟨⟨h1,h2⟩,h3⟩,h4⟩,h5⟩:=h
      exact⟨λh=>absurd h k0,λ_=>⟨HT h1,G7 h2⟩,λh=>absurd (.inr (.inr (.inr (.inr k3)))) h⟩
     ·rw[show decide (l.Kind=3)=false by simp [k3],cond_false]
      refine⟨_,rfl,λh=>?_⟩
      simp only[Bool.and_eq_true,decide_eq_true_eq] at h
      obtain⟨⟨⟨h1,h2⟩,h3⟩,h4⟩:=h
      exact⟨λh=>absurd h k0,λh=>by omega,λ_=>⟨HT h1,(G7 h2).1,(G7 h2).2,(Kb h3).1,(Kb h3).2,h4⟩⟩
   ·have hy:=hc.1 rfl
    rw[cond_true]
    refine⟨_,rfl,λh=>?_⟩
    simp only[Bool.and_eq_true] at h
    obtain⟨⟨h1,h2⟩,h3⟩:=h
    exact⟨λh=>absurd h k0,λ_=>⟨HT h2,G7 h3⟩,λh=>by omega⟩
  by_cases k1:l.Kind=1
  ·rw[show decide (l.Kind=1)=true by simp [k1],cond_true]
   exact hj true (by simp [k1])
  ·rw[show decide (l.Kind=1)=false by simp [k1],cond_false]
   exact hj _ (by simp [k1])
theorem OC (N:Nat) (l:AQ):Df (Dc N l):=by
 unfold Dc
 exact Df.cond (λ_=>Df.mk _) λ_=>Df.cond (λ_=>Df.mk _) λ_=>Df.cond (λ_=>Df.mk _) λ_=>Df.cond (λ_=>Df.mk _) λ_=>Df.cond (λ_=>Df.mk _) λ_=>Df.mk _
theorem Tm {N:Nat}(hN:18446744073709551616<N) (b:AJ) (hb:Fy b):∃v,DH N b=some v∧(v=true→∀l∈b.Links,Gm b l):=by
 have q3:=hb.pl
 have q4:=hb.li
 unfold DH
 rcases EN b.Links.length (BR N b (CA N)) (CA N) (λi=>∀l,b.Links[i]? =some l→Gm b l) (λn k h=>by
  simp only[BR];rw[EA h];rfl) (λn k h=>by
  simp only[BR]
  obtain⟨vf,ef,pf⟩:=OR hN b.Links[k]
  obtain⟨vu,eu⟩:=OC N b.Links[k]
  rw[D9 h,cond_true,Al h]
  simp only[Option.bind_some,I7,Lm N _ (show b.Places.length<4611686018427387904 by omega),MF N b _ _ (show b.Places.length<4611686018427387904 by omega),ef,eu,Dp,Hc,Ae (show k<4611686018427387904 by omega)]
  generalize hB:(_|| !vu)=B
  cases B
  ·simp only[Bool.or_eq_false_iff,Bool.not_eq_false'] at hB
   obtain⟨⟨⟨⟨⟨h1,h2⟩,h3⟩,h4⟩,h5⟩,h6⟩:=hB
   have i1:=G7 h1
   have i2:=G7 h2
   obtain⟨f1,f2,f3⟩:=pf h5
   refine .inr ⟨λl hl=>?_,rfl⟩
   have:l=b.Links[k]:=by simpa [h] using hl.symm
   rw[this]
   exact⟨i1,⟨i2.1,by omega⟩,RK h3,G7 h4,f1,f2,λh4=>f3 (by omega)⟩
  ·exact .inl rfl) N 0 (by omega) (Nat.zero_le _) with h|⟨hp,h⟩
 ·exact⟨false,h,λh=>by cases h⟩
 ·refine⟨true,h,λ_ l hl=>?_⟩
  obtain⟨i,hi,rfl⟩:=List.mem_iff_getElem.1 hl
  exact hp i (Nat.zero_le _) hi _ (by simp [hi])
theorem Rb (N:Nat) (b:AJ) (o to:Int) (h:to= -1∨(0≤to∧to<b.Places.length)):Df (Gi N b o to):=by
 unfold Gi
 refine Df.cond (λ_=>Df.mk _) λhc=>?_
 simp only[decide_eq_false_iff_not] at hc
 exact Df.bind (Df.ix (by omega) (by omega)) λ_ _=>Df.mk _
theorem Qp {N:Nat}(hN:1000<N) (b:AJ) (hb:Fy b) (hp:∀p∈b.Places,HO b p) (hl:∀l∈b.Links,Gm b l):Df (Ec N b):=by
 have q3:=hb.pl
 have q4:=hb.li
 have hj:Df (CE N b):=by
  unfold CE
  rcases EN b.Links.length (CC N b (DC N)) (DC N) (λ_=>True) (λn k h=>by
   simp only[CC];rw[EA h];rfl) (λn k h=>by
   simp only[CC]
   have ok:=hl b.Links[k] (List.getElem_mem h)
   obtain⟨x,hx⟩:=Df.ix (l:=b.Places) ok.fr.1 ok.fr.2
   obtain⟨v,hv⟩:=Rb N b x.Office (b.Links[k]).To ok.to
   rw[D9 h,cond_true,Al h]
   simp only[Option.bind_some,hx,hv,Ae (show k<4611686018427387904 by omega)]
   have hz:∃z,(cond (!v) (some true) (Option.bind (cond (decide ((b.Links[k]).Kind=4)) (Option.bind (ix b.Places (b.Links[k]).To) λx140=>some (decide (x140.Office≠x.Office))) (some false)) λb135=>some b135))=some z:=by
    refine Df.cond (λ_=>Df.mk _) λ_=>Df.bind (Df.cond (λh4=>?_) λ_=>Df.mk _) λ_ _=>Df.mk _
    have h4':(b.Links[k]).Kind=4:=by simpa using h4
    have:=(ok.seep h4').2.2.2.2.2
    have:=ok.to
    exact Df.bind (Df.ix (by omega) (by omega)) λ_ _=>Df.mk _
   obtain⟨z,hz⟩:=hz
   rw[hz]
   simp only[Option.bind_some]
   cases z
   ·exact .inr ⟨trivial,rfl⟩
   ·exact .inl rfl) N 0 (by omega) (Nat.zero_le _) with h|⟨_,h⟩
  ·exact⟨_,h⟩
  ·exact⟨true,h⟩
 unfold Ec
 rcases EN b.Places.length (CD N b (CE N b)) (CE N b) (λ_=>True) (λn k h=>by
   simp only[CD];rw[EA h];rfl) (λn k h=>by
   simp only[CD]
   have ok:=hp b.Places[k] (List.getElem_mem h)
   obtain⟨v,hv⟩:=Rb N b (b.Places[k]).Office (b.Places[k]).Down ok.down
   rw[D9 h,cond_true,Al h]
   simp only[Option.bind_some,hv,Ae (show k<4611686018427387904 by omega)]
   cases v
   ·exact .inl rfl
   ·exact .inr ⟨trivial,rfl⟩) N 0 (by omega) (Nat.zero_le _) with h|⟨_,h⟩
 ·exact⟨_,h⟩
 ·obtain⟨v,hv⟩:=hj
  exact⟨v,h.trans hv⟩
theorem PZ {N:Nat}(hN:18446744073709551616<N) (c:List AU) (hc:Bn c) (kj:Int→Option Int):∀(n:Nat) (s:Int) (k:Nat),c.length<n+k→1≤k→k≤c.length→∃s',BC N c kj n s (k:Int)=kj s'
 |0,s,k,h,h1,hk=>by omega
 |n+1,s,k,h,h1,hk=>by
  obtain⟨g1,g2,g3⟩:=hc
  simp only[BC]
  rcases Nat.lt_or_ge k c.length with hl|hl
  ·have e1:Aw ((k:Int)-1)=((k-1:Nat):Int):=by rw[B1 (by omega) (by omega)];omega
   rw[D9 hl,cond_true,e1,Al hl,Al (show k-1<c.length by omega)]
   simp only[Option.bind_some,Ae (show k<4611686018427387904 by omega)]
   obtain⟨a1,a2,a3⟩:=g3 k c[k] (by simp [hl])
   obtain⟨b1,b2,_⟩:=g3 (k-1) c[k-1] (by simp [show k-1<c.length by omega])
   obtain⟨d1,d2⟩:=a3 c[k-1] (by omega) (by simp [show k-1<c.length by omega])
   unfold FB at a1 a2 b1 b2
   obtain⟨v,hv⟩:=I4 hN (num:=Aw ((c[k]).Y-(c[k-1]).Y)) (den:=Aw ((c[k]).X-(c[k-1]).X)) (by rw[B1 (by omega) (by omega)];omega) (by rw[B1 (by omega) (by omega)];omega) (by rw[B1 (by omega) (by omega)];omega)
   rw[hv]
   exact PZ hN c ⟨g1,g2,g3⟩ kj n _ (k+1) (by omega) (by omega) (by omega)
  ·rw[EA hl];exact⟨s,rfl⟩
theorem TO {N:Nat}(hN:18446744073709551616<N) (cs:List (List AU)) (hl:cs.length≤3) (hc:∀c∈cs,Bn c):Df (DZ N cs):=by
 unfold DZ
 have:∀(n:Nat) (s:Int) (k:Nat),cs.length<n+k→k≤cs.length→Df (Ay N cs (BD N) n s (k:Int)):=by
  intro n
  induction n with
  |zero=>intro s k h hk;omega
  |succ n ih=>
   intro s k h hk
   simp only[Ay]
   rcases Nat.lt_or_ge k cs.length with hl2|hl2
   ·rw[D9 hl2,cond_true,Al hl2]
    simp only[Option.bind_some]
    have ok:=hc cs[k] (List.getElem_mem hl2)
    obtain⟨s',e⟩:=PZ hN cs[k] ok (BW N (k:Int) (Ay N cs (BD N) n)) N s 1 (by have:=ok.2.1;omega) (by omega) ok.1
    have e0:BC N cs[k] (BW N (k:Int) (Ay N cs (BD N) n)) N s 1=_:=e
    rw[e0]
    unfold BW
    rw[Ae (show k<4611686018427387904 by omega)]
    exact ih s' (k+1) (by omega) (by omega)
   ·rw[EA hl2];exact Df.mk _
 exact this N 0 0 (by omega) (Nat.zero_le _)
theorem Hf {α}(l:List α) (i:Int) (x:α):(upd l i x).length=l.length:=by simp [upd]
theorem Ye {N:Nat}(hN:1000<N) (l:List Int) (hl:l.length≤64):Df (Au N l):=by
 unfold Au
 rcases EN l.length (BH N l (Bo N)) (Bo N) (λ_=>True) (λn k h=>by
  simp only[BH];rw[EA h];rfl) (λn k h=>by
  simp only[BH]
  rw[D9 h,cond_true,Al h]
  simp only[Option.bind_some,Ae (show k<4611686018427387904 by omega)]
  cases decide (1099511627776<l[k])
  ·exact .inr ⟨trivial,rfl⟩
  ·exact .inl rfl) N 0 (by omega) (Nat.zero_le _) with h|⟨_,h⟩
 ·exact⟨_,h⟩
 ·exact⟨true,h⟩
theorem WV {N:Nat}(hN:18446744073709551616<N) (b:AJ) (hb:Fy b) (hl:∀l∈b.Links,Gm b l) (kj:List Int→Option Bool):∀(n:Nat) (k:Nat) (s:List Int),s.length=b.Places.length→b.Links.length<n+k→k≤b.Links.length→∃s',s'.length=b.Places.length∧AY N b kj n (k:Int) s=kj s'
 |0,k,s,hs,h,hk=>by omega
 |n+1,k,s,hs,h,hk=>by
  have q3:=hb.pl
  have q4:=hb.li
  simp only[AY]
  rcases Nat.lt_or_ge k b.Links.length with hc|hc
  ·rw[D9 hc,cond_true,Al hc]
   simp only[Option.bind_some]
   have ok:=hl b.Links[k] (List.getElem_mem hc)
   generalize b.Links[k]=l at ok
   have ih:∀s:List Int,s.length=b.Places.length→∃s',s'.length=b.Places.length∧Ar N (k:Int) (AY N b kj n) s=kj s':=λs hs=>by
    unfold Ar
    rw[Ae (show k<4611686018427387904 by omega)]
    exact WV hN b hb hl kj n (k+1) s hs (by omega) (by omega)
   obtain⟨x,hx⟩:=Df.ix (l:=s) ok.fr.1 (by rw[hs];exact ok.fr.2)
   have j5:∀c:Bool,(c=true→l.Kind=1∨l.Kind=5∨l.Kind=3)→∃s',s'.length=b.Places.length∧Bh N s l (Ar N (k:Int) (AY N b kj n)) c=kj s':=λc hc=>by
    unfold Bh
    cases c
    ·rw[cond_false]
     by_cases k4:l.Kind=4
     ·rw[show decide (l.Kind=4)=true by simp [k4],cond_true]
      obtain⟨h1,h2,h3,h4,h5,h6⟩:=ok.seep k4
      obtain⟨v,hv⟩:=I4 hN h1.1 (show 0≤l.Den by omega) (by omega)
      obtain⟨v2,hv2⟩:=I4 hN h4.1 h5.1 (show l.BackDen≤_ by have:=h5.2;omega)
      have hto:=ok.to
      obtain⟨x2,hx2⟩:=Df.ix (l:=upd s l.From (Aw (x+Aw (2*v)))) (i:=l.To) (by omega) (by rw[Hf,hs];omega)
      simp only[hx,hv,hx2,hv2,Option.bind_some]
      exact ih _ (by rw[Hf,Hf,hs])
     ·rw[show decide (l.Kind=4)=false by simp [k4],cond_false]
      exact ih s hs
    ·rw[cond_true]
     obtain⟨h1,h2,h3⟩:=ok.part (hc rfl)
     obtain⟨v,hv⟩:=I4 hN h1.1 (show 0≤l.Den by omega) (by omega)
     simp only[hx,hv,Option.bind_some]
     exact ih _ (by rw[Hf,hs])
   by_cases k0:l.Kind=0
   ·rw[show decide (l.Kind=0)=true by simp [k0],cond_true]
    obtain⟨c1,c2,c3,c4,c5⟩:=ok.gate k0
    obtain⟨v,hv⟩:=TO hN [l.Rate,l.Band.Lo,l.Band.Hi] (by simp) (by simp [c1,c2,c3])
    simp only[hx,hv,Option.bind_some]
    by_cases t0:l.To= -1
    ·rw[show decide (l.To≠ -1)=false by simp [t0],cond_false]
     exact ih _ (by rw[Hf,hs])
    ·rw[show decide (l.To≠ -1)=true by simp [t0],cond_true]
     have hto:=ok.to
     obtain⟨x2,hx2⟩:=Df.ix (l:=upd s l.From (Aw (x+v))) (i:=l.To) (by omega) (by rw[Hf,hs];omega)
     obtain⟨v2,hv2⟩:=I4 hN c4.1 c5.1 (show l.BackDen≤_ by have:=c5.2;omega)
     simp only[hx2,hv2,Option.bind_some]
     exact ih _ (by rw[Hf,Hf,hs])
   ·rw[show decide (l.Kind=0)=false by simp [k0],cond_false]
    by_cases k1:l.Kind=1
    ·rw[show decide (l.Kind=1)=true by simp [k1],cond_true]
     exact j5 true λ_=> .inl k1
    ·rw[show decide (l.Kind=1)=false by simp [k1],cond_false]
     by_cases k5:l.Kind=5
     ·rw[show decide (l.Kind=5)=true by simp [k5],cond_true]
      exact j5 true λ_=> .inr (.inl k5)
     ·rw[show decide (l.Kind=5)=false by simp [k5],cond_false]
      exact j5 _ λh=> .inr (.inr (by simpa using h))
  ·rw[EA hc];exact⟨s,hs,rfl⟩
theorem SJ {N:Nat}(hN:18446744073709551616<N) (b:AJ) (hb:Fy b) (hp:∀p∈b.Places,HO b p) (hl:∀l∈b.Links,Gm b l):Df (C1 N b):=by
 have q3:=hb.pl
 have q4:=hb.li
 unfold C1
 rw[show I6 (b.Places.length:Int) (b.Places.length:Int) 8=true by simp [I6];omega]
 simp only[chk,cond_true]
 have h1:∀(n:Nat) (k:Nat) (s:List Int),s.length=b.Places.length→b.Places.length<n+k→k≤b.Places.length→∃s',s'.length=b.Places.length∧BI N b (A6 N b) n (k:Int) s=A6 N b s':=by
  intro n
  induction n with
  |zero=>intro k s hs h hk;omega
  |succ n ih=>
   intro k s hs h hk
   simp only[BI]
   rcases Nat.lt_or_ge k b.Places.length with hc|hc
   ·have ok:=hp b.Places[k] (List.getElem_mem hc)
    obtain⟨v,hv⟩:=I4 hN ok.num.1 ok.den.1 (by have:=ok.den.2;omega)
    rw[D9 hc,cond_true,Al hc,Al (show k<s.length by omega)]
    simp only[Option.bind_some,hv,Ae (show k<4611686018427387904 by omega)]
    exact ih (k+1) _ (by rw[Hf,hs]) (by omega) (by omega)
   ·rw[EA hc];exact⟨s,hs,rfl⟩
 obtain⟨s1,g1,g2⟩:=h1 N 0 (List.replicate ((b.Places.length:Int):Int).toNat 0) (by simp) (by omega) (Nat.zero_le _)
 have g2':BI N b (A6 N b) N 0 (List.replicate ((b.Places.length:Int):Int).toNat 0)=_:=g2
 rw[g2']
 unfold A6
 obtain⟨s2,g3,g4⟩:=WV hN b hb hl (Au N) N 0 s1 g1 (by omega) (Nat.zero_le _)
 have g4':AY N b (Au N) N 0 s1=_:=g4
 rw[g4']
 exact Ye (by omega) s2 (by omega)
end Go.Proofs.YtibidnaedddfdaaGreat
namespace Go.Proofs.YtibidnaedddfdaaGreat
open Go.RowKit
set_option linter.unusedVariables false
set_option linter.unusedSimpArgs false
theorem Tv (N:Nat) (n z:Int):DR N n z=some (Tu n 0 (Aw (z-1))):=rfl
structure PI (b:AJ) (t:EM):Prop where
 place:0≤t.Place∧t.Place<b.Places.length
 flood:FB t.Flood
 lead:0≤t.Lead∧t.Lead≤24
 watch:FB t.Watch
 quorum:0≤t.Quorum∧t.Quorum≤128
theorem TM {N:Nat}(hN:1000<N) (b:AJ) (hb:Fy b):∃v,E8 N b=some v∧(v=true→∀t∈b.Towns,PI b t):=by
 have q3:=hb.pl
 have q5:=hb.to
 have q8:=hb.sh
 have hj:Df (CV N b):=by
  unfold CV
  rcases EN b.Shelters.length (CT N b (Dm N)) (Dm N) (λ_=>True) (λn k h=>by
   simp only[CT];rw[EA h];rfl) (λn k h=>by
   simp only[CT]
   rw[D9 h,cond_true,Al h]
   simp only[Option.bind_some,I7,Ae (show k<4611686018427387904 by omega)]
   cases Tu (b.Shelters[k]).Room 0 1073741824
   ·exact .inl rfl
   ·exact .inr ⟨trivial,rfl⟩) N 0 (by omega) (Nat.zero_le _) with h|⟨_,h⟩
  ·exact⟨_,h⟩
  ·exact⟨true,h⟩
 unfold E8
 rcases EN b.Towns.length (CU N b (CV N b)) (CV N b) (λi=>∀t,b.Towns[i]? =some t→PI b t) (λn k h=>by
  simp only[CU];rw[EA h];rfl) (λn k h=>by
  simp only[CU]
  rw[D9 h,cond_true,Al h]
  simp only[Option.bind_some,I7,IK,Lm N _ (show b.Places.length<4611686018427387904 by omega),Dp,Hc,Ae (show k<4611686018427387904 by omega)]
  generalize hB:(_|| !Tu (b.Towns[k]).Quorum 0 128)=B
  cases B
  ·simp only[Bool.or_eq_false_iff,Bool.not_eq_false'] at hB
   obtain⟨⟨⟨⟨⟨h1,h2⟩,h3⟩,h4⟩,h5⟩,h6⟩:=hB
   refine .inr ⟨λt ht=>?_,rfl⟩
   have:t=b.Towns[k]:=by simpa [h] using ht.symm
   rw[this]
   have i1:=G7 h1
   exact⟨⟨i1.1,by omega⟩,HT h2,G7 h3,HT h5,G7 h6⟩
  ·exact .inl rfl) N 0 (by omega) (Nat.zero_le _) with h|⟨hp,h⟩
 ·exact⟨false,h,λh=>by cases h⟩
 ·obtain⟨v,hv⟩:=hj
  refine⟨v,h.trans hv,λ_ t ht=>?_⟩
  obtain⟨i,hi,rfl⟩:=List.mem_iff_getElem.1 ht
  exact hp i (Nat.zero_le _) hi _ (by simp [hi])
theorem Sc {N:Nat}(hN:1000<N) (b:AJ) (hb:Fy b):Df (En N b):=by
 have q6:=hb.ga
 unfold En
 rcases EN b.Gauges.length (CP N b (Da N)) (Da N) (λ_=>True) (λn k h=>by
  simp only[CP];rw[EA h];rfl) (λn k h=>by
  simp only[CP]
  rw[D9 h,cond_true,Al h]
  simp only[Option.bind_some,I7,Tv,Dp,Hc,Ae (show k<4611686018427387904 by omega)]
  generalize hB:(_|| !Tu (b.Gauges[k]).Drift 0 1440)=B
  cases B
  ·simp only[Bool.or_eq_false_iff,Bool.not_eq_false'] at hB
   have i1:=G7 hB.1.1
   obtain⟨z,hz⟩:=Df.ix (l:=[(b.Places.length:Int),b.Cells,(b.Links.length:Int)]) (i:=(b.Gauges[k]).Kind) i1.1 (by simp;omega)
   rw[hz]
   simp only[cond_false,Option.bind_some]
   cases Tu (b.Gauges[k]).Target 0 (Aw (z-1))
   ·exact .inl rfl
   ·exact .inr ⟨trivial,rfl⟩
  ·exact .inl rfl) N 0 (by omega) (Nat.zero_le _) with h|⟨_,h⟩
 ·exact⟨_,h⟩
 ·exact⟨true,h⟩
theorem Tb {N:Nat}(hN:1000<N) (b:AJ) (hb:Fy b):Df (E9 N b):=by
 have q7:=hb.ro
 unfold E9
 rcases EN b.Roads.length (CW N b (Dn N)) (Dn N) (λ_=>True) (λn k h=>by
  simp only[CW];rw[EA h];rfl) (λn k h=>by
  simp only[CW]
  rw[D9 h,cond_true,Al h]
  simp only[Option.bind_some,I7,IK,Tv,Dp,Hc,MO,Ae (show k<4611686018427387904 by omega)]
  generalize (_|| !Og (b.Roads[k]).Limit)=B
  cases B
  ·simp only[cond_false]
   generalize ((decide ((b.Roads[k]).By= -1)&&decide ((b.Roads[k]).Limit≠0))||_)=B2
   cases B2
   ·exact .inr ⟨trivial,rfl⟩
   ·exact .inl rfl
  ·exact .inl rfl) N 0 (by omega) (Nat.zero_le _) with h|⟨_,h⟩
 ·exact⟨_,h⟩
 ·exact⟨true,h⟩
structure Hl (b:AJ):Prop where
 head:Fy b
 places:∀p∈b.Places,HO b p
 links:∀l∈b.Links,Gm b l
 towns:∀t∈b.Towns,PI b t
theorem chainB {b:Bool}{x:Option Bool}{f:Bool→Option Bool}(Q:Prop) {G:Option Bool→Prop}(h:b=true→∃v,x=some v∧(v=true→Q)) (k:∀c,(c=true→b=true∧Q)→G (f c)):G (Option.bind (cond b (Option.bind x λy=>some y) (some false)) f):=by
 cases b
 ·exact k false λh=>by cases h
 ·obtain⟨v,hv,hq⟩:=h rfl
  rw[hv]
  exact k v λhc=>⟨rfl,hq hc⟩
theorem Df.q {x:Option Bool}(h:Df x):∃v,x=some v∧(v=true→True):=by obtain⟨v,hv⟩:=h;exact⟨v,hv,λ_=>trivial⟩
theorem Pj {N:Nat}(hN:18446744073709551616<N) (b:AJ):∃v,FZ N b=some v∧(v=true→Hl b):=by
 have hN2:1000<N:=by omega
 unfold FZ
 obtain⟨v0,e0,p0⟩:=Vj hN2 b
 rw[e0]
 simp only[Option.bind_some]
 refine chainB True (G:=λx=>∃v,x=some v∧(v=true→Hl b)) (λh=>(Th hN2 (p0 h)).q) λc1 h1=>?_
 refine chainB (∀p∈b.Places,HO b p) (G:=λx=>∃v,x=some v∧(v=true→Hl b)) (λh=>SP hN2 b (p0 (h1 h).1)) λc2 h2=>?_
 have d2:c2=true→Fy b∧∀p∈b.Places,HO b p:=λh=>⟨p0 (h1 (h2 h).1).1,(h2 h).2⟩
 refine chainB (∀l∈b.Links,Gm b l) (G:=λx=>∃v,x=some v∧(v=true→Hl b)) (λh=>Tm hN b (d2 h).1) λc3 h3=>?_
 have d3:c3=true→Fy b∧(∀p∈b.Places,HO b p)∧∀l∈b.Links,Gm b l:=λh=>⟨(d2 (h3 h).1).1,(d2 (h3 h).1).2,(h3 h).2⟩
 refine chainB True (G:=λx=>∃v,x=some v∧(v=true→Hl b)) (λh=>(Qp hN2 b (d3 h).1 (d3 h).2.1 (d3 h).2.2).q) λc4 h4=>?_
 refine chainB True (G:=λx=>∃v,x=some v∧(v=true→Hl b)) (λh=>(SJ hN b (d3 (h4 h).1).1 (d3 (h4 h).1).2.1 (d3 (h4 h).1).2.2).q) λc5 h5=>?_
 refine chainB (∀t∈b.Towns,PI b t) (G:=λx=>∃v,x=some v∧(v=true→Hl b)) (λh=>TM hN2 b (d3 (h4 (h5 h).1).1).1) λc6 h6=>?_
 refine chainB True (G:=λx=>∃v,x=some v∧(v=true→Hl b)) (λh=>(Sc hN2 b (d3 (h4 (h5 (h6 h).1).1).1).1).q) λc7 h7=>?_
 refine chainB True (G:=λx=>∃v,x=some v∧(v=true→Hl b)) (λh=>(Tb hN2 b (d3 (h4 (h5 (h6 (h7 h).1).1).1).1).1).q) λc8 h8=>?_
 refine⟨c8,rfl,λh=>?_⟩
 have d:=d3 (h4 (h5 (h6 (h7 (h8 h).1).1).1).1).1
 exact⟨d.1,d.2.1,d.2.2,(h6 (h7 (h8 h).1).1).2⟩
end Go.Proofs.YtibidnaedddfdaaGreat
