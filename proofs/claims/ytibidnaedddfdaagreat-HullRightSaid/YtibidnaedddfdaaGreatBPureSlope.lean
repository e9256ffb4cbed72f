import Derived.Test.YtibidnaedddfdaaGreatBPureAsk
namespace Go.Proofs.YtibidnaedddfdaaGreat
open Go.RowKit
set_option linter.unusedVariables false
set_option linter.unusedSimpArgs false
def sl (N:Nat) (a b:Int):Int:=(Cf N a b).getD 0
theorem slN {an dn q r:Nat}(hd:0<dn) (hn:an≤dn) (hq:q=an*1099511627776/dn) (hr:r=an*1099511627776%dn):q≤1099511627776∧an*1099511627776=q*dn+r∧r<dn:=by
 refine⟨?_,by rw[hq,hr];exact P5 _ _,by rw[hr];exact Nat.mod_lt _ hd⟩
 rw[hq]
 exact Nat.div_le_of_le_mul (by rw[Nat.mul_comm dn];rw[Nat.mul_comm an];exact Nat.mul_le_mul_left _ hn)
theorem D0 {N:Nat}(hN:18446744073709551616<N) {num den:Int}(h0:0≤num∧num≤1125899906842624) (h1:0≤den∧den≤1125899906842624):
  Cf N num den=some (sl N num den)∧0≤sl N num den∧sl N num den≤1099511627777∧(sl N num den≤1099511627776→(den=0→num=0)→QP num den (sl N num den))∧(sl N num den≤1099511627776→den≠0→num*1099511627776≤sl N num den*den):=by
 suffices h:∃s,Cf N num den=some s∧0≤s∧s≤1099511627777∧(s≤1099511627776→(den=0→num=0)→QP num den s)∧(s≤1099511627776→den≠0→num*1099511627776≤s*den) by
  obtain⟨s,e,h⟩:=h
  have:sl N num den=s:=by unfold sl;rw[e];rfl
  rw[this]
  exact⟨e,h⟩
 unfold Cf
 by_cases hd:den=0
 ·rw[decide_eq_true hd,cond_true]
  exact⟨0,rfl,by decide,by decide,λ_ h=>⟨h0.1,by have:=h hd;omega,h1.2,by decide,by rw[h hd,hd];decide⟩,λ_ h=>absurd hd h⟩
 ·rw[decide_eq_false hd,cond_false]
  by_cases hb:den<num
  ·rw[decide_eq_true hb,cond_true]
   exact⟨_,rfl,by decide,by decide,λh=>absurd h (by decide),λh=>absurd h (by decide)⟩
  ·rw[decide_eq_false hb,cond_false]
   obtain⟨an,rfl⟩:∃n:Nat,num=n:=⟨num.toNat,by omega⟩
   obtain⟨dn,rfl⟩:∃n:Nat,den=n:=⟨den.toNat,by omega⟩
   have hdp:0<dn:=by omega
   have hle:an≤dn:=by omega
   rw[Co an (by omega),Co dn (by omega),show(1099511627776:Int)=((1099511627776:Nat):Int) from rfl,Lf N an 1099511627776 (by omega) (by omega),Option.bind_some]
   have hhi:an*1099511627776/18446744073709551616<dn:=by omega
   rw[P6 hN _ _ _ (Nat.mod_lt _ (by omega)) (by omega) hhi,←P5 (an*1099511627776) 18446744073709551616,Option.bind_some]
   obtain⟨q1,q2,q3⟩:=slN hdp hle rfl rfl
   generalize an*1099511627776/dn=q at*
   generalize an*1099511627776%dn=r at*
   have e2:(an:Int)*1099511627776=q*dn+r:=by rw[show (1099511627776:Int)=((1099511627776:Nat):Int) from rfl,←Int.natCast_mul,q2,Int.natCast_add,Int.natCast_mul]
   by_cases hr:r=0
   ·subst hr
    rw[show decide (((0:Nat):Int)≠0)=false from rfl,cond_false]
    unfold Em
    rw[B9 (by omega) (by omega)]
    refine⟨_,rfl,by omega,by omega,λ_ _=>⟨by omega,by omega,h1.2,by omega,by rw[e2];exact Int.le_of_eq (Int.add_zero _)⟩,λ_ _=>by show(an:Int)*1099511627776≤_;rw[e2];exact Int.le_of_eq (Int.add_zero _)⟩
   ·rw[show decide ((r:Int)≠0)=true by simp;omega,cond_true]
    unfold Em
    rw[show ((q:Int)+1)=((q+1:Nat):Int) from rfl,Co (q+1) (by omega),B9 (by omega) (by omega)]
    have e3:(an:Int)*1099511627776≤((q+1:Nat):Int)*dn:=by
     rw[e2,Int.natCast_add,Int.add_mul]
     omega
    exact⟨_,rfl,by omega,by omega,λ_ _=>⟨by omega,by omega,h1.2,by omega,e3⟩,λ_ _=>e3⟩
theorem RM {β:Type}(L:Nat) (f:Nat→Int→Int→Option β) (kj:Int→Option β) (I:Nat→Int→Prop) (hstop:∀n (k:Nat) s,L≤k→f (n+1) s (k:Int)=kj s) (hstep:∀n (k:Nat) s,I k s→k<L→1≤k→∃s',I (k+1) s'∧f (n+1) s (k:Int)=f n s' ((k+1:Nat):Int)):
  ∀n (k:Nat) s,I k s→1≤k→L<n+k→k≤L→∃s',I L s'∧f n s (k:Int)=kj s'
 |0,k,s,_,_,h,hk=>by omega
 |n+1,k,s,hi,h1,h,hk=>by
  rcases Nat.lt_or_ge k L with hl|hl
  ·obtain⟨s1,i1,e1⟩:=hstep n k s hi hl h1
   obtain⟨s2,i2,h2⟩:=RM L f kj I hstop hstep n (k+1) s1 i1 (by omega) (by omega) (by omega)
   exact⟨s2,i2,e1.trans h2⟩
  ·have:k=L:=by omega
   subst this
   exact⟨s,hi,hstop n k s hl⟩
def QH (N:Nat) (c:List AX) (m:Nat) (s:Int):Prop:=∀k l r,k+1<m→c[k]? =some l→c[k+1]? =some r→sl N (r.Y-l.Y) (r.X-l.X)≤s
theorem QT {N:Nat}(hN:18446744073709551616<N) {c:List AX}(hc:Bo c) (kj:Int→Option Int) (s0:Int) (hs0:0≤s0∧s0≤1099511627777):∃s,(s0≤s∧s≤1099511627777∧QH N c c.length s)∧BI N c kj N s0 1=kj s:=by
 have g1:=hc.1
 have g2:=hc.2.1
 refine RM c.length (BI N c kj) kj (λk s=>s0≤s∧s≤1099511627777∧QH N c k s) (λn k s hk=>by
  simp only[BI];rw[EK hk];rfl) (λn k s hi hk h1=>?_) N 1 s0 ⟨Int.le_refl _,hs0.2,λk l r h=>by omega⟩ (by omega) (by omega) g1
 obtain⟨i1,i2,i3⟩:=hi
 have hp:c[k]? =some c[k]:=by simp [hk]
 have hq:c[k-1]? =some c[k-1]:=by simp
 have st:=hc.step hq (q:=c[k]) (by rw[show k-1+1=k by omega];exact hp)
 have a1:=hc.vol hp
 have b1:=hc.vol hq
 unfold E2 at a1 b1
 simp only[BI]
 have e1:A3 ((k:Int)-1)=((k-1:Nat):Int):=by rw[B9 (by omega) (by omega)];omega
 rw[EJ hk,cond_true,e1,Aw hk,Aw (show k-1<c.length by omega)]
 simp only[Option.bind_some,Au (show k<4611686018427387904 by omega)]
 rw[B9 (n:=(c[k]).Y-(c[k-1]).Y) (by omega) (by omega),B9 (n:=(c[k]).X-(c[k-1]).X) (by omega) (by omega)]
 obtain⟨v1,v2,v3,_⟩:=D0 hN (num:=(c[k]).Y-(c[k-1]).Y) (den:=(c[k]).X-(c[k-1]).X) (by omega) (by omega)
 rw[v1]
 refine⟨_,⟨?_,?_,?_⟩,rfl⟩
 ·omega
 ·omega
 ·intro i l r hi hl hr
  by_cases e:i+1=k
  ·subst e
   cases hp.symm.trans hr
   have:l=c[i+1-1]:=by
    have:=hq.symm.trans (show c[i+1-1]? =some l by rw[Nat.add_sub_cancel];exact hl)
    exact(Option.some.inj this).symm
   rw[this]
   omega
  ·have:=i3 i l r (by omega) hl hr
   omega
def U1 (N:Nat) (l:AT):Int:=(DV N [l.Rate,l.Band.Lo,l.Band.Hi]).getD 0
theorem NC {N:Nat}(hN:18446744073709551616<N) {l:AT}(c1:Bo l.Rate) (c2:Bo l.Band.Lo) (c3:Bo l.Band.Hi):DV N [l.Rate,l.Band.Lo,l.Band.Hi]=some (U1 N l)∧0≤U1 N l∧U1 N l≤1099511627777∧QH N l.Band.Lo l.Band.Lo.length (U1 N l):=by
 suffices h:∃s,DV N [l.Rate,l.Band.Lo,l.Band.Hi]=some s∧0≤s∧s≤1099511627777∧QH N l.Band.Lo l.Band.Lo.length s by
  obtain⟨s,e,h⟩:=h
  have:U1 N l=s:=by unfold U1;rw[e];rfl
  rw[this]
  exact⟨e,h⟩
 unfold DV
 obtain⟨M,rfl⟩:∃M,N=M+4:=⟨N-4,by omega⟩
 obtain⟨s1,⟨a1,a2,_⟩,e1⟩:=QT hN c1 (BZ (M+4) 0 (A6 (M+4) [l.Rate,l.Band.Lo,l.Band.Hi] (BJ (M+4)) (M+3))) 0 (by omega)
 obtain⟨s2,⟨b1,b2,b3⟩,e2⟩:=QT hN c2 (BZ (M+4) 1 (A6 (M+4) [l.Rate,l.Band.Lo,l.Band.Hi] (BJ (M+4)) (M+2))) s1 (by omega)
 obtain⟨s3,⟨d1,d2,_⟩,e3⟩:=QT hN c3 (BZ (M+4) 2 (A6 (M+4) [l.Rate,l.Band.Lo,l.Band.Hi] (BJ (M+4)) (M+1))) s2 (by omega)
 refine⟨s3,?_,by omega,by omega,λk x y h hx hy=>by have:=b3 k x y h hx hy;omega⟩
 show BI (M+4) l.Rate (BZ (M+4) 0 (A6 (M+4) [l.Rate,l.Band.Lo,l.Band.Hi] (BJ (M+4)) (M+3))) (M+4) 0 1=some s3
 rw[e1]
 show BI (M+4) l.Band.Lo (BZ (M+4) 1 (A6 (M+4) [l.Rate,l.Band.Lo,l.Band.Hi] (BJ (M+4)) (M+2))) (M+4) s1 1=some s3
 rw[e2]
 show BI (M+4) l.Band.Hi (BZ (M+4) 2 (A6 (M+4) [l.Rate,l.Band.Lo,l.Band.Hi] (BJ (M+4)) (M+1))) (M+4) s2 1=some s3
 rw[e3]
 rfl
theorem VE {N:Nat}(hN:18446744073709551616<N) {c:List AX}(hc:Bo c) {s:Int}(h0:0≤s) (hs:s≤1099511627776) (h:QH N c c.length s):Xk (GN c) s:=by
 intro k l r hl hr
 have hi:=IG hc k l r hl hr
 rcases Kt hl with ⟨rfl,e⟩|⟨m,rfl,hm⟩|⟨rfl,e⟩
 ·have h1:c[0]? =some r:=by rw[←KX c (by have:=hc.1;omega)];exact hr
  have h2:l.Y=r.Y:=by rw[e,←Kk h1]
  rw[h2,Int.sub_self,Int.zero_mul]
  exact Int.mul_nonneg h0 (by omega)
 ·have hml:=(List.getElem?_eq_some_iff.1 hm).1
  by_cases h2:m+1<c.length
  ·rw[KX c h2] at hr
   have h3:=h m l r h2 hm hr
   have v1:=hc.vol hm
   have v2:=hc.vol hr
   unfold E2 at v1 v2
   obtain⟨_,_,_,_,q⟩:=D0 hN (num:=r.Y-l.Y) (den:=r.X-l.X) (by omega) (by omega)
   have q:=q (by omega) (by omega)
   exact Int.le_trans q (Int.mul_le_mul_of_nonneg_right h3 (by omega))
  ·have e1:m+1=c.length:=by omega
   rw[e1,OH] at hr
   cases hr
   have h4:=Kj (c:=c) (p:=l) (by rw[←e1,Nat.add_sub_cancel];exact hm)
   rw[h4,Int.sub_self,Int.zero_mul]
   rw[h4] at hi
   exact Int.mul_nonneg h0 (by omega)
 ·have hlen:(GN c).length=c.length+2:=by simp [GN]
  have:=(List.getElem?_eq_some_iff.1 hr).1
  omega
structure ZG (N:Nat) (b:AK) (l:AT):Prop where
 base:Gh b l
 gate:l.Kind=0→Cw N l.Band.Lo l.Rate=some true∧Cw N l.Rate l.Band.Hi=some true∧(0≤l.Positions∧l.Positions≤64)∧(0≤l.Speed∧l.Speed≤l.Positions)∧(0≤l.Leak∧l.Leak≤1125899906842624)∧(l.BackDen=0→l.BackNum=0)∧(l.To≠ -1∨l.BackDen=0)
 weir:l.Kind=1∨l.Kind=5→0≤l.Crest∧l.Crest≤1125899906842624
 pump:l.Kind=2→(0≤l.Num∧l.Num≤1125899906842624)∧(1≤l.Positions∧l.Positions≤64)∧(0≤l.Speed∧l.Speed≤l.Positions)
 siph:l.Kind=3→(0≤l.Prime∧l.Prime≤1125899906842624)∧(0≤l.Break∧l.Break≤1125899906842624)∧l.Break<l.Prime
 seep:l.Kind=4→(l.BackDen=0→l.BackNum=0)
 none_:l.Kind≠0→l.Kind≠2→l.Positions=0∧l.Speed=0
theorem RW {a b:Int}(h:OD a b=true):b=0→a=0:=by
 intro hb
 simp only[OD,Bool.and_eq_true,Bool.or_eq_true,decide_eq_true_eq] at h
 exact h.2.resolve_left λh=>h hb
theorem Qh {N:Nat}(hN:18446744073709551616<N) {b:AK}{l:AT}(hl:Gh b l) (h:Da N l=some true) (hu:DZ N l=some true):ZG N b l:=by
 have hk:=hl.kind
 have hn:l.Kind≠0→l.Kind≠2→l.Positions=0∧l.Speed=0:=by
  intro h0 h2
  unfold DZ at hu
  rw[decide_eq_false h0,decide_eq_true h2] at hu
  simp only[Bool.not_false,Bool.true_and] at hu
  cases c1:(decide (0<(l.Rate.length:Int))||decide (0<(l.Band.Lo.length:Int))||decide (0<(l.Band.Hi.length:Int))||decide (l.Leak≠0)) with
  |true=>rw[c1] at hu;cases hu
  |false=>
   rw[c1,cond_false] at hu
   cases c2:(decide (l.Positions≠0)||decide (l.Speed≠0)) with
   |true=>rw[c2] at hu;cases hu
   |false=>
    simp only[Bool.or_eq_false_iff,decide_eq_false_iff_not] at c2
    exact⟨Decidable.not_not.1 c2.1,Decidable.not_not.1 c2.2⟩
 unfold Da at h
 by_cases k0:l.Kind=0
 ·obtain⟨c1,c2,c3,c4,c5⟩:=hl.gate k0
  obtain⟨v4,e4⟩:=LU hN l.Band.Lo l.Rate
  obtain⟨v5,e5⟩:=LU hN l.Rate l.Band.Hi
  rw[decide_eq_true k0,cond_true,Hf (by omega) c1,Hf (by omega) c2,Hf (by omega) c3] at h
  simp only[e4,e5,I8,IL,Lp,Option.bind_some,Dx,MM] at h
  have h:=Option.some.inj h
  simp only[Bool.and_eq_true,Bool.or_eq_true,decide_eq_true_eq] at h
  obtain⟨⟨⟨⟨⟨⟨⟨⟨⟨_,_⟩,_⟩,h4⟩,h5⟩,h6⟩,h7⟩,h8⟩,h9⟩,h10⟩:=h
  subst h4;subst h5
  exact⟨hl,λ_=>⟨e4,e5,G6 h6,G6 h7,HW h8,RW h9,h10⟩,λh=>by omega,λh=>by omega,λh=>by omega,λh=>by omega,hn⟩
 ·rw[decide_eq_false k0,cond_false] at h
  have hj:∀c:Bool,(c=true↔l.Kind=1∨l.Kind=5)→CP N l c=some true→ZG N b l:=by
   intro c hc h
   unfold CP at h
   simp only[I8,IL,Lp,Option.bind_some,Dx,MM] at h
   cases c
   ·have hx:¬(l.Kind=1∨l.Kind=5):=λh=>by have:=hc.2 h;cases this
    rw[cond_false] at h
    by_cases k2:l.Kind=2
    ·rw[decide_eq_true k2,cond_true] at h
     have h:=Option.some.inj h
     simp only[Bool.and_eq_true] at h
     obtain⟨⟨h1,h2⟩,h3⟩:=h
     exact⟨hl,λh=>by omega,λh=>by omega,λ_=>⟨HW h1,G6 h2,G6 h3⟩,λh=>by omega,λh=>by omega,hn⟩
    ·rw[decide_eq_false k2,cond_false] at h
     by_cases k3:l.Kind=3
     ·rw[decide_eq_true k3,cond_true] at h
      have h:=Option.some.inj h
      simp only[Bool.and_eq_true,decide_eq_true_eq] at h
      obtain⟨⟨⟨⟨h1,h2⟩,h3⟩,h4⟩,h5⟩:=h
      exact⟨hl,λh=>by omega,λh=>by omega,λh=>by omega,λ_=>⟨HW h3,HW h4,h5⟩,λh=>by omega,hn⟩
     ·rw[decide_eq_false k3,cond_false] at h
      have h:=Option.some.inj h
      simp only[Bool.and_eq_true,decide_eq_true_eq] at h
      obtain⟨⟨⟨h1,h2⟩,h3⟩,h4⟩:=h
      exact⟨hl,λh=>by omega,λh=>by omega,λh=>by omega,λh=>by omega,λ_=>RW h3,hn⟩
   ·have hy:=hc.1 rfl
    rw[cond_true] at h
    have h:=Option.some.inj h
    simp only[Bool.and_eq_true] at h
    obtain⟨⟨h1,h2⟩,h3⟩:=h
    exact⟨hl,λh=>by omega,λ_=>HW h1,λh=>by omega,λh=>by omega,λh=>by omega,hn⟩
  by_cases k1:l.Kind=1
  ·rw[decide_eq_true k1,cond_true] at h
   exact hj true (by simp [k1]) h
  ·rw[decide_eq_false k1,cond_false] at h
   exact hj _ (by simp [k1]) h
theorem SH {N:Nat}(hN:18446744073709551616<N) {b:AK}(hb:Fi b) (hl:∀l∈b.Links,Gh b l) (h:DG N b=some true):∀l∈b.Links,ZG N b l:=by
 have q3:=hb.pl
 have q4:=hb.li
 unfold DG at h
 rcases Ey b.Links.length (BV N b (B8 N)) (B8 N) (λi=>∀l,b.Links[i]? =some l→ZG N b l) (λn k h=>by
  simp only[BV];rw[EK h];rfl) (λn k h=>by
  simp only[BV]
  obtain⟨vf,ef,pf⟩:=OG hN b.Links[k]
  obtain⟨vu,eu⟩:=N1 N b.Links[k]
  rw[EJ h,cond_true,Aw h]
  simp only[Option.bind_some,I8,Lj N _ (show b.Places.length<4611686018427387904 by omega),L7 N b _ _ (show b.Places.length<4611686018427387904 by omega),ef,eu,Dx,H0,Au (show k<4611686018427387904 by omega)]
  generalize hB:(_|| !vu)=B
  cases B
  ·simp only[Bool.or_eq_false_iff,Bool.not_eq_false'] at hB
   obtain⟨⟨_,h5⟩,h6⟩:=hB
   subst h5;subst h6
   refine .inr ⟨λl hl2=>?_,rfl⟩
   have:l=b.Links[k]:=by simpa [h] using hl2.symm
   rw[this]
   exact Qh hN (hl _ (List.getElem_mem h)) ef eu
  ·exact .inl rfl) N 0 (by omega) (Nat.zero_le _) with h2|⟨hp,_⟩
 ·rw[show BV N b (B8 N) N 0=some false from h2] at h;cases h
 ·intro l hl2
  obtain⟨i,hi,rfl⟩:=List.mem_iff_getElem.1 hl2
  exact hp i (Nat.zero_le _) hi _ (by simp [hi])
def Ih (N:Nat) (l:AT):Int:=if l.Kind=0 then U1 N l else if l.Kind=1∨l.Kind=5∨l.Kind=3 then sl N l.Num l.Den else if l.Kind=4 then 2*sl N l.Num l.Den else 0
def KF (N:Nat) (l:AT):Int:=if l.Kind=0∧l.To≠ -1 then sl N l.BackNum l.BackDen else if l.Kind=4 then 2*sl N l.BackNum l.BackDen else 0
def KY (N:Nat) (l:AT) (i:Nat):Int:=(if l.From=(i:Int) then Ih N l else 0)+(if l.To=(i:Int) then KF N l else 0)
theorem DQ {n:Int}(h:E2 n):0≤n∧n≤1125899906842624:=h
theorem NE {N:Nat}(hN:18446744073709551616<N) {b:AK}{l:AT}(hl:Gh b l):(0≤Ih N l∧Ih N l≤2199023255554)∧(0≤KF N l∧KF N l≤2199023255554):=by
 unfold Ih KF
 by_cases k0:l.Kind=0
 ·obtain⟨c1,c2,c3,c4,c5⟩:=hl.gate k0
  obtain⟨_,s1,s2,_⟩:=NC hN c1 c2 c3
  obtain⟨_,t1,t2,_⟩:=D0 hN (DQ c4) (DQ c5)
  rw[if_pos k0]
  refine⟨by omega,?_⟩
  split
  ·omega
  ·rw[if_neg (by omega)];omega
 ·rw[if_neg k0,if_neg (show ¬(l.Kind=0∧l.To≠ -1) from λh=>k0 h.1)]
  by_cases k1:l.Kind=1∨l.Kind=5∨l.Kind=3
  ·obtain⟨h1,h2,h3⟩:=hl.part k1
   obtain⟨_,t1,t2,_⟩:=D0 hN (DQ h1) (show 0≤l.Den∧l.Den≤_ by omega)
   rw[if_pos k1,if_neg (by omega)]
   omega
  ·rw[if_neg k1]
   by_cases k4:l.Kind=4
   ·obtain⟨h1,h2,h3,h4,h5,_⟩:=hl.seep k4
    obtain⟨_,t1,t2,_⟩:=D0 hN (DQ h1) (show 0≤l.Den∧l.Den≤_ by omega)
    obtain⟨_,u1,u2,_⟩:=D0 hN (DQ h4) (DQ h5)
    rw[if_pos k4,if_pos k4]
    omega
   ·rw[if_neg k4,if_neg k4]
    omega
theorem UU {N:Nat}(hN:18446744073709551616<N) {b:AK}{l:AT}(hl:Gh b l) (i:Nat):0≤KY N l i∧KY N l i≤4398046511108:=by
 obtain⟨h1,h2⟩:=NE hN hl
 unfold KY
 split<;>split<;>omega
def Iw (n:Nat) (s:List Int) (g:Nat→Int):Prop:=s.length=n∧∀i,i<n→s[i]? =some (g i)
theorem Iw.ix {n:Nat}{s:List Int}{g:Nat→Int}(h:Iw n s g) {a:Int}(h0:0≤a) (h1:a<n):ix s a=some (g a.toNat):=by
 unfold Go.Proofs.YtibidnaedddfdaaGreat.ix
 rw[if_neg (by omega)]
 exact h.2 _ (by omega)
theorem Iw.upd {n:Nat}{s:List Int}{g:Nat→Int}(h:Iw n s g) {a:Int}(h0:0≤a) (h1:a<n) (v:Int):Iw n (upd s a v) (λi=>if (i:Int)=a then v else g i):=by
 refine⟨by rw[Hj,h.1],λi hi=>?_⟩
 unfold Go.Proofs.YtibidnaedddfdaaGreat.upd
 rw[List.getElem?_set]
 have hl:=h.1
 show _=some (if (i:Int)=a then v else g i)
 by_cases e:(i:Int)=a
 ·rw[if_pos (by omega),if_pos (by omega),if_pos e]
 ·rw[if_neg (by omega),if_neg e]
  exact h.2 i hi
theorem Iw.congr {n:Nat}{s:List Int}{g g':Nat→Int}(h:Iw n s g) (e:∀i,i<n→g i=g' i):Iw n s g':=⟨h.1,λi hi=>(h.2 i hi).trans (congrArg some (e i hi))⟩
theorem Q7 {N:Nat}(hN:18446744073709551616<N) (b:AK) (hb:Fi b) (hl:∀l∈b.Links,Gh b l) (kj:List Int→Option Bool):∀(n k:Nat) (s:List Int) (g:Nat→Int),Iw b.Places.length s g→(∀i,0≤g i∧g i≤(1+4*(k:Int))*1099511627777)→b.Links.length<n+k→k≤b.Links.length→
  ∃s',Iw b.Places.length s' (λi=>g i+((b.Links.drop k).map λl=>KY N l i).sum)∧AZ N b kj n (k:Int) s=kj s'
 |0,k,s,g,hs,_,h,hk=>by omega
 |n+1,k,s,g,hs,hg,h,hk=>by
  have q3:=hb.pl
  have q4:=hb.li
  simp only[AZ]
  rcases Nat.lt_or_ge k b.Links.length with hc|hc
  ·rw[EJ hc,cond_true,Aw hc]
   simp only[Option.bind_some]
   have ok:=hl b.Links[k] (List.getElem_mem hc)
   rw[List.drop_eq_getElem_cons hc]
   generalize b.Links[k]=l at ok
   have sp:=NE hN ok
   have hto:=ok.to
   have hfr:=ok.fr
   have ih:∀s:List Int,Iw b.Places.length s (λi=>g i+KY N l i)→∃s',Iw b.Places.length s' (λi=>g i+((l::b.Links.drop (k+1)).map λl=>KY N l i).sum)∧Ay N (k:Int) (AZ N b kj n) s=kj s':=λs hs=>by
    unfold Ay
    rw[Au (show k<4611686018427387904 by omega)]
    obtain⟨s',h1,h2⟩:=Q7 hN b hb hl kj n (k+1) s _ hs (λi=>by have:=hg i;have:=UU hN ok i;omega) (by omega) (by omega)
    exact⟨s',h1.congr λi _=>by simp only[List.map_cons,List.sum_cons];omega,h2⟩
   have hgb:∀i,0≤g i∧g i≤4503599627370496:=λi=>by have:=hg i;omega
   have hx:=hs.ix hfr.1 hfr.2
   have gx:=hgb l.From.toNat
   have j5:∀c:Bool,(c=true↔l.Kind=1∨l.Kind=5∨l.Kind=3)→l.Kind≠0→∃s',Iw b.Places.length s' (λi=>g i+((l::b.Links.drop (k+1)).map λl=>KY N l i).sum)∧Bj N s l (Ay N (k:Int) (AZ N b kj n)) c=kj s':=λc hc k0=>by
    unfold Bj
    cases c
    ·have hn:¬(l.Kind=1∨l.Kind=5∨l.Kind=3):=λh=>by have:=hc.2 h;cases this
     rw[cond_false]
     by_cases k4:l.Kind=4
     ·rw[decide_eq_true k4,cond_true]
      obtain⟨h1,h2,h3,h4,h5,h6⟩:=ok.seep k4
      obtain⟨hv,v1,v2,_⟩:=D0 hN (DQ h1) (show 0≤l.Den∧l.Den≤_ by omega)
      obtain⟨hv2,v3,v4,_⟩:=D0 hN (DQ h4) (DQ h5)
      have hu:=hs.upd hfr.1 hfr.2 (A3 (g l.From.toNat+A3 (2*sl N l.Num l.Den)))
      have hx2:=hu.ix (a:=l.To) (by omega) (by omega)
      simp only[hx,hv,hx2,hv2,Option.bind_some]
      refine ih _ ((hu.upd (a:=l.To) (by omega) (by omega) _).congr λi hi=>?_)
      have gi:=hgb i
      have gt:=hgb l.To.toNat
      unfold KY Ih KF
      rw[if_neg k0,if_neg hn,if_pos k4,if_neg (show ¬(l.Kind=0∧l.To≠ -1) from λh=>k0 h.1),if_pos k4]
      rw[B9 (n:=2*sl N l.Num l.Den) (by omega) (by omega),B9 (n:=2*sl N l.BackNum l.BackDen) (by omega) (by omega),B9 (n:=g l.From.toNat+2*sl N l.Num l.Den) (by omega) (by omega)]
      by_cases e1:(i:Int)=l.To
      ·have et:l.To.toNat=i:=by omega
       rw[if_pos e1,if_pos e1.symm,et]
       by_cases e2:(i:Int)=l.From
       ·have ef:l.From.toNat=i:=by omega
        rw[if_pos e2,if_pos e2.symm,ef,B9 (by omega) (by omega)]
        omega
       ·rw[if_neg e2,if_neg (show ¬l.From=(i:Int) from λh=>e2 h.symm),B9 (by omega) (by omega)]
        omega
      ·rw[if_neg e1,if_neg (show ¬l.To=(i:Int) from λh=>e1 h.symm)]
       by_cases e2:(i:Int)=l.From
       ·have ef:l.From.toNat=i:=by omega
        rw[if_pos e2,if_pos e2.symm,ef]
        omega
       ·rw[if_neg e2,if_neg (show ¬l.From=(i:Int) from λh=>e2 h.symm)]
        omega
     ·rw[decide_eq_false k4,cond_false]
      refine ih s (hs.congr λi _=>?_)
      unfold KY Ih KF
      rw[if_neg k0,if_neg hn,if_neg k4,if_neg (show ¬(l.Kind=0∧l.To≠ -1) from λh=>k0 h.1),if_neg k4]
      split<;>split<;>omega
    ·have hy:=hc.1 rfl
     rw[cond_true]
     obtain⟨h1,h2,h3⟩:=ok.part hy
     obtain⟨hv,v1,v2,_⟩:=D0 hN (DQ h1) (show 0≤l.Den∧l.Den≤_ by omega)
     simp only[hx,hv,Option.bind_some]
     refine ih _ ((hs.upd hfr.1 hfr.2 _).congr λi hi=>?_)
     unfold KY Ih KF
     rw[if_neg k0,if_pos hy,if_neg (show ¬(l.Kind=0∧l.To≠ -1) from λh=>k0 h.1),if_neg (show ¬l.Kind=4 by omega),B9 (by omega) (by omega)]
     by_cases e2:(i:Int)=l.From
     ·have ef:l.From.toNat=i:=by omega
      rw[if_pos e2,if_pos e2.symm,ef]
      split<;>omega
     ·rw[if_neg e2,if_neg (show ¬l.From=(i:Int) from λh=>e2 h.symm)]
      split<;>omega
   by_cases k0:l.Kind=0
   ·rw[decide_eq_true k0,cond_true]
    obtain⟨c1,c2,c3,c4,c5⟩:=ok.gate k0
    obtain⟨hv,v1,v2,_⟩:=NC hN c1 c2 c3
    obtain⟨hv2,v3,v4,_⟩:=D0 hN (DQ c4) (DQ c5)
    have hu:=hs.upd hfr.1 hfr.2 (A3 (g l.From.toNat+U1 N l))
    simp only[hx,hv,Option.bind_some]
    by_cases t0:l.To= -1
    ·rw[show decide (l.To≠ -1)=false by simp [t0],cond_false]
     refine ih _ (hu.congr λi hi=>?_)
     unfold KY Ih KF
     rw[if_pos k0,if_neg (show ¬(l.Kind=0∧l.To≠ -1) from λh=>h.2 t0),if_neg (show ¬l.Kind=4 by omega),B9 (by omega) (by omega)]
     by_cases e2:(i:Int)=l.From
     ·have ef:l.From.toNat=i:=by omega
      rw[if_pos e2,if_pos e2.symm,ef]
      split<;>omega
     ·rw[if_neg e2,if_neg (show ¬l.From=(i:Int) from λh=>e2 h.symm)]
      split<;>omega
    ·rw[show decide (l.To≠ -1)=true by simp [t0],cond_true]
     have hx2:=hu.ix (a:=l.To) (by omega) (by omega)
     simp only[hx2,hv2,Option.bind_some]
     refine ih _ ((hu.upd (a:=l.To) (by omega) (by omega) _).congr λi hi=>?_)
     have gi:=hgb i
     have gt:=hgb l.To.toNat
     unfold KY Ih KF
     rw[if_pos k0,if_pos (show l.Kind=0∧l.To≠ -1 from⟨k0,t0⟩),B9 (n:=g l.From.toNat+U1 N l) (by omega) (by omega)]
     by_cases e1:(i:Int)=l.To
     ·have et:l.To.toNat=i:=by omega
      rw[if_pos e1,if_pos e1.symm,et]
      by_cases e2:(i:Int)=l.From
      ·have ef:l.From.toNat=i:=by omega
       rw[if_pos e2,if_pos e2.symm,ef,B9 (by omega) (by omega)]
       omega
      ·rw[if_neg e2,if_neg (show ¬l.From=(i:Int) from λh=>e2 h.symm),B9 (by omega) (by omega)]
       omega
     ·rw[if_neg e1,if_neg (show ¬l.To=(i:Int) from λh=>e1 h.symm)]
      by_cases e2:(i:Int)=l.From
      ·have ef:l.From.toNat=i:=by omega
       rw[if_pos e2,if_pos e2.symm,ef]
       omega
      ·rw[if_neg e2,if_neg (show ¬l.From=(i:Int) from λh=>e2 h.symm)]
       omega
   ·rw[decide_eq_false k0,cond_false]
    by_cases k1:l.Kind=1
    ·rw[decide_eq_true k1,cond_true]
     exact j5 true ⟨λ_=> .inl k1,λ_=>rfl⟩ k0
    ·rw[decide_eq_false k1,cond_false]
     by_cases k5:l.Kind=5
     ·rw[decide_eq_true k5,cond_true]
      exact j5 true ⟨λ_=> .inr (.inl k5),λ_=>rfl⟩ k0
     ·rw[decide_eq_false k5,cond_false]
      exact j5 _ ⟨λh=> .inr (.inr (by simpa using h)),λh=>by simp;omega⟩ k0
  ·rw[EK hc]
   refine⟨s,hs.congr λi _=>?_,rfl⟩
   rw[List.drop_eq_nil_of_le hc]
   simp
theorem QU {N:Nat}(hN:18446744073709551616<N) {b:AK}(hb:Fi b) (hp:∀p∈b.Places,HR b p) (hl:∀l∈b.Links,Gh b l) (h:C0 N b=some true):
  ∀(i:Nat) p,b.Places[i]? =some p→sl N p.Num p.Den+(b.Links.map λl=>KY N l i).sum≤1099511627776:=by
 have q3:=hb.pl
 have q4:=hb.li
 unfold C0 at h
 rw[show Jt (b.Places.length:Int) (b.Places.length:Int) 8=true by simp [Jt];omega] at h
 simp only[chk,cond_true] at h
 obtain⟨s1,g1,g2⟩:=GJ b.Places.length (λn i s=>BQ N b (BC N b) n i s) (BC N b) (λk s=>Iw b.Places.length s (λi=>if i<k then sl N ((b.Places.getD i default).Num) ((b.Places.getD i default).Den) else 0)) (λn k s hk=>by
  simp only[BQ];rw[EK hk];rfl) (λn k s hi hk=>by
  have ok:=hp b.Places[k] (List.getElem_mem hk)
  obtain⟨hv,v1,v2,_⟩:=D0 hN (DQ ok.num) (DQ ok.den)
  have hx:=hi.ix (a:=(k:Int)) (by omega) (by omega)
  simp only[BQ]
  rw[EJ hk,cond_true,Aw hk]
  simp only[Option.bind_some,hv,hx,Au (show k<4611686018427387904 by omega)]
  refine⟨_,(hi.upd (a:=(k:Int)) (by omega) (by omega) (sl N b.Places[k].Num b.Places[k].Den)).congr λi hi2=>?_,rfl⟩
  by_cases e:i=k
  ·subst e
   rw[if_pos rfl,if_pos (by omega),List.getD_eq_getElem?_getD,List.getElem?_eq_getElem hk]
   rfl
  ·rw[if_neg (by omega)]
   by_cases e2:i<k
   ·rw[if_pos e2,if_pos (by omega)]
   ·rw[if_neg e2,if_neg (by omega)]) N 0 (List.replicate ((b.Places.length:Int):Int).toNat 0) ⟨by simp,λi hi=>by simp [hi]⟩ (by omega) (Nat.zero_le _)
 rw[show BQ N b (BC N b) N 0 (List.replicate ((b.Places.length:Int):Int).toNat 0)=BC N b s1 from g2] at h
 unfold BC at h
 have hge:∀i,0≤(if i<b.Places.length then sl N ((b.Places.getD i default).Num) ((b.Places.getD i default).Den) else 0)∧(if i<b.Places.length then sl N ((b.Places.getD i default).Num) ((b.Places.getD i default).Den) else 0)≤(1+4*((0:Nat):Int))*1099511627777:=by
  intro i
  split
  ·rename_i hi
   have ok:=hp b.Places[i] (List.getElem_mem hi)
   obtain⟨hv,v1,v2,_⟩:=D0 hN (DQ ok.num) (DQ ok.den)
   rw[List.getD_eq_getElem?_getD,List.getElem?_eq_getElem hi]
   simp only[Option.getD_some]
   omega
  ·omega
 obtain⟨s2,g3,g4⟩:=Q7 hN b hb hl (Az N) N 0 s1 _ g1 hge (by omega) (Nat.zero_le _)
 rw[show AZ N b (Az N) N 0 s1=Az N s2 from g4] at h
 unfold Az at h
 have hl2:=g3.1
 rcases Ey s2.length (BP N s2 (Bp N)) (Bp N) (λi=>∀x,s2[i]? =some x→x≤1099511627776) (λn k h=>by
  simp only[BP];rw[EK h];rfl) (λn k h=>by
  simp only[BP]
  rw[EJ h,cond_true,Aw h]
  simp only[Option.bind_some,Au (show k<4611686018427387904 by omega)]
  by_cases hx:1099511627776<s2[k]
  ·rw[decide_eq_true hx];exact .inl rfl
  ·rw[decide_eq_false hx]
   refine .inr ⟨λx e=>?_,rfl⟩
   rw[List.getElem?_eq_getElem h] at e
   cases e
   omega) N 0 (by omega) (Nat.zero_le _) with h3|⟨h3,_⟩
 ·rw[show BP N s2 (Bp N) N 0=some false from h3] at h;cases h
 ·intro i p hip
  have hi:=(List.getElem?_eq_some_iff.1 hip).1
  have h4:(if i<b.Places.length then sl N (b.Places.getD i default).Num (b.Places.getD i default).Den else 0)+((b.Links.drop 0).map λl=>KY N l i).sum≤1099511627776:=h3 i (Nat.zero_le _) (by omega) _ (g3.2 i hi)
  rw[if_pos hi,List.getD_eq_getElem?_getD,hip] at h4
  exact h4
structure OP (N:Nat) (b:AK):Prop where
 head:Fi b
 places:∀p∈b.Places,HR b p
 links:∀l∈b.Links,Gh b l
 lk:∀l∈b.Links,QL N l (Ih N l) (KF N l)
 ctr0:∀l∈b.Links,∀i,0≤KY N l i
 rt:∀p∈b.Places,p.Den≠0→QP p.Num p.Den (sl N p.Num p.Den)
 rt0:∀p∈b.Places,0≤sl N p.Num p.Den
 sums:∀(i:Nat) p,b.Places[i]? =some p→sl N p.Num p.Den+(b.Links.map λl=>KY N l i).sum≤1099511627776
theorem ZZ {N:Nat}(hN:18446744073709551616<N) {b:AK}{l:AT}(h:ZG N b l) (hF:Ih N l≤1099511627776) (hT:l.To≠ -1→KF N l≤1099511627776):QL N l (Ih N l) (KF N l):=by
 have hb:=h.base
 have sp:=NE hN hb
 have hk:=hb.kind
 refine⟨sp.1.1,sp.2.1,λk0=>?_,λk1=>?_,λk2=>⟨(h.pump k2).1,(h.pump k2).2.1⟩,λk3=>?_,λk4=>?_,?_⟩
 ·obtain⟨c1,c2,c3,c4,c5⟩:=hb.gate k0
  obtain⟨g1,g2,g3,g4,g5,g6,g7⟩:=h.gate k0
  obtain⟨_,s1,s2,s3⟩:=NC hN c1 c2 c3
  have eF:Ih N l=U1 N l:=by unfold Ih;rw[if_pos k0]
  rw[eF] at hF ⊢
  refine⟨c1,c2,c3,g1,g2,g3,g5,VE hN c2 s1 hF s3,λht=>?_⟩
  have eT:KF N l=sl N l.BackNum l.BackDen:=by unfold KF;rw[if_pos (show l.Kind=0∧l.To≠ -1 from⟨k0,ht⟩)]
  have hT:=hT ht
  rw[eT] at hT ⊢
  exact(D0 hN (DQ c4) (DQ c5)).2.2.2.1 hT g6
 ·obtain⟨p1,p2,p3⟩:=hb.part (by omega)
  have eF:Ih N l=sl N l.Num l.Den:=by unfold Ih;rw[if_neg (show ¬l.Kind=0 by omega),if_pos (show l.Kind=1∨l.Kind=5∨l.Kind=3 by omega)]
  rw[eF] at hF ⊢
  exact⟨(D0 hN (DQ p1) (show 0≤l.Den∧l.Den≤_ by omega)).2.2.2.1 hF (λh=>by omega),h.weir k1⟩
 ·obtain⟨p1,p2,p3⟩:=hb.part (by omega)
  have eF:Ih N l=sl N l.Num l.Den:=by unfold Ih;rw[if_neg (show ¬l.Kind=0 by omega),if_pos (show l.Kind=1∨l.Kind=5∨l.Kind=3 by omega)]
  rw[eF] at hF ⊢
  exact⟨(D0 hN (DQ p1) (show 0≤l.Den∧l.Den≤_ by omega)).2.2.2.1 hF (λh=>by omega),(h.siph k3).1,(h.siph k3).2.1⟩
 ·obtain⟨p1,p2,p3,p4,p5,p6⟩:=hb.seep k4
  have eF:Ih N l=2*sl N l.Num l.Den:=by unfold Ih;rw[if_neg (show ¬l.Kind=0 by omega),if_neg (show ¬(l.Kind=1∨l.Kind=5∨l.Kind=3) by omega),if_pos k4]
  have eT:KF N l=2*sl N l.BackNum l.BackDen:=by unfold KF;rw[if_neg (show ¬(l.Kind=0∧l.To≠ -1) by omega),if_pos k4]
  have hT:=hT p6
  rw[eF] at hF ⊢
  rw[eT] at hT ⊢
  obtain⟨_,a1,_,a2,_⟩:=D0 hN (DQ p1) (show 0≤l.Den∧l.Den≤_ by omega)
  obtain⟨_,b1,_,b2,_⟩:=D0 hN (DQ p4) (DQ p5)
  have A:=a2 (by omega) (λh=>by omega)
  have B:=b2 (by omega) (h.seep k4)
  have dbl:∀{n d s:Int},QP n d s→QP n d (2*s):=λ{n d s} h=>by
   have h0:=h.n0
   have h1:=h.nd
   have h2:=h.s0
   refine⟨h0,h1,h.dm,by omega,Int.le_trans h.sl (Int.mul_le_mul_of_nonneg_right (by omega) (by omega))⟩
  exact⟨dbl A,dbl B,p6⟩
 ·by_cases k0:l.Kind=0
  ·obtain⟨g1,g2,g3,g4,g5,g6,g7⟩:=h.gate k0
   omega
  ·by_cases k2:l.Kind=2
   ·obtain⟨g1,g2,g3⟩:=h.pump k2
    omega
   ·have:=h.none_ k0 k2
    omega
theorem XU {N:Nat}(hN:18446744073709551616<N) {b:AK}(h:Zx N b=some true):OP N b∧Hn b:=by
 obtain⟨v,e,k⟩:=Pf hN b
 rw[h] at e
 cases e
 have k:=k rfl
 have hinv:DG N b=some true∧C0 N b=some true:=by
  unfold Zx at h
  obtain⟨y9,_,h⟩:=bd h
  obtain⟨b12,h12,h⟩:=bd h
  obtain⟨b18,h18,h⟩:=bd h
  obtain⟨b24,h24,h⟩:=bd h
  obtain⟨b30,h30,h⟩:=bd h
  obtain⟨b36,h36,h⟩:=bd h
  obtain⟨b42,h42,h⟩:=bd h
  obtain⟨b48,h48,h⟩:=bd h
  obtain⟨b54,h54,h⟩:=bd h
  have up:∀{c:Bool} {x:Option Bool} {d:Bool},cond c (Option.bind x λy=>some y) (some false)=some d→d=true→c=true∧x=some true:=by
   intro c x d hc hd
   subst hd
   cases c
   ·cases hc
   ·cases x with
    |none=>cases hc
    |some y=>exact⟨rfl,hc⟩
  have t54:=Option.some.inj h
  have t48:=up h54 t54
  have t42:=up h48 t48.1
  have t36:=up h42 t42.1
  have t30:=up h36 t36.1
  have t24:=up h30 t30.1
  have t18:=up h24 t24.1
  exact⟨t18.2,t30.2⟩
 have lf:=SH hN k.head k.links hinv.1
 have sm:=QU hN k.head k.places k.links hinv.2
 have c0:∀l∈b.Links,∀i,0≤KY N l i:=λl hl i=>(UU hN (k.links l hl) i).1
 have r0:∀p∈b.Places,0≤sl N p.Num p.Den:=λp hp=>(D0 hN (DQ (k.places p hp).num) (DQ (k.places p hp).den)).2.1
 have one:∀l∈b.Links,∀(i:Nat),i<b.Places.length→KY N l i≤1099511627776:=λl hl i hi=>by
  have h1:=sm i _ (List.getElem?_eq_getElem hi)
  have h2:=r0 _ (List.getElem_mem hi)
  obtain⟨x,y,e⟩:=List.append_of_mem hl
  have hx:0≤(x.map λl=>KY N l i).sum:=Og λz hz=>c0 z (by rw[e];simp [hz]) i
  have hy:0≤(y.map λl=>KY N l i).sum:=Og λz hz=>c0 z (by rw[e];simp [hz]) i
  have e2:(b.Links.map λl=>KY N l i).sum=(x.map λl=>KY N l i).sum+(KY N l i+(y.map λl=>KY N l i).sum):=by
   rw[e,List.map_append,List.sum_append,List.map_cons,List.sum_cons]
  omega
 refine⟨⟨k.head,k.places,k.links,λl hl=>?_,c0,λp hp hd=>?_,r0,sm⟩,k⟩
 ·have sp:=NE hN (k.links l hl)
  have fr:=(k.links l hl).fr
  have to:=(k.links l hl).to
  refine ZZ hN (lf l hl) ?_ λht=>?_
  ·have h1:=one l hl l.From.toNat (by omega)
   unfold KY at h1
   rw[if_pos (show l.From=((l.From.toNat:Nat):Int) by omega)] at h1
   split at h1<;>omega
  ·have h1:=one l hl l.To.toNat (by omega)
   unfold KY at h1
   rw[if_pos (show l.To=((l.To.toNat:Nat):Int) by omega)] at h1
   split at h1<;>omega
 ·obtain⟨i,hi,rfl⟩:=List.mem_iff_getElem.1 hp
  have h1:=sm i _ (List.getElem?_eq_getElem hi)
  have h2:0≤(b.Links.map λl=>KY N l i).sum:=Og λz hz=>c0 z hz i
  have ok:=k.places _ hp
  exact(D0 hN (DQ ok.num) (DQ ok.den)).2.2.2.1 (by omega) (λh=>absurd h hd)
end Go.Proofs.YtibidnaedddfdaaGreat
