import Derived.Test.YtibidnaedddfdaaGreatAPureRight
namespace Go.Proofs.YtibidnaedddfdaaGreat
open Go.RowKit
set_option linter.unusedVariables false
set_option linter.unusedSimpArgs false
structure Ie (b:AJ) (p:Ce):Prop where
 lev:G1 p.Level
 num:G3 p.Num
 den:G3 p.Den
 down:p.Down= -1∨(0≤p.Down∧p.Down<b.Places.length)
 cap:G3 p.Cap
 delay:0≤p.Delay∧p.Delay≤240
theorem PZ {N:Nat}(p:Ce) (kj:Int→Option Bool) (hl:p.Start.length≤16):∀(n:Nat) (s:Int) (k:Nat),p.Start.length<n+k→k≤p.Start.length→BV N p kj n s (k:Int)=some false∨∃s',BV N p kj n s (k:Int)=kj s'
 |0,s,k,h,hk=>by omega
 |n+1,s,k,h,hk=>by
  simp only[BV]
  rcases Nat.lt_or_ge k p.Start.length with hc|hc
  ·rw[EN hc,cond_true,A9 hc]
   simp only[Option.bind_some,Je,Az (show k<4611686018427387904 by omega)]
   cases OX p.Start[k]
   ·exact .inl rfl
   ·exact PZ (N:=N) p kj hl n _ (k+1) (by omega) (by omega)
  ·rw[EO hc];exact .inr ⟨s,rfl⟩
theorem Qs {N:Nat}(b:AJ) (p:Ce) (i109:Int) (kj:Int→Option Bool) (hc:0≤b.Cells∧b.Cells≤64):∀(n:Nat) (s:Int) (k:Nat), -1≤s→s≤64→65<n+s→k<100→(k:Int)≤s+1→BU N b p i109 kj n s (k:Int)=some false∨BU N b p i109 kj n s (k:Int)=kj i109
 |0,s,k,h1,h2,h3,h4,h5=>by omega
 |n+1,s,k,h1,h2,h3,h4,h5=>by
  simp only[BU]
  rcases Nat.lt_or_ge k p.Rain.length with hk|hk
  ·rw[EN hk,cond_true,A9 hk]
   simp only[Option.bind_some,Je,C2,JQ,Az (show k<4611686018427387904 by omega)]
   cases hB:(decide ((p.Rain[k]).Index≤s)||decide (b.Cells≤(p.Rain[k]).Index)|| !OX (p.Rain[k]).Area)
   ·simp only[Bool.or_eq_false_iff,decide_eq_false_iff_not] at hB
    obtain⟨⟨g1,g2⟩,g3⟩:=hB
    exact Qs (N:=N) b p i109 kj hc n _ (k+1) (by omega) (by omega) (by omega) (by omega) (by omega)
   ·exact .inl rfl
  ·rw[EO hk];exact .inr rfl
theorem OJ {N:Nat}(hN:1000<N) (b:AJ) (hb:FE b):∀(n:Nat) (s:Int) (k:Nat),b.Places.length<n+k→k≤b.Places.length→∃v,Ax N b (A5 N) n s (k:Int)=some v∧(v=true→∀(i:Nat) p,k≤i→b.Places[i]? =some p→Ie b p)
 |0,s,k,h,hk=>by omega
 |n+1,s,k,h,hk=>by
  have q3:=hb.pl
  simp only[Ax]
  rcases Nat.lt_or_ge k b.Places.length with hc|hc
  ·rw[EN hc,cond_true,A9 hc]
   obtain⟨cv,hcv,hcp⟩:=Ha (N:=N) (by omega) (b.Places[k]).Level
   simp only[Option.bind_some,Lb,Je,Oq,hcv,OE N b _ _ (show b.Places.length<4611686018427387904 by omega),C2,JQ]
   generalize hB:(_|| !PU b.Places.length (k:Int) (b.Places[k]).Down)=B
   cases B
   ·simp only[Bool.or_eq_false_iff,decide_eq_false_iff_not,Bool.not_eq_false'] at hB
    obtain⟨⟨⟨⟨⟨⟨⟨⟨h1,h2⟩,h3⟩,h4⟩,h5⟩,h6⟩,h7⟩,h8⟩,h9⟩:=hB
    have hst:(b.Places[k]).Start.length=b.Owners.length:=by
     have:((b.Places[k]).Start.length:Int)=(b.Owners.length:Int):=by simpa using h7
     omega
    have hP:Ie b b.Places[k]:=⟨hcp h6,(LC h8).1,(LC h8).2,Qo h9,Kb h4,IR h3⟩
    simp only[cond_false]
    rcases PZ (N:=N) b.Places[k] (CN N b b.Places[k] (BL N (k:Int) (Ax N b (A5 N) n))) (by have:=hb.own;omega) N s 0 (by have:=hb.own;omega) (Nat.zero_le _) with e|⟨s',e⟩
    ·exact⟨false,e,λh=>by cases h⟩
    ·have e0:BV N b.Places[k] (CN N b b.Places[k] (BL N (k:Int) (Ax N b (A5 N) n))) N s 0=_:=e
     rw[e0]
     unfold CN
     rcases Qs (N:=N) b b.Places[k] s' (BL N (k:Int) (Ax N b (A5 N) n)) hb.cells N (-1) 0 (by omega) (by omega) (by omega) (by omega) (by omega) with e|e
     ·exact⟨false,e,λh=>by cases h⟩
     ·have e1:BU N b b.Places[k] s' (BL N (k:Int) (Ax N b (A5 N) n)) N (-1) 0=_:=e
      rw[e1]
      unfold BL
      rw[Az (show k<4611686018427387904 by omega)]
      obtain⟨v,g1,g2⟩:=OJ hN b hb n s' (k+1) (by omega) (by omega)
      refine⟨v,g1,λhv i p hi hp=>?_⟩
      by_cases ei:i=k
      ·subst ei
       have:p=b.Places[i]:=by simpa [hc] using hp.symm
       rw[this];exact hP
      ·exact g2 hv i p (by omega) hp
   ·exact⟨false,rfl,λh=>by cases h⟩
  ·rw[EO hc]
   refine⟨_,rfl,λ_ i p hi hp=>?_⟩
   have:=(List.getElem?_eq_some_iff.1 hp).1
   omega
theorem Rf {N:Nat}(hN:1000<N) (b:AJ) (hb:FE b):∃v,Fp N b=some v∧(v=true→∀p∈b.Places,Ie b p):=by
 obtain⟨v,h1,h2⟩:=OJ hN b hb N 0 0 (by have:=hb.pl;omega) (Nat.zero_le _)
 refine⟨v,h1,λhv p hp=>?_⟩
 obtain⟨i,hi,rfl⟩:=List.mem_iff_getElem.1 hp
 exact h2 hv i _ (Nat.zero_le _) (by simp [hi])
structure K6 (b:AJ) (l:AX):Prop where
 kind:0≤l.Kind∧l.Kind≤5
 fr:0≤l.From∧l.From<b.Places.length
 to:l.To= -1∨(0≤l.To∧l.To<b.Places.length)
 delay:0≤l.Delay∧l.Delay≤240
 gate:l.Kind=0→G1 l.Rate∧G1 l.Band.Lo∧G1 l.Band.Hi∧G3 l.BackNum∧G3 l.BackDen
 part:l.Kind=1∨l.Kind=5∨l.Kind=3→G3 l.Num∧1≤l.Den∧l.Den≤1125899906842624
 seep:l.Kind=4→G3 l.Num∧1≤l.Den∧l.Den≤1125899906842624∧G3 l.BackNum∧G3 l.BackDen∧l.To≠ -1
theorem SA {N:Nat}(hN:18446744073709551616<N) (a b:List BA) (ha:1≤a.length) (ha2:a.length≤32) (hb2:b.length≤32):Df (Dg N a b):=by
 unfold Dg
 rcases Fm b.length (Dd N a b (E4 N)) (E4 N) (λ_=>True) (λn k h=>by
  simp only[Dd];rw[EO h];rfl) (λn k h=>by
  simp only[Dd]
  obtain⟨v,hv⟩:=PQ hN ha ha2 (b[k]).X
  rw[EN h,cond_true,A9 h]
  simp only[Option.bind_some,hv,Az (show k<4611686018427387904 by omega)]
  cases (decide ((b[k]).Y<v.1)||decide (v.1=(b[k]).Y)&&v.2)
  ·exact .inr ⟨trivial,rfl⟩
  ·exact .inl rfl) N 0 (by omega) (Nat.zero_le _) with h|⟨_,h⟩
 ·exact⟨_,h⟩
 ·exact⟨true,h⟩
theorem PR {N:Nat}(hN:18446744073709551616<N) (a b:List BA):Df (GS N a b):=by
 unfold GS
 obtain⟨va,ea,pa⟩:=Ha (N:=N) (by omega) a
 obtain⟨vb,eb,pb⟩:=Ha (N:=N) (by omega) b
 simp only[ea,eb,Option.bind_some,C2,JQ]
 refine Df.cond (λ_=>Df.mk _) λh=>?_
 simp only[Bool.or_eq_false_iff,Bool.not_eq_false'] at h
 obtain⟨a1,a2,_⟩:=pa h.1
 obtain⟨b1,b2,_⟩:=pb h.2
 rcases Fm a.length (De N a b (Dg N a b)) (Dg N a b) (λ_=>True) (λn k h=>by
  simp only[De];rw[EO h];rfl) (λn k h=>by
  simp only[De]
  obtain⟨v,hv⟩:=PQ hN b1 b2 (a[k]).X
  rw[EN h,cond_true,A9 h]
  simp only[Option.bind_some,hv,Az (show k<4611686018427387904 by omega)]
  cases decide (v.1<(a[k]).Y)
  ·exact .inr ⟨trivial,rfl⟩
  ·exact .inl rfl) N 0 (by omega) (Nat.zero_le _) with h|⟨_,h⟩
 ·exact⟨_,h⟩
 ·obtain⟨v,hv⟩:=SA hN a b a1 a2 b2
  exact⟨v,h.trans hv⟩
theorem Rr {N:Nat}(hN:18446744073709551616<N) (l:AX):∃v,Es N l=some v∧(v=true→
  (l.Kind=0→G1 l.Rate∧G1 l.Band.Lo∧G1 l.Band.Hi∧G3 l.BackNum∧G3 l.BackDen)∧(l.Kind=1∨l.Kind=5∨l.Kind=3→G3 l.Num∧1≤l.Den∧l.Den≤1125899906842624)∧
  (¬(l.Kind=0∨l.Kind=1∨l.Kind=5∨l.Kind=2∨l.Kind=3)→G3 l.Num∧1≤l.Den∧l.Den≤1125899906842624∧G3 l.BackNum∧G3 l.BackDen∧l.To≠ -1)):=by
 obtain⟨v1,e1,p1⟩:=Ha (N:=N) (by omega) l.Rate
 obtain⟨v2,e2,p2⟩:=Ha (N:=N) (by omega) l.Band.Lo
 obtain⟨v3,e3,p3⟩:=Ha (N:=N) (by omega) l.Band.Hi
 obtain⟨v4,e4⟩:=PR hN l.Band.Lo l.Rate
 obtain⟨v5,e5⟩:=PR hN l.Rate l.Band.Hi
 unfold Es
 by_cases k0:l.Kind=0
 ·rw[show decide (l.Kind=0)=true by simp [k0],cond_true]
  simp only[e1,e2,e3,e4,e5,Lb,Je,Oq,Option.bind_some,C2,Js]
  refine⟨_,rfl,λh=>?_⟩
  simp only[Bool.and_eq_true] at h
  obtain⟨⟨⟨⟨⟨⟨⟨⟨⟨h1,h2⟩,h3⟩,h4⟩,h5⟩,h6⟩,h7⟩,h8⟩,h9⟩,h10⟩:=h
  exact⟨λ_=>⟨p1 h1,p2 h2,p3 h3,(LC h9).1,(LC h9).2⟩,λh=>by omega,λh=>absurd (.inl k0) h⟩
 ·rw[show decide (l.Kind=0)=false by simp [k0],cond_false]
  have hj:∀c:Bool,(c=true↔l.Kind=1∨l.Kind=5)→∃v,C0 N l c=some v∧(v=true→
    (l.Kind=0→G1 l.Rate∧G1 l.Band.Lo∧G1 l.Band.Hi∧G3 l.BackNum∧G3 l.BackDen)∧(l.Kind=1∨l.Kind=5∨l.Kind=3→G3 l.Num∧1≤l.Den∧l.Den≤1125899906842624)∧
    (¬(l.Kind=0∨l.Kind=1∨l.Kind=5∨l.Kind=2∨l.Kind=3)→G3 l.Num∧1≤l.Den∧l.Den≤1125899906842624∧G3 l.BackNum∧G3 l.BackDen∧l.To≠ -1)):=λc hc=>by
   unfold C0
   simp only[Lb,Je,Oq,Option.bind_some,C2,Js]
   cases c
   ·have hn:¬(l.Kind=1∨l.Kind=5):=λh=>by have:=hc.2 h;cases this
    rw[cond_false]
    by_cases k2:l.Kind=2
    ·rw[show decide (l.Kind=2)=true by simp [k2],cond_true]
     exact⟨_,rfl,λ_=>⟨λh=>absurd h k0,λh=>by omega,λh=>absurd (.inr (.inr (.inr (.inl k2)))) h⟩⟩
    ·rw[show decide (l.Kind=2)=false by simp [k2],cond_false]
     by_cases k3:l.Kind=3
     ·rw[show decide (l.Kind=3)=true by simp [k3],cond_true]
      refine⟨_,rfl,λh=>?_⟩
      simp only[Bool.and_eq_true] at h
      obtain⟨⟨⟨⟨h1,h2⟩,h3⟩,h4⟩,h5⟩:=h
      exact⟨λh=>absurd h k0,λ_=>⟨Kb h1,IR h2⟩,λh=>absurd (.inr (.inr (.inr (.inr k3)))) h⟩
     ·rw[show decide (l.Kind=3)=false by simp [k3],cond_false]
      refine⟨_,rfl,λh=>?_⟩
      simp only[Bool.and_eq_true,decide_eq_true_eq] at h
      obtain⟨⟨⟨h1,h2⟩,h3⟩,h4⟩:=h
      exact⟨λh=>absurd h k0,λh=>by omega,λ_=>⟨Kb h1,(IR h2).1,(IR h2).2,(LC h3).1,(LC h3).2,h4⟩⟩
   ·have hy:=hc.1 rfl
    rw[cond_true]
    refine⟨_,rfl,λh=>?_⟩
    simp only[Bool.and_eq_true] at h
    obtain⟨⟨h1,h2⟩,h3⟩:=h
    exact⟨λh=>absurd h k0,λ_=>⟨Kb h2,IR h3⟩,λh=>by omega⟩
  by_cases k1:l.Kind=1
  ·rw[show decide (l.Kind=1)=true by simp [k1],cond_true]
   exact hj true (by simp [k1])
  ·rw[show decide (l.Kind=1)=false by simp [k1],cond_false]
   exact hj _ (by simp [k1])
theorem RX (N:Nat) (l:AX):Df (Eo N l):=by
 unfold Eo
 exact Df.cond (λ_=>Df.mk _) λ_=>Df.cond (λ_=>Df.mk _) λ_=>Df.cond (λ_=>Df.mk _) λ_=>Df.cond (λ_=>Df.mk _) λ_=>Df.cond (λ_=>Df.mk _) λ_=>Df.mk _
theorem Ss {N:Nat}(hN:18446744073709551616<N) (b:AJ) (hb:FE b):∃v,FC N b=some v∧(v=true→∀l∈b.Links,K6 b l):=by
 have q3:=hb.pl
 have q4:=hb.li
 unfold FC
 rcases Fm b.Links.length (B0 N b (DC N)) (DC N) (λi=>∀l,b.Links[i]? =some l→K6 b l) (λn k h=>by
  simp only[B0];rw[EO h];rfl) (λn k h=>by
  simp only[B0]
  obtain⟨vf,ef,pf⟩:=Rr hN b.Links[k]
  obtain⟨vu,eu⟩:=RX N b.Links[k]
  rw[EN h,cond_true,A9 h]
  simp only[Option.bind_some,Lb,Nc N _ (show b.Places.length<4611686018427387904 by omega),OE N b _ _ (show b.Places.length<4611686018427387904 by omega),ef,eu,C2,JQ,Az (show k<4611686018427387904 by omega)]
  generalize hB:(_|| !vu)=B
  cases B
  ·simp only[Bool.or_eq_false_iff,Bool.not_eq_false'] at hB
   obtain⟨⟨⟨⟨⟨h1,h2⟩,h3⟩,h4⟩,h5⟩,h6⟩:=hB
   have i1:=IR h1
   have i2:=IR h2
   obtain⟨f1,f2,f3⟩:=pf h5
   refine .inr ⟨λl hl=>?_,rfl⟩
   have:l=b.Links[k]:=by simpa [h] using hl.symm
   rw[this]
   exact⟨i1,⟨i2.1,by omega⟩,Qo h3,IR h4,f1,f2,λh4=>f3 (by omega)⟩
  ·exact .inl rfl) N 0 (by omega) (Nat.zero_le _) with h|⟨hp,h⟩
 ·exact⟨false,h,λh=>by cases h⟩
 ·refine⟨true,h,λ_ l hl=>?_⟩
  obtain⟨i,hi,rfl⟩:=List.mem_iff_getElem.1 hl
  exact hp i (Nat.zero_le _) hi _ (by simp [hi])
theorem Qw (N:Nat) (b:AJ) (o to:Int) (h:to= -1∨(0≤to∧to<b.Places.length)):Df (G0 N b o to):=by
 unfold G0
 refine Df.cond (λ_=>Df.mk _) λhc=>?_
 simp only[decide_eq_false_iff_not] at hc
 exact Df.bind (Df.ix (by omega) (by omega)) λ_ _=>Df.mk _
theorem QP {N:Nat}(hN:1000<N) (b:AJ) (hb:FE b) (hp:∀p∈b.Places,Ie b p) (hl:∀l∈b.Links,K6 b l):Df (EX N b):=by
 have q3:=hb.pl
 have q4:=hb.li
 have hj:Df (Bi N b):=by
  unfold Bi
  rcases Fm b.Links.length (Bg N b (Ch N)) (Ch N) (λ_=>True) (λn k h=>by
   simp only[Bg];rw[EO h];rfl) (λn k h=>by
   simp only[Bg]
   have ok:=hl b.Links[k] (List.getElem_mem h)
   obtain⟨x,hx⟩:=Df.ix (l:=b.Places) ok.fr.1 ok.fr.2
   obtain⟨v,hv⟩:=Qw N b x.Office (b.Links[k]).To ok.to
   rw[EN h,cond_true,A9 h]
   simp only[Option.bind_some,hx,hv,Az (show k<4611686018427387904 by omega)]
   have hz:∃z,(cond (!v) (some true) (Option.bind (cond (decide ((b.Links[k]).Kind=4)) (Option.bind (ix b.Places (b.Links[k]).To) λx140=>some (decide (x140.Office≠x.Office))) (some false)) λb135=>some b135))=some z:=by
    refine Df.cond (λ_=>Df.mk _) λ_=>Df.bind (Df.cond (λh4=>?_) λ_=>Df.mk _) λ_ _=>Df.mk _
    have h4':(b.Links[k]).Kind=4:=by simpa using h4
    have:=(ok.seep h4').2.2.2.2.2
    have:=ok.to
    exact Df.bind (Df.ix (by omega) (by omega)) λ_ _=>Df.mk _
   obtain⟨z,hz⟩:=hz
   rw[hz]
   simp only[Option.bind_some]
   cases z
   ·exact .inr ⟨trivial,rfl⟩
   ·exact .inl rfl) N 0 (by omega) (Nat.zero_le _) with h|⟨_,h⟩
  ·exact⟨_,h⟩
  ·exact⟨true,h⟩
 unfold EX
 rcases Fm b.Places.length (Bh N b (Bi N b)) (Bi N b) (λ_=>True) (λn k h=>by
   simp only[Bh];rw[EO h];rfl) (λn k h=>by
   simp only[Bh]
   have ok:=hp b.Places[k] (List.getElem_mem h)
   obtain⟨v,hv⟩:=Qw N b (b.Places[k]).Office (b.Places[k]).Down ok.down
   rw[EN h,cond_true,A9 h]
   simp only[Option.bind_some,hv,Az (show k<4611686018427387904 by omega)]
   cases v
   ·exact .inl rfl
   ·exact .inr ⟨trivial,rfl⟩) N 0 (by omega) (Nat.zero_le _) with h|⟨_,h⟩
 ·exact⟨_,h⟩
 ·obtain⟨v,hv⟩:=hj
  exact⟨v,h.trans hv⟩
theorem PY {N:Nat}(hN:18446744073709551616<N) (c:List BA) (hc:G1 c) (kj:Int→Option Int):∀(n:Nat) (s:Int) (k:Nat),c.length<n+k→1≤k→k≤c.length→∃s',CX N c kj n s (k:Int)=kj s'
 |0,s,k,h,h1,hk=>by omega
 |n+1,s,k,h,h1,hk=>by
  obtain⟨g1,g2,g3⟩:=hc
  simp only[CX]
  rcases Nat.lt_or_ge k c.length with hl|hl
  ·have e1:Ar ((k:Int)-1)=((k-1:Nat):Int):=by rw[E6 (by omega) (by omega)];omega
   rw[EN hl,cond_true,e1,A9 hl,A9 (show k-1<c.length by omega)]
   simp only[Option.bind_some,Az (show k<4611686018427387904 by omega)]
   obtain⟨a1,a2,a3⟩:=g3 k c[k] (by simp [hl])
   obtain⟨b1,b2,_⟩:=g3 (k-1) c[k-1] (by simp [show k-1<c.length by omega])
   obtain⟨d1,d2⟩:=a3 c[k-1] (by omega) (by simp [show k-1<c.length by omega])
   unfold G3 at a1 a2 b1 b2
   obtain⟨v,hv⟩:=JV hN (num:=Ar ((c[k]).Y-(c[k-1]).Y)) (den:=Ar ((c[k]).X-(c[k-1]).X)) (by rw[E6 (by omega) (by omega)];omega) (by rw[E6 (by omega) (by omega)];omega) (by rw[E6 (by omega) (by omega)];omega)
   rw[hv]
   exact PY hN c ⟨g1,g2,g3⟩ kj n _ (k+1) (by omega) (by omega) (by omega)
  ·rw[EO hl];exact⟨s,rfl⟩
theorem SQ {N:Nat}(hN:18446744073709551616<N) (cs:List (List BA)) (hl:cs.length≤3) (hc:∀c∈cs,G1 c):Df (F6 N cs):=by
 unfold F6
 have:∀(n:Nat) (s:Int) (k:Nat),cs.length<n+k→k≤cs.length→Df (BS N cs (B1 N) n s (k:Int)):=by
  intro n
  induction n with
  |zero=>intro s k h hk;omega
  |succ n ih=>
   intro s k h hk
   simp only[BS]
   rcases Nat.lt_or_ge k cs.length with hl2|hl2
   ·rw[EN hl2,cond_true,A9 hl2]
    simp only[Option.bind_some]
    have ok:=hc cs[k] (List.getElem_mem hl2)
    obtain⟨s',e⟩:=PY hN cs[k] ok (C4 N (k:Int) (BS N cs (B1 N) n)) N s 1 (by have:=ok.2.1;omega) (by omega) ok.1
    have e0:CX N cs[k] (C4 N (k:Int) (BS N cs (B1 N) n)) N s 1=_:=e
    rw[e0]
    unfold C4
    rw[Az (show k<4611686018427387904 by omega)]
    exact ih s' (k+1) (by omega) (by omega)
   ·rw[EO hl2];exact Df.mk _
 exact this N 0 0 (by omega) (Nat.zero_le _)
theorem IU {α}(l:List α) (i:Int) (x:α):(upd l i x).length=l.length:=by simp [upd]
theorem XE {N:Nat}(hN:1000<N) (l:List Int) (hl:l.length≤64):Df (BK N l):=by
 unfold BK
 rcases Fm l.length (Bm N l (Cy N)) (Cy N) (λ_=>True) (λn k h=>by
  simp only[Bm];rw[EO h];rfl) (λn k h=>by
  simp only[Bm]
  rw[EN h,cond_true,A9 h]
  simp only[Option.bind_some,Az (show k<4611686018427387904 by omega)]
  cases decide (1099511627776<l[k])
  ·exact .inr ⟨trivial,rfl⟩
  ·exact .inl rfl) N 0 (by omega) (Nat.zero_le _) with h|⟨_,h⟩
 ·exact⟨_,h⟩
 ·exact⟨true,h⟩
theorem VA {N:Nat}(hN:18446744073709551616<N) (b:AJ) (hb:FE b) (hl:∀l∈b.Links,K6 b l) (kj:List Int→Option Bool):∀(n:Nat) (k:Nat) (s:List Int),s.length=b.Places.length→b.Links.length<n+k→k≤b.Links.length→∃s',s'.length=b.Places.length∧An N b kj n (k:Int) s=kj s'
 |0,k,s,hs,h,hk=>by omega
 |n+1,k,s,hs,h,hk=>by
  have q3:=hb.pl
  have q4:=hb.li
  simp only[An]
  rcases Nat.lt_or_ge k b.Links.length with hc|hc
  ·rw[EN hc,cond_true,A9 hc]
   simp only[Option.bind_some]
   have ok:=hl b.Links[k] (List.getElem_mem hc)
   generalize b.Links[k]=l at ok
   have ih:∀s:List Int,s.length=b.Places.length→∃s',s'.length=b.Places.length∧BD N (k:Int) (An N b kj n) s=kj s':=λs hs=>by
    unfold BD
    rw[Az (show k<4611686018427387904 by omega)]
    exact VA hN b hb hl kj n (k+1) s hs (by omega) (by omega)
   obtain⟨x,hx⟩:=Df.ix (l:=s) ok.fr.1 (by rw[hs];exact ok.fr.2)
   have j5:∀c:Bool,(c=true→l.Kind=1∨l.Kind=5∨l.Kind=3)→∃s',s'.length=b.Places.length∧Bo N s l (BD N (k:Int) (An N b kj n)) c=kj s':=λc hc=>by
    unfold Bo
    cases c
    ·rw[cond_false]
     by_cases k4:l.Kind=4
     ·rw[show decide (l.Kind=4)=true by simp [k4],cond_true]
      obtain⟨h1,h2,h3,h4,h5,h6⟩:=ok.seep k4
      obtain⟨v,hv⟩:=JV hN h1.1 (show 0≤l.Den by omega) (by omega)
      obtain⟨v2,hv2⟩:=JV hN h4.1 h5.1 (show l.BackDen≤_ by have:=h5.2;omega)
      have hto:=ok.to
      obtain⟨x2,hx2⟩:=Df.ix (l:=upd s l.From (Ar (x+Ar (2*v)))) (i:=l.To) (by omega) (by rw[IU,hs];omega)
      simp only[hx,hv,hx2,hv2,Option.bind_some]
      exact ih _ (by rw[IU,IU,hs])
     ·rw[show decide (l.Kind=4)=false by simp [k4],cond_false]
      exact ih s hs
    ·rw[cond_true]
     obtain⟨h1,h2,h3⟩:=ok.part (hc rfl)
     obtain⟨v,hv⟩:=JV hN h1.1 (show 0≤l.Den by omega) (by omega)
     simp only[hx,hv,Option.bind_some]
     exact ih _ (by rw[IU,hs])
   by_cases k0:l.Kind=0
   ·rw[show decide (l.Kind=0)=true by simp [k0],cond_true]
    obtain⟨c1,c2,c3,c4,c5⟩:=ok.gate k0
    obtain⟨v,hv⟩:=SQ hN [l.Rate,l.Band.Lo,l.Band.Hi] (by simp) (by simp [c1,c2,c3])
    simp only[hx,hv,Option.bind_some]
    by_cases t0:l.To= -1
    ·rw[show decide (l.To≠ -1)=false by simp [t0],cond_false]
     exact ih _ (by rw[IU,hs])
    ·rw[show decide (l.To≠ -1)=true by simp [t0],cond_true]
     have hto:=ok.to
     obtain⟨x2,hx2⟩:=Df.ix (l:=upd s l.From (Ar (x+v))) (i:=l.To) (by omega) (by rw[IU,hs];omega)
     obtain⟨v2,hv2⟩:=JV hN c4.1 c5.1 (show l.BackDen≤_ by have:=c5.2;omega)
     simp only[hx2,hv2,Option.bind_some]
     exact ih _ (by rw[IU,IU,hs])
   ·rw[show decide (l.Kind=0)=false by simp [k0],cond_false]
    by_cases k1:l.Kind=1
    ·rw[show decide (l.Kind=1)=true by simp [k1],cond_true]
     exact j5 true λ_=> .inl k1
    ·rw[show decide (l.Kind=1)=false by simp [k1],cond_false]
     by_cases k5:l.Kind=5
     ·rw[show decide (l.Kind=5)=true by simp [k5],cond_true]
      exact j5 true λ_=> .inr (.inl k5)
     ·rw[show decide (l.Kind=5)=false by simp [k5],cond_false]
      exact j5 _ λh=> .inr (.inr (by simpa using h))
  ·rw[EO hc];exact⟨s,hs,rfl⟩
theorem RY {N:Nat}(hN:18446744073709551616<N) (b:AJ) (hb:FE b) (hp:∀p∈b.Places,Ie b p) (hl:∀l∈b.Links,K6 b l):Df (Ep N b):=by
 have q3:=hb.pl
 have q4:=hb.li
 unfold Ep
 rw[show L7 (b.Places.length:Int) (b.Places.length:Int) 8=true by simp [L7];omega]
 simp only[chk,cond_true]
 have h1:∀(n:Nat) (k:Nat) (s:List Int),s.length=b.Places.length→b.Places.length<n+k→k≤b.Places.length→∃s',s'.length=b.Places.length∧Bn N b (Bp N b) n (k:Int) s=Bp N b s':=by
  intro n
  induction n with
  |zero=>intro k s hs h hk;omega
  |succ n ih=>
   intro k s hs h hk
   simp only[Bn]
   rcases Nat.lt_or_ge k b.Places.length with hc|hc
   ·have ok:=hp b.Places[k] (List.getElem_mem hc)
    obtain⟨v,hv⟩:=JV hN ok.num.1 ok.den.1 (by have:=ok.den.2;omega)
    rw[EN hc,cond_true,A9 hc,A9 (show k<s.length by omega)]
    simp only[Option.bind_some,hv,Az (show k<4611686018427387904 by omega)]
    exact ih (k+1) _ (by rw[IU,hs]) (by omega) (by omega)
   ·rw[EO hc];exact⟨s,hs,rfl⟩
 obtain⟨s1,g1,g2⟩:=h1 N 0 (List.replicate ((b.Places.length:Int):Int).toNat 0) (by simp) (by omega) (Nat.zero_le _)
 have g2':Bn N b (Bp N b) N 0 (List.replicate ((b.Places.length:Int):Int).toNat 0)=_:=g2
 rw[g2']
 unfold Bp
 obtain⟨s2,g3,g4⟩:=VA hN b hb hl (BK N) N 0 s1 g1 (by omega) (Nat.zero_le _)
 have g4':An N b (BK N) N 0 s1=_:=g4
 rw[g4']
 exact XE (by omega) s2 (by omega)
end Go.Proofs.YtibidnaedddfdaaGreat
