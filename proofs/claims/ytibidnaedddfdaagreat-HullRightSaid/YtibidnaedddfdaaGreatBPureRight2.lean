import Derived.Test.YtibidnaedddfdaaGreatBPureRight
namespace Go.Proofs.YtibidnaedddfdaaGreat
open Go.RowKit
set_option linter.unusedVariables false
set_option linter.unusedSimpArgs false
structure HR (b:AK) (p:Ce):Prop where
 lev:Bo p.Level
 num:E2 p.Num
 den:E2 p.Den
 down:p.Down= -1∨(0≤p.Down∧p.Down<b.Places.length)
 cap:E2 p.Cap
 delay:0≤p.Delay∧p.Delay≤240
theorem PV {N:Nat}(p:Ce) (kj:Int→Option Bool) (hl:p.Start.length≤16):∀(n:Nat) (s:Int) (k:Nat),p.Start.length<n+k→k≤p.Start.length→Br N p kj n s (k:Int)=some false∨∃s',Br N p kj n s (k:Int)=kj s'
 |0,s,k,h,hk=>by omega
 |n+1,s,k,h,hk=>by
  simp only[Br]
  rcases Nat.lt_or_ge k p.Start.length with hc|hc
  ·rw[EJ hc,cond_true,Aw hc]
   simp only[Option.bind_some,IL,Au (show k<4611686018427387904 by omega)]
   cases OR p.Start[k]
   ·exact .inl rfl
   ·exact PV (N:=N) p kj hl n _ (k+1) (by omega) (by omega)
  ·rw[EK hc];exact .inr ⟨s,rfl⟩
theorem RH {N:Nat}(b:AK) (p:Ce) (i109:Int) (kj:Int→Option Bool) (hc:0≤b.Cells∧b.Cells≤64):∀(n:Nat) (s:Int) (k:Nat), -1≤s→s≤64→65<n+s→k<100→(k:Int)≤s+1→Bq N b p i109 kj n s (k:Int)=some false∨Bq N b p i109 kj n s (k:Int)=kj i109
 |0,s,k,h1,h2,h3,h4,h5=>by omega
 |n+1,s,k,h1,h2,h3,h4,h5=>by
  simp only[Bq]
  rcases Nat.lt_or_ge k p.Rain.length with hk|hk
  ·rw[EJ hk,cond_true,Aw hk]
   simp only[Option.bind_some,IL,Dx,H0,Au (show k<4611686018427387904 by omega)]
   cases hB:(decide ((p.Rain[k]).Index≤s)||decide (b.Cells≤(p.Rain[k]).Index)|| !OR (p.Rain[k]).Area)
   ·simp only[Bool.or_eq_false_iff,decide_eq_false_iff_not] at hB
    obtain⟨⟨g1,g2⟩,g3⟩:=hB
    exact RH (N:=N) b p i109 kj hc n _ (k+1) (by omega) (by omega) (by omega) (by omega) (by omega)
   ·exact .inl rfl
  ·rw[EK hk];exact .inr rfl
theorem N7 {N:Nat}(hN:1000<N) (b:AK) (hb:Fi b):∀(n:Nat) (s:Int) (k:Nat),b.Places.length<n+k→k≤b.Places.length→∃v,A0 N b (BD N) n s (k:Int)=some v∧(v=true→∀(i:Nat) p,k≤i→b.Places[i]? =some p→HR b p)
 |0,s,k,h,hk=>by omega
 |n+1,s,k,h,hk=>by
  have q3:=hb.pl
  simp only[A0]
  rcases Nat.lt_or_ge k b.Places.length with hc|hc
  ·rw[EJ hc,cond_true,Aw hc]
   obtain⟨cv,hcv,hcp⟩:=HA (N:=N) (by omega) (b.Places[k]).Level
   simp only[Option.bind_some,I8,IL,Lp,hcv,L7 N b _ _ (show b.Places.length<4611686018427387904 by omega),Dx,H0]
   generalize hB:(_|| !PQ b.Places.length (k:Int) (b.Places[k]).Down)=B
   cases B
   ·simp only[Bool.or_eq_false_iff,decide_eq_false_iff_not,Bool.not_eq_false'] at hB
    obtain⟨⟨⟨⟨⟨⟨⟨⟨h1,h2⟩,h3⟩,h4⟩,h5⟩,h6⟩,h7⟩,h8⟩,h9⟩:=hB
    have hst:(b.Places[k]).Start.length=b.Owners.length:=by
     have:((b.Places[k]).Start.length:Int)=(b.Owners.length:Int):=by simpa using h7
     omega
    have hP:HR b b.Places[k]:=⟨hcp h6,(Km h8).1,(Km h8).2,Q5 h9,HW h4,G6 h3⟩
    simp only[cond_false]
    rcases PV (N:=N) b.Places[k] (Cq N b b.Places[k] (BY N (k:Int) (A0 N b (BD N) n))) (by have:=hb.own;omega) N s 0 (by have:=hb.own;omega) (Nat.zero_le _) with e|⟨s',e⟩
    ·exact⟨false,e,λh=>by cases h⟩
    ·have e0:Br N b.Places[k] (Cq N b b.Places[k] (BY N (k:Int) (A0 N b (BD N) n))) N s 0=_:=e
     rw[e0]
     unfold Cq
     rcases RH (N:=N) b b.Places[k] s' (BY N (k:Int) (A0 N b (BD N) n)) hb.cells N (-1) 0 (by omega) (by omega) (by omega) (by omega) (by omega) with e|e
     ·exact⟨false,e,λh=>by cases h⟩
     ·have e1:Bq N b b.Places[k] s' (BY N (k:Int) (A0 N b (BD N) n)) N (-1) 0=_:=e
      rw[e1]
      unfold BY
      rw[Au (show k<4611686018427387904 by omega)]
      obtain⟨v,g1,g2⟩:=N7 hN b hb n s' (k+1) (by omega) (by omega)
      refine⟨v,g1,λhv i p hi hp=>?_⟩
      by_cases ei:i=k
      ·subst ei
       have:p=b.Places[i]:=by simpa [hc] using hp.symm
       rw[this];exact hP
      ·exact g2 hv i p (by omega) hp
   ·exact⟨false,rfl,λh=>by cases h⟩
  ·rw[EK hc]
   refine⟨_,rfl,λ_ i p hi hp=>?_⟩
   have:=(List.getElem?_eq_some_iff.1 hp).1
   omega
theorem SC {N:Nat}(hN:1000<N) (b:AK) (hb:Fi b):∃v,FW N b=some v∧(v=true→∀p∈b.Places,HR b p):=by
 obtain⟨v,h1,h2⟩:=N7 hN b hb N 0 0 (by have:=hb.pl;omega) (Nat.zero_le _)
 refine⟨v,h1,λhv p hp=>?_⟩
 obtain⟨i,hi,rfl⟩:=List.mem_iff_getElem.1 hp
 exact h2 hv i _ (Nat.zero_le _) (by simp [hi])
structure Gh (b:AK) (l:AT):Prop where
 kind:0≤l.Kind∧l.Kind≤5
 fr:0≤l.From∧l.From<b.Places.length
 to:l.To= -1∨(0≤l.To∧l.To<b.Places.length)
 delay:0≤l.Delay∧l.Delay≤240
 gate:l.Kind=0→Bo l.Rate∧Bo l.Band.Lo∧Bo l.Band.Hi∧E2 l.BackNum∧E2 l.BackDen
 part:l.Kind=1∨l.Kind=5∨l.Kind=3→E2 l.Num∧1≤l.Den∧l.Den≤1125899906842624
 seep:l.Kind=4→E2 l.Num∧1≤l.Den∧l.Den≤1125899906842624∧E2 l.BackNum∧E2 l.BackDen∧l.To≠ -1
theorem Sn {N:Nat}(hN:18446744073709551616<N) (a b:List AX) (ha:1≤a.length) (ha2:a.length≤32) (hb2:b.length≤32):Df (Bn N a b):=by
 unfold Bn
 rcases Ey b.length (CG N a b (DU N)) (DU N) (λ_=>True) (λn k h=>by
  simp only[CG];rw[EK h];rfl) (λn k h=>by
  simp only[CG]
  obtain⟨v,hv⟩:=PO hN ha ha2 (b[k]).X
  rw[EJ h,cond_true,Aw h]
  simp only[Option.bind_some,hv,Au (show k<4611686018427387904 by omega)]
  cases (decide ((b[k]).Y<v.1)||decide (v.1=(b[k]).Y)&&v.2)
  ·exact .inr ⟨trivial,rfl⟩
  ·exact .inl rfl) N 0 (by omega) (Nat.zero_le _) with h|⟨_,h⟩
 ·exact⟨_,h⟩
 ·exact⟨true,h⟩
theorem LU {N:Nat}(hN:18446744073709551616<N) (a b:List AX):Df (Cw N a b):=by
 unfold Cw
 obtain⟨va,ea,pa⟩:=HA (N:=N) (by omega) a
 obtain⟨vb,eb,pb⟩:=HA (N:=N) (by omega) b
 simp only[ea,eb,Option.bind_some,Dx,H0]
 refine Df.cond (λ_=>Df.mk _) λh=>?_
 simp only[Bool.or_eq_false_iff,Bool.not_eq_false'] at h
 obtain⟨a1,a2,_⟩:=pa h.1
 obtain⟨b1,b2,_⟩:=pb h.2
 rcases Ey a.length (Bz N a b (Bn N a b)) (Bn N a b) (λ_=>True) (λn k h=>by
  simp only[Bz];rw[EK h];rfl) (λn k h=>by
  simp only[Bz]
  obtain⟨v,hv⟩:=PO hN b1 b2 (a[k]).X
  rw[EJ h,cond_true,Aw h]
  simp only[Option.bind_some,hv,Au (show k<4611686018427387904 by omega)]
  cases decide (v.1<(a[k]).Y)
  ·exact .inr ⟨trivial,rfl⟩
  ·exact .inl rfl) N 0 (by omega) (Nat.zero_le _) with h|⟨_,h⟩
 ·exact⟨_,h⟩
 ·obtain⟨v,hv⟩:=Sn hN a b a1 a2 b2
  exact⟨v,h.trans hv⟩
theorem OG {N:Nat}(hN:18446744073709551616<N) (l:AT):∃v,Da N l=some v∧(v=true→
  (l.Kind=0→Bo l.Rate∧Bo l.Band.Lo∧Bo l.Band.Hi∧E2 l.BackNum∧E2 l.BackDen)∧(l.Kind=1∨l.Kind=5∨l.Kind=3→E2 l.Num∧1≤l.Den∧l.Den≤1125899906842624)∧
  (¬(l.Kind=0∨l.Kind=1∨l.Kind=5∨l.Kind=2∨l.Kind=3)→E2 l.Num∧1≤l.Den∧l.Den≤1125899906842624∧E2 l.BackNum∧E2 l.BackDen∧l.To≠ -1)):=by
 obtain⟨v1,e1,p1⟩:=HA (N:=N) (by omega) l.Rate
 obtain⟨v2,e2,p2⟩:=HA (N:=N) (by omega) l.Band.Lo
 obtain⟨v3,e3,p3⟩:=HA (N:=N) (by omega) l.Band.Hi
 obtain⟨v4,e4⟩:=LU hN l.Band.Lo l.Rate
 obtain⟨v5,e5⟩:=LU hN l.Rate l.Band.Hi
 unfold Da
 by_cases k0:l.Kind=0
 ·rw[show decide (l.Kind=0)=true by simp [k0],cond_true]
  simp only[e1,e2,e3,e4,e5,I8,IL,Lp,Option.bind_some,Dx,MM]
  refine⟨_,rfl,λh=>?_⟩
  simp only[Bool.and_eq_true] at h
  obtain⟨⟨⟨⟨⟨⟨⟨⟨⟨h1,h2⟩,h3⟩,h4⟩,h5⟩,h6⟩,h7⟩,h8⟩,h9⟩,h10⟩:=h
  exact⟨λ_=>⟨p1 h1,p2 h2,p3 h3,(Km h9).1,(Km h9).2⟩,λh=>by omega,λh=>absurd (.inl k0) h⟩
 ·rw[show decide (l.Kind=0)=false by simp [k0],cond_false]
  have hj:∀c:Bool,(c=true↔l.Kind=1∨l.Kind=5)→∃v,CP N l c=some v∧(v=true→
    (l.Kind=0→Bo l.Rate∧Bo l.Band.Lo∧Bo l.Band.Hi∧E2 l.BackNum∧E2 l.BackDen)∧(l.Kind=1∨l.Kind=5∨l.Kind=3→E2 l.Num∧1≤l.Den∧l.Den≤1125899906842624)∧
    (¬(l.Kind=0∨l.Kind=1∨l.Kind=5∨l.Kind=2∨l.Kind=3)→E2 l.Num∧1≤l.Den∧l.Den≤1125899906842624∧E2 l.BackNum∧E2 l.BackDen∧l.To≠ -1)):=λc hc=>by
   unfold CP
   simp only[I8,IL,Lp,Option.bind_some,Dx,MM]
   cases c
   ·have hn:¬(l.Kind=1∨l.Kind=5):=λh=>by have:=hc.2 h;cases this
    rw[cond_false]
    by_cases k2:l.Kind=2
    ·rw[show decide (l.Kind=2)=true by simp [k2],cond_true]
     exact⟨_,rfl,λ_=>⟨λh=>absurd h k0,λh=>by omega,λh=>absurd (.inr (.inr (.inr (.inl k2)))) h⟩⟩
    ·rw[show decide (l.Kind=2)=false by simp [k2],cond_false]
     by_cases k3:l.Kind=3
     ·rw[show decide (l.Kind=3)=true by simp [k3],cond_true]
      refine⟨_,rfl,λh=>?_⟩
      simp only[Bool.and_eq_true] at h
      obtain⟨⟨⟨⟨h1,h2⟩,h3⟩,h4⟩,h5⟩:=h
      exact⟨λh=>absurd h k0,λ_=>⟨HW h1,G6 h2⟩,λh=>absurd (.inr (.inr (.inr (.inr k3)))) h⟩
     ·rw[show decide (l.Kind=3)=false by simp [k3],cond_false]
      refine⟨_,rfl,λh=>?_⟩
      simp only[Bool.and_eq_true,decide_eq_true_eq] at h
      obtain⟨⟨⟨h1,h2⟩,h3⟩,h4⟩:=h
      exact⟨λh=>absurd h k0,λh=>by omega,λ_=>⟨HW h1,(G6 h2).1,(G6 h2).2,(Km h3).1,(Km h3).2,h4⟩⟩
   ·have hy:=hc.1 rfl
    rw[cond_true]
    refine⟨_,rfl,λh=>?_⟩
    simp only[Bool.and_eq_true] at h
    obtain⟨⟨h1,h2⟩,h3⟩:=h
    exact⟨λh=>absurd h k0,λ_=>⟨HW h2,G6 h3⟩,λh=>by omega⟩
  by_cases k1:l.Kind=1
  ·rw[show decide (l.Kind=1)=true by simp [k1],cond_true]
   exact hj true (by simp [k1])
  ·rw[show decide (l.Kind=1)=false by simp [k1],cond_false]
   exact hj _ (by simp [k1])
theorem N1 (N:Nat) (l:AT):Df (DZ N l):=by
 unfold DZ
 exact Df.cond (λ_=>Df.mk _) λ_=>Df.cond (λ_=>Df.mk _) λ_=>Df.cond (λ_=>Df.mk _) λ_=>Df.cond (λ_=>Df.mk _) λ_=>Df.cond (λ_=>Df.mk _) λ_=>Df.mk _
theorem Tg {N:Nat}(hN:18446744073709551616<N) (b:AK) (hb:Fi b):∃v,DG N b=some v∧(v=true→∀l∈b.Links,Gh b l):=by
 have q3:=hb.pl
 have q4:=hb.li
 unfold DG
 rcases Ey b.Links.length (BV N b (B8 N)) (B8 N) (λi=>∀l,b.Links[i]? =some l→Gh b l) (λn k h=>by
  simp only[BV];rw[EK h];rfl) (λn k h=>by
  simp only[BV]
  obtain⟨vf,ef,pf⟩:=OG hN b.Links[k]
  obtain⟨vu,eu⟩:=N1 N b.Links[k]
  rw[EJ h,cond_true,Aw h]
  simp only[Option.bind_some,I8,Lj N _ (show b.Places.length<4611686018427387904 by omega),L7 N b _ _ (show b.Places.length<4611686018427387904 by omega),ef,eu,Dx,H0,Au (show k<4611686018427387904 by omega)]
  generalize hB:(_|| !vu)=B
  cases B
  ·simp only[Bool.or_eq_false_iff,Bool.not_eq_false'] at hB
   obtain⟨⟨⟨⟨⟨h1,h2⟩,h3⟩,h4⟩,h5⟩,h6⟩:=hB
   have i1:=G6 h1
   have i2:=G6 h2
   obtain⟨f1,f2,f3⟩:=pf h5
   refine .inr ⟨λl hl=>?_,rfl⟩
   have:l=b.Links[k]:=by simpa [h] using hl.symm
   rw[this]
   exact⟨i1,⟨i2.1,by omega⟩,Q5 h3,G6 h4,f1,f2,λh4=>f3 (by omega)⟩
  ·exact .inl rfl) N 0 (by omega) (Nat.zero_le _) with h|⟨hp,h⟩
 ·exact⟨false,h,λh=>by cases h⟩
 ·refine⟨true,h,λ_ l hl=>?_⟩
  obtain⟨i,hi,rfl⟩:=List.mem_iff_getElem.1 hl
  exact hp i (Nat.zero_le _) hi _ (by simp [hi])
theorem RL (N:Nat) (b:AK) (o to:Int) (h:to= -1∨(0≤to∧to<b.Places.length)):Df (Ge N b o to):=by
 unfold Ge
 refine Df.cond (λ_=>Df.mk _) λhc=>?_
 simp only[decide_eq_false_iff_not] at hc
 exact Df.bind (Df.ix (by omega) (by omega)) λ_ _=>Df.mk _
theorem Qc {N:Nat}(hN:1000<N) (b:AK) (hb:Fi b) (hp:∀p∈b.Places,HR b p) (hl:∀l∈b.Links,Gh b l):Df (ES N b):=by
 have q3:=hb.pl
 have q4:=hb.li
 have hj:Df (CC N b):=by
  unfold CC
  rcases Ey b.Links.length (CA N b (DA N)) (DA N) (λ_=>True) (λn k h=>by
   simp only[CA];rw[EK h];rfl) (λn k h=>by
   simp only[CA]
   have ok:=hl b.Links[k] (List.getElem_mem h)
   obtain⟨x,hx⟩:=Df.ix (l:=b.Places) ok.fr.1 ok.fr.2
   obtain⟨v,hv⟩:=RL N b x.Office (b.Links[k]).To ok.to
   rw[EJ h,cond_true,Aw h]
   simp only[Option.bind_some,hx,hv,Au (show k<4611686018427387904 by omega)]
   have hz:∃z,(cond (!v) (some true) (Option.bind (cond (decide ((b.Links[k]).Kind=4)) (Option.bind (ix b.Places (b.Links[k]).To) λx140=>some (decide (x140.Office≠x.Office))) (some false)) λb135=>some b135))=some z:=by
    refine Df.cond (λ_=>Df.mk _) λ_=>Df.bind (Df.cond (λh4=>?_) λ_=>Df.mk _) λ_ _=>Df.mk _
    have h4':(b.Links[k]).Kind=4:=by simpa using h4
    have:=(ok.seep h4').2.2.2.2.2
    have:=ok.to
    exact Df.bind (Df.ix (by omega) (by omega)) λ_ _=>Df.mk _
   obtain⟨z,hz⟩:=hz
   rw[hz]
   simp only[Option.bind_some]
   cases z
   ·exact .inr ⟨trivial,rfl⟩
   ·exact .inl rfl) N 0 (by omega) (Nat.zero_le _) with h|⟨_,h⟩
  ·exact⟨_,h⟩
  ·exact⟨true,h⟩
 unfold ES
 rcases Ey b.Places.length (CB N b (CC N b)) (CC N b) (λ_=>True) (λn k h=>by
   simp only[CB];rw[EK h];rfl) (λn k h=>by
   simp only[CB]
   have ok:=hp b.Places[k] (List.getElem_mem h)
   obtain⟨v,hv⟩:=RL N b (b.Places[k]).Office (b.Places[k]).Down ok.down
   rw[EJ h,cond_true,Aw h]
   simp only[Option.bind_some,hv,Au (show k<4611686018427387904 by omega)]
   cases v
   ·exact .inl rfl
   ·exact .inr ⟨trivial,rfl⟩) N 0 (by omega) (Nat.zero_le _) with h|⟨_,h⟩
 ·exact⟨_,h⟩
 ·obtain⟨v,hv⟩:=hj
  exact⟨v,h.trans hv⟩
theorem PU {N:Nat}(hN:18446744073709551616<N) (c:List AX) (hc:Bo c) (kj:Int→Option Int):∀(n:Nat) (s:Int) (k:Nat),c.length<n+k→1≤k→k≤c.length→∃s',BI N c kj n s (k:Int)=kj s'
 |0,s,k,h,h1,hk=>by omega
 |n+1,s,k,h,h1,hk=>by
  obtain⟨g1,g2,g3⟩:=hc
  simp only[BI]
  rcases Nat.lt_or_ge k c.length with hl|hl
  ·have e1:A3 ((k:Int)-1)=((k-1:Nat):Int):=by rw[B9 (by omega) (by omega)];omega
   rw[EJ hl,cond_true,e1,Aw hl,Aw (show k-1<c.length by omega)]
   simp only[Option.bind_some,Au (show k<4611686018427387904 by omega)]
   obtain⟨a1,a2,a3⟩:=g3 k c[k] (by simp [hl])
   obtain⟨b1,b2,_⟩:=g3 (k-1) c[k-1] (by simp [show k-1<c.length by omega])
   obtain⟨d1,d2⟩:=a3 c[k-1] (by omega) (by simp [show k-1<c.length by omega])
   unfold E2 at a1 a2 b1 b2
   obtain⟨v,hv⟩:=I7 hN (num:=A3 ((c[k]).Y-(c[k-1]).Y)) (den:=A3 ((c[k]).X-(c[k-1]).X)) (by rw[B9 (by omega) (by omega)];omega) (by rw[B9 (by omega) (by omega)];omega) (by rw[B9 (by omega) (by omega)];omega)
   rw[hv]
   exact PU hN c ⟨g1,g2,g3⟩ kj n _ (k+1) (by omega) (by omega) (by omega)
  ·rw[EK hl];exact⟨s,rfl⟩
theorem TF {N:Nat}(hN:18446744073709551616<N) (cs:List (List AX)) (hl:cs.length≤3) (hc:∀c∈cs,Bo c):Df (DV N cs):=by
 unfold DV
 have:∀(n:Nat) (s:Int) (k:Nat),cs.length<n+k→k≤cs.length→Df (A6 N cs (BJ N) n s (k:Int)):=by
  intro n
  induction n with
  |zero=>intro s k h hk;omega
  |succ n ih=>
   intro s k h hk
   simp only[A6]
   rcases Nat.lt_or_ge k cs.length with hl2|hl2
   ·rw[EJ hl2,cond_true,Aw hl2]
    simp only[Option.bind_some]
    have ok:=hc cs[k] (List.getElem_mem hl2)
    obtain⟨s',e⟩:=PU hN cs[k] ok (BZ N (k:Int) (A6 N cs (BJ N) n)) N s 1 (by have:=ok.2.1;omega) (by omega) ok.1
    have e0:BI N cs[k] (BZ N (k:Int) (A6 N cs (BJ N) n)) N s 1=_:=e
    rw[e0]
    unfold BZ
    rw[Au (show k<4611686018427387904 by omega)]
    exact ih s' (k+1) (by omega) (by omega)
   ·rw[EK hl2];exact Df.mk _
 exact this N 0 0 (by omega) (Nat.zero_le _)
theorem Hj {α}(l:List α) (i:Int) (x:α):(upd l i x).length=l.length:=by simp [upd]
theorem X5 {N:Nat}(hN:1000<N) (l:List Int) (hl:l.length≤64):Df (Az N l):=by
 unfold Az
 rcases Ey l.length (BP N l (Bp N)) (Bp N) (λ_=>True) (λn k h=>by
  simp only[BP];rw[EK h];rfl) (λn k h=>by
  simp only[BP]
  rw[EJ h,cond_true,Aw h]
  simp only[Option.bind_some,Au (show k<4611686018427387904 by omega)]
  cases decide (1099511627776<l[k])
  ·exact .inr ⟨trivial,rfl⟩
  ·exact .inl rfl) N 0 (by omega) (Nat.zero_le _) with h|⟨_,h⟩
 ·exact⟨_,h⟩
 ·exact⟨true,h⟩
theorem V3 {N:Nat}(hN:18446744073709551616<N) (b:AK) (hb:Fi b) (hl:∀l∈b.Links,Gh b l) (kj:List Int→Option Bool):∀(n:Nat) (k:Nat) (s:List Int),s.length=b.Places.length→b.Links.length<n+k→k≤b.Links.length→∃s',s'.length=b.Places.length∧AZ N b kj n (k:Int) s=kj s'
 |0,k,s,hs,h,hk=>by omega
 |n+1,k,s,hs,h,hk=>by
  have q3:=hb.pl
  have q4:=hb.li
  simp only[AZ]
  rcases Nat.lt_or_ge k b.Links.length with hc|hc
  ·rw[EJ hc,cond_true,Aw hc]
   simp only[Option.bind_some]
   have ok:=hl b.Links[k] (List.getElem_mem hc)
   generalize b.Links[k]=l at ok
   have ih:∀s:List Int,s.length=b.Places.length→∃s',s'.length=b.Places.length∧Ay N (k:Int) (AZ N b kj n) s=kj s':=λs hs=>by
    unfold Ay
    rw[Au (show k<4611686018427387904 by omega)]
    exact V3 hN b hb hl kj n (k+1) s hs (by omega) (by omega)
   obtain⟨x,hx⟩:=Df.ix (l:=s) ok.fr.1 (by rw[hs];exact ok.fr.2)
   have j5:∀c:Bool,(c=true→l.Kind=1∨l.Kind=5∨l.Kind=3)→∃s',s'.length=b.Places.length∧Bj N s l (Ay N (k:Int) (AZ N b kj n)) c=kj s':=λc hc=>by
    unfold Bj
    cases c
    ·rw[cond_false]
     by_cases k4:l.Kind=4
     ·rw[show decide (l.Kind=4)=true by simp [k4],cond_true]
      obtain⟨h1,h2,h3,h4,h5,h6⟩:=ok.seep k4
      obtain⟨v,hv⟩:=I7 hN h1.1 (show 0≤l.Den by omega) (by omega)
      obtain⟨v2,hv2⟩:=I7 hN h4.1 h5.1 (show l.BackDen≤_ by have:=h5.2;omega)
      have hto:=ok.to
      obtain⟨x2,hx2⟩:=Df.ix (l:=upd s l.From (A3 (x+A3 (2*v)))) (i:=l.To) (by omega) (by rw[Hj,hs];omega)
      simp only[hx,hv,hx2,hv2,Option.bind_some]
      exact ih _ (by rw[Hj,Hj,hs])
     ·rw[show decide (l.Kind=4)=false by simp [k4],cond_false]
      exact ih s hs
    ·rw[cond_true]
     obtain⟨h1,h2,h3⟩:=ok.part (hc rfl)
     obtain⟨v,hv⟩:=I7 hN h1.1 (show 0≤l.Den by omega) (by omega)
     simp only[hx,hv,Option.bind_some]
     exact ih _ (by rw[Hj,hs])
   by_cases k0:l.Kind=0
   ·rw[show decide (l.Kind=0)=true by simp [k0],cond_true]
    obtain⟨c1,c2,c3,c4,c5⟩:=ok.gate k0
    obtain⟨v,hv⟩:=TF hN [l.Rate,l.Band.Lo,l.Band.Hi] (by simp) (by simp [c1,c2,c3])
    simp only[hx,hv,Option.bind_some]
    by_cases t0:l.To= -1
    ·rw[show decide (l.To≠ -1)=false by simp [t0],cond_false]
     exact ih _ (by rw[Hj,hs])
    ·rw[show decide (l.To≠ -1)=true by simp [t0],cond_true]
     have hto:=ok.to
     obtain⟨x2,hx2⟩:=Df.ix (l:=upd s l.From (A3 (x+v))) (i:=l.To) (by omega) (by rw[Hj,hs];omega)
     obtain⟨v2,hv2⟩:=I7 hN c4.1 c5.1 (show l.BackDen≤_ by have:=c5.2;omega)
     simp only[hx2,hv2,Option.bind_some]
     exact ih _ (by rw[Hj,Hj,hs])
   ·rw[show decide (l.Kind=0)=false by simp [k0],cond_false]
    by_cases k1:l.Kind=1
    ·rw[show decide (l.Kind=1)=true by simp [k1],cond_true]
     exact j5 true λ_=> .inl k1
    ·rw[show decide (l.Kind=1)=false by simp [k1],cond_false]
     by_cases k5:l.Kind=5
     ·rw[show decide (l.Kind=5)=true by simp [k5],cond_true]
      exact j5 true λ_=> .inr (.inl k5)
     ·rw[show decide (l.Kind=5)=false by simp [k5],cond_false]
      exact j5 _ λh=> .inr (.inr (by simpa using h))
  ·rw[EK hc];exact⟨s,hs,rfl⟩
theorem R8 {N:Nat}(hN:18446744073709551616<N) (b:AK) (hb:Fi b) (hp:∀p∈b.Places,HR b p) (hl:∀l∈b.Links,Gh b l):Df (C0 N b):=by
 have q3:=hb.pl
 have q4:=hb.li
 unfold C0
 rw[show Jt (b.Places.length:Int) (b.Places.length:Int) 8=true by simp [Jt];omega]
 simp only[chk,cond_true]
 have h1:∀(n:Nat) (k:Nat) (s:List Int),s.length=b.Places.length→b.Places.length<n+k→k≤b.Places.length→∃s',s'.length=b.Places.length∧BQ N b (BC N b) n (k:Int) s=BC N b s':=by
  intro n
  induction n with
  |zero=>intro k s hs h hk;omega
  |succ n ih=>
   intro k s hs h hk
   simp only[BQ]
   rcases Nat.lt_or_ge k b.Places.length with hc|hc
   ·have ok:=hp b.Places[k] (List.getElem_mem hc)
    obtain⟨v,hv⟩:=I7 hN ok.num.1 ok.den.1 (by have:=ok.den.2;omega)
    rw[EJ hc,cond_true,Aw hc,Aw (show k<s.length by omega)]
    simp only[Option.bind_some,hv,Au (show k<4611686018427387904 by omega)]
    exact ih (k+1) _ (by rw[Hj,hs]) (by omega) (by omega)
   ·rw[EK hc];exact⟨s,hs,rfl⟩
 obtain⟨s1,g1,g2⟩:=h1 N 0 (List.replicate ((b.Places.length:Int):Int).toNat 0) (by simp) (by omega) (Nat.zero_le _)
 have g2':BQ N b (BC N b) N 0 (List.replicate ((b.Places.length:Int):Int).toNat 0)=_:=g2
 rw[g2']
 unfold BC
 obtain⟨s2,g3,g4⟩:=V3 hN b hb hl (Az N) N 0 s1 g1 (by omega) (Nat.zero_le _)
 have g4':AZ N b (Az N) N 0 s1=_:=g4
 rw[g4']
 exact X5 (by omega) s2 (by omega)
end Go.Proofs.YtibidnaedddfdaaGreat
