import Derived.Test.YtblcgjadhemlbaaGreatQPureRight
namespace Go.Proofs.YtblcgjadhemlbaaGreat
open Go.RowKit
set_option linter.unusedVariables false
set_option linter.unusedSimpArgs false
structure J1 (b:AZ) (p:Dh):Prop where
 lev:Gb p.Level
 num:Hy p.Num
 den:Hy p.Den
 down:p.Down= -1∨(0≤p.Down∧p.Down<b.Places.length)
 cap:Hy p.Cap
 delay:0≤p.Delay∧p.Delay≤240
theorem RC {N:Nat}(p:Dh) (kj:Int→Option Bool) (hl:p.Start.length≤16):∀(n:Nat) (s:Int) (k:Nat),p.Start.length<n+k→k≤p.Start.length→CX N p kj n s (k:Int)=some false∨∃s',CX N p kj n s (k:Int)=kj s'
 |0,s,k,h,hk=>by omega
 |n+1,s,k,h,hk=>by
  simp only[CX]
  rcases Nat.lt_or_ge k p.Start.length with hc|hc
  ·rw[E6 hc,cond_true,BQ hc]
   simp only[Option.bind_some,J5,BH (show k<4611686018427387904 by omega)]
   cases P7 p.Start[k]
   ·exact .inl rfl
   ·exact RC (N:=N) p kj hl n _ (k+1) (by omega) (by omega)
  ·rw[E7 hc];exact .inr ⟨s,rfl⟩
theorem Sr {N:Nat}(b:AZ) (p:Dh) (i109:Int) (kj:Int→Option Bool) (hc:0≤b.Cells∧b.Cells≤64):∀(n:Nat) (s:Int) (k:Nat), -1≤s→s≤64→65<n+s→k<100→(k:Int)≤s+1→CW N b p i109 kj n s (k:Int)=some false∨CW N b p i109 kj n s (k:Int)=kj i109
 |0,s,k,h1,h2,h3,h4,h5=>by omega
 |n+1,s,k,h1,h2,h3,h4,h5=>by
  simp only[CW]
  rcases Nat.lt_or_ge k p.Rain.length with hk|hk
  ·rw[E6 hk,cond_true,BQ hk]
   simp only[Option.bind_some,J5,Ee,KG,BH (show k<4611686018427387904 by omega)]
   cases hB:(decide ((p.Rain[k]).Index≤s)||decide (b.Cells≤(p.Rain[k]).Index)|| !P7 (p.Rain[k]).Area)
   ·simp only[Bool.or_eq_false_iff,decide_eq_false_iff_not] at hB
    obtain⟨⟨g1,g2⟩,g3⟩:=hB
    exact Sr (N:=N) b p i109 kj hc n _ (k+1) (by omega) (by omega) (by omega) (by omega) (by omega)
   ·exact .inl rfl
  ·rw[E7 hk];exact .inr rfl
theorem Pq {N:Nat}(hN:1000<N) (b:AZ) (hb:Hs b):∀(n:Nat) (s:Int) (k:Nat),b.Places.length<n+k→k≤b.Places.length→∃v,BX N b (Bk N) n s (k:Int)=some v∧(v=true→∀(i:Nat) p,k≤i→b.Places[i]? =some p→J1 b p)
 |0,s,k,h,hk=>by omega
 |n+1,s,k,h,hk=>by
  have q3:=hb.pl
  simp only[BX]
  rcases Nat.lt_or_ge k b.Places.length with hc|hc
  ·rw[E6 hc,cond_true,BQ hc]
   obtain⟨cv,hcv,hcp⟩:=H8 (N:=N) (by omega) (b.Places[k]).Level
   simp only[Option.bind_some,Kr,J5,NH,hcv,Nh N b _ _ (show b.Places.length<4611686018427387904 by omega),Ee,KG]
   generalize hB:(_|| !Q7 b.Places.length (k:Int) (b.Places[k]).Down)=B
   cases B
   ·simp only[Bool.or_eq_false_iff,decide_eq_false_iff_not,Bool.not_eq_false'] at hB
    obtain⟨⟨⟨⟨⟨⟨⟨⟨h1,h2⟩,h3⟩,h4⟩,h5⟩,h6⟩,h7⟩,h8⟩,h9⟩:=hB
    have hst:(b.Places[k]).Start.length=b.Owners.length:=by
     have:((b.Places[k]).Start.length:Int)=(b.Owners.length:Int):=by simpa using h7
     omega
    have hP:J1 b b.Places[k]:=⟨hcp h6,(MM h8).1,(MM h8).2,Sj h9,JH h4,Is h3⟩
    simp only[cond_false]
    rcases RC (N:=N) b.Places[k] (Db N b b.Places[k] (CB N (k:Int) (BX N b (Bk N) n))) (by have:=hb.own;omega) N s 0 (by have:=hb.own;omega) (Nat.zero_le _) with e|⟨s',e⟩
    ·exact⟨false,e,λh=>by cases h⟩
    ·have e0:CX N b.Places[k] (Db N b b.Places[k] (CB N (k:Int) (BX N b (Bk N) n))) N s 0=_:=e
     rw[e0]
     unfold Db
     rcases Sr (N:=N) b b.Places[k] s' (CB N (k:Int) (BX N b (Bk N) n)) hb.cells N (-1) 0 (by omega) (by omega) (by omega) (by omega) (by omega) with e|e
     ·exact⟨false,e,λh=>by cases h⟩
     ·have e1:CW N b b.Places[k] s' (CB N (k:Int) (BX N b (Bk N) n)) N (-1) 0=_:=e
      rw[e1]
      unfold CB
      rw[BH (show k<4611686018427387904 by omega)]
      obtain⟨v,g1,g2⟩:=Pq hN b hb n s' (k+1) (by omega) (by omega)
      refine⟨v,g1,λhv i p hi hp=>?_⟩
      by_cases ei:i=k
      ·subst ei
       have:p=b.Places[i]:=by simpa [hc] using hp.symm
       rw[this];exact hP
      ·exact g2 hv i p (by omega) hp
   ·exact⟨false,rfl,λh=>by cases h⟩
  ·rw[E7 hc]
   refine⟨_,rfl,λ_ i p hi hp=>?_⟩
   have:=(List.getElem?_eq_some_iff.1 hp).1
   omega
theorem Tp {N:Nat}(hN:1000<N) (b:AZ) (hb:Hs b):∃v,G6 N b=some v∧(v=true→∀p∈b.Places,J1 b p):=by
 obtain⟨v,h1,h2⟩:=Pq hN b hb N 0 0 (by have:=hb.pl;omega) (Nat.zero_le _)
 refine⟨v,h1,λhv p hp=>?_⟩
 obtain⟨i,hi,rfl⟩:=List.mem_iff_getElem.1 hp
 exact h2 hv i _ (Nat.zero_le _) (by simp [hi])
structure Ip (b:AZ) (l:Au):Prop where
 kind:0≤l.Kind∧l.Kind≤5
 fr:0≤l.From∧l.From<b.Places.length
 to:l.To= -1∨(0≤l.To∧l.To<b.Places.length)
 delay:0≤l.Delay∧l.Delay≤240
 gate:l.Kind=0→Gb l.Rate∧Gb l.Band.Lo∧Gb l.Band.Hi∧Hy l.BackNum∧Hy l.BackDen
 part:l.Kind=1∨l.Kind=5∨l.Kind=3→Hy l.Num∧1≤l.Den∧l.Den≤1125899906842624
 seep:l.Kind=4→Hy l.Num∧1≤l.Den∧l.Den≤1125899906842624∧Hy l.BackNum∧Hy l.BackDen∧l.To≠ -1
theorem UH {N:Nat}(hN:18446744073709551616<N) (a b:List BI) (ha:1≤a.length) (ha2:a.length≤32) (hb2:b.length≤32):Df (E0 N a b):=by
 unfold E0
 rcases HQ b.length (Ey N a b (GP N)) (GP N) (λ_=>True) (λn k h=>by
  simp only[Ey];rw[E7 h];rfl) (λn k h=>by
  simp only[Ey]
  obtain⟨v,hv⟩:=Oe hN ha ha2 (b[k]).X
  rw[E6 h,cond_true,BQ h]
  simp only[Option.bind_some,hv,BH (show k<4611686018427387904 by omega)]
  cases (decide ((b[k]).Y<v.1)||decide (v.1=(b[k]).Y)&&v.2)
  ·exact .inr ⟨trivial,rfl⟩
  ·exact .inl rfl) N 0 (by omega) (Nat.zero_le _) with h|⟨_,h⟩
 ·exact⟨_,h⟩
 ·exact⟨true,h⟩
theorem M2 {N:Nat}(hN:18446744073709551616<N) (a b:List BI):Df (GK N a b):=by
 unfold GK
 obtain⟨va,ea,pa⟩:=H8 (N:=N) (by omega) a
 obtain⟨vb,eb,pb⟩:=H8 (N:=N) (by omega) b
 simp only[ea,eb,Option.bind_some,Ee,KG]
 refine Df.cond (λ_=>Df.mk _) λh=>?_
 simp only[Bool.or_eq_false_iff,Bool.not_eq_false'] at h
 obtain⟨a1,a2,_⟩:=pa h.1
 obtain⟨b1,b2,_⟩:=pb h.2
 rcases HQ a.length (Ez N a b (E0 N a b)) (E0 N a b) (λ_=>True) (λn k h=>by
  simp only[Ez];rw[E7 h];rfl) (λn k h=>by
  simp only[Ez]
  obtain⟨v,hv⟩:=Oe hN b1 b2 (a[k]).X
  rw[E6 h,cond_true,BQ h]
  simp only[Option.bind_some,hv,BH (show k<4611686018427387904 by omega)]
  cases decide (v.1<(a[k]).Y)
  ·exact .inr ⟨trivial,rfl⟩
  ·exact .inl rfl) N 0 (by omega) (Nat.zero_le _) with h|⟨_,h⟩
 ·exact⟨_,h⟩
 ·obtain⟨v,hv⟩:=UH hN a b a1 a2 b2
  exact⟨v,h.trans hv⟩
theorem Pw {N:Nat}(hN:18446744073709551616<N) (l:Au):∃v,ES N l=some v∧(v=true→
  (l.Kind=0→Gb l.Rate∧Gb l.Band.Lo∧Gb l.Band.Hi∧Hy l.BackNum∧Hy l.BackDen)∧(l.Kind=1∨l.Kind=5∨l.Kind=3→Hy l.Num∧1≤l.Den∧l.Den≤1125899906842624)∧
  (¬(l.Kind=0∨l.Kind=1∨l.Kind=5∨l.Kind=2∨l.Kind=3)→Hy l.Num∧1≤l.Den∧l.Den≤1125899906842624∧Hy l.BackNum∧Hy l.BackDen∧l.To≠ -1)):=by
 obtain⟨v1,e1,p1⟩:=H8 (N:=N) (by omega) l.Rate
 obtain⟨v2,e2,p2⟩:=H8 (N:=N) (by omega) l.Band.Lo
 obtain⟨v3,e3,p3⟩:=H8 (N:=N) (by omega) l.Band.Hi
 obtain⟨v4,e4⟩:=M2 hN l.Band.Lo l.Rate
 obtain⟨v5,e5⟩:=M2 hN l.Rate l.Band.Hi
 unfold ES
 by_cases k0:l.Kind=0
 ·rw[show decide (l.Kind=0)=true by simp [k0],cond_true]
  simp only[e1,e2,e3,e4,e5,Kr,J5,NH,Option.bind_some,Ee,Mq]
  refine⟨_,rfl,λh=>?_⟩
  simp only[Bool.and_eq_true] at h
  obtain⟨⟨⟨⟨⟨⟨⟨⟨⟨h1,h2⟩,h3⟩,h4⟩,h5⟩,h6⟩,h7⟩,h8⟩,h9⟩,h10⟩:=h
  exact⟨λ_=>⟨p1 h1,p2 h2,p3 h3,(MM h9).1,(MM h9).2⟩,λh=>by omega,λh=>absurd (.inl k0) h⟩
 ·rw[show decide (l.Kind=0)=false by simp [k0],cond_false]
  have hj:∀c:Bool,(c=true↔l.Kind=1∨l.Kind=5)→∃v,DA N l c=some v∧(v=true→
    (l.Kind=0→Gb l.Rate∧Gb l.Band.Lo∧Gb l.Band.Hi∧Hy l.BackNum∧Hy l.BackDen)∧(l.Kind=1∨l.Kind=5∨l.Kind=3→Hy l.Num∧1≤l.Den∧l.Den≤1125899906842624)∧
    (¬(l.Kind=0∨l.Kind=1∨l.Kind=5∨l.Kind=2∨l.Kind=3)→Hy l.Num∧1≤l.Den∧l.Den≤1125899906842624∧Hy l.BackNum∧Hy l.BackDen∧l.To≠ -1)):=λc hc=>by
   unfold DA
   simp only[Kr,J5,NH,Option.bind_some,Ee,Mq]
   cases c
   ·have hn:¬(l.Kind=1∨l.Kind=5):=λh=>by have:=hc.2 h;cases this
    rw[cond_false]
    by_cases k2:l.Kind=2
    ·rw[show decide (l.Kind=2)=true by simp [k2],cond_true]
     exact⟨_,rfl,λ_=>⟨λh=>absurd h k0,λh=>by omega,λh=>absurd (.inr (.inr (.inr (.inl k2)))) h⟩⟩
    ·rw[show decide (l.Kind=2)=false by simp [k2],cond_false]
     by_cases k3:l.Kind=3
     ·rw[show decide (l.Kind=3)=true by simp [k3],cond_true]
      refine⟨_,rfl,λh=>?_⟩
      simp only[Bool.and_eq_true] at h
      obtain⟨⟨⟨⟨h1,h2⟩,h3⟩,h4⟩,h5⟩:=h
      exact⟨λh=>absurd h k0,λ_=>⟨JH h1,Is h2⟩,λh=>absurd (.inr (.inr (.inr (.inr k3)))) h⟩
     ·rw[show decide (l.Kind=3)=false by simp [k3],cond_false]
      refine⟨_,rfl,λh=>?_⟩
      simp only[Bool.and_eq_true,decide_eq_true_eq] at h
      obtain⟨⟨⟨h1,h2⟩,h3⟩,h4⟩:=h
      exact⟨λh=>absurd h k0,λh=>by omega,λ_=>⟨JH h1,(Is h2).1,(Is h2).2,(MM h3).1,(MM h3).2,h4⟩⟩
   ·have hy:=hc.1 rfl
    rw[cond_true]
    refine⟨_,rfl,λh=>?_⟩
    simp only[Bool.and_eq_true] at h
    obtain⟨⟨h1,h2⟩,h3⟩:=h
    exact⟨λh=>absurd h k0,λ_=>⟨JH h2,Is h3⟩,λh=>by omega⟩
  by_cases k1:l.Kind=1
  ·rw[show decide (l.Kind=1)=true by simp [k1],cond_true]
   exact hj true (by simp [k1])
  ·rw[show decide (l.Kind=1)=false by simp [k1],cond_false]
   exact hj _ (by simp [k1])
theorem Pg (N:Nat) (l:Au):Df (ER N l):=by
 unfold ER
 exact Df.cond (λ_=>Df.mk _) λ_=>Df.cond (λ_=>Df.mk _) λ_=>Df.cond (λ_=>Df.mk _) λ_=>Df.cond (λ_=>Df.mk _) λ_=>Df.cond (λ_=>Df.mk _) λ_=>Df.mk _
theorem Us {N:Nat}(hN:18446744073709551616<N) (b:AZ) (hb:Hs b):∃v,En N b=some v∧(v=true→∀l∈b.Links,Ip b l):=by
 have q3:=hb.pl
 have q4:=hb.li
 unfold En
 rcases HQ b.Links.length (B7 N b (Cq N)) (Cq N) (λi=>∀l,b.Links[i]? =some l→Ip b l) (λn k h=>by
  simp only[B7];rw[E7 h];rfl) (λn k h=>by
  simp only[B7]
  obtain⟨vf,ef,pf⟩:=Pw hN b.Links[k]
  obtain⟨vu,eu⟩:=Pg N b.Links[k]
  rw[E6 h,cond_true,BQ h]
  simp only[Option.bind_some,Kr,NF N _ (show b.Places.length<4611686018427387904 by omega),Nh N b _ _ (show b.Places.length<4611686018427387904 by omega),ef,eu,Ee,KG,BH (show k<4611686018427387904 by omega)]
  generalize hB:(_|| !vu)=B
  cases B
  ·simp only[Bool.or_eq_false_iff,Bool.not_eq_false'] at hB
   obtain⟨⟨⟨⟨⟨h1,h2⟩,h3⟩,h4⟩,h5⟩,h6⟩:=hB
   have i1:=Is h1
   have i2:=Is h2
   obtain⟨f1,f2,f3⟩:=pf h5
   refine .inr ⟨λl hl=>?_,rfl⟩
   have:l=b.Links[k]:=by simpa [h] using hl.symm
   rw[this]
   exact⟨i1,⟨i2.1,by omega⟩,Sj h3,Is h4,f1,f2,λh4=>f3 (by omega)⟩
  ·exact .inl rfl) N 0 (by omega) (Nat.zero_le _) with h|⟨hp,h⟩
 ·exact⟨false,h,λh=>by cases h⟩
 ·refine⟨true,h,λ_ l hl=>?_⟩
  obtain⟨i,hi,rfl⟩:=List.mem_iff_getElem.1 hl
  exact hp i (Nat.zero_le _) hi _ (by simp [hi])
theorem Sw (N:Nat) (b:AZ) (o to:Int) (h:to= -1∨(0≤to∧to<b.Places.length)):Df (IH N b o to):=by
 unfold IH
 refine Df.cond (λ_=>Df.mk _) λhc=>?_
 simp only[decide_eq_false_iff_not] at hc
 exact Df.bind (Df.ix (by omega) (by omega)) λ_ _=>Df.mk _
theorem SG {N:Nat}(hN:1000<N) (b:AZ) (hb:Hs b) (hp:∀p∈b.Places,J1 b p) (hl:∀l∈b.Links,Ip b l):Df (Fm N b):=by
 have q3:=hb.pl
 have q4:=hb.li
 have hj:Df (Cv N b):=by
  unfold Cv
  rcases HQ b.Links.length (Ct N b (D1 N)) (D1 N) (λ_=>True) (λn k h=>by
   simp only[Ct];rw[E7 h];rfl) (λn k h=>by
   simp only[Ct]
   have ok:=hl b.Links[k] (List.getElem_mem h)
   obtain⟨x,hx⟩:=Df.ix (l:=b.Places) ok.fr.1 ok.fr.2
   obtain⟨v,hv⟩:=Sw N b x.Office (b.Links[k]).To ok.to
   rw[E6 h,cond_true,BQ h]
   simp only[Option.bind_some,hx,hv,BH (show k<4611686018427387904 by omega)]
   have hz:∃z,(cond (!v) (some true) (Option.bind (cond (decide ((b.Links[k]).Kind=4)) (Option.bind (ix b.Places (b.Links[k]).To) λx140=>some (decide (x140.Office≠x.Office))) (some false)) λb135=>some b135))=some z:=by
    refine Df.cond (λ_=>Df.mk _) λ_=>Df.bind (Df.cond (λh4=>?_) λ_=>Df.mk _) λ_ _=>Df.mk _
    have h4':(b.Links[k]).Kind=4:=by simpa using h4
    have:=(ok.seep h4').2.2.2.2.2
    have:=ok.to
    exact Df.bind (Df.ix (by omega) (by omega)) λ_ _=>Df.mk _
   obtain⟨z,hz⟩:=hz
   rw[hz]
   simp only[Option.bind_some]
   cases z
   ·exact .inr ⟨trivial,rfl⟩
   ·exact .inl rfl) N 0 (by omega) (Nat.zero_le _) with h|⟨_,h⟩
  ·exact⟨_,h⟩
  ·exact⟨true,h⟩
 unfold Fm
 rcases HQ b.Places.length (Cu N b (Cv N b)) (Cv N b) (λ_=>True) (λn k h=>by
   simp only[Cu];rw[E7 h];rfl) (λn k h=>by
   simp only[Cu]
   have ok:=hp b.Places[k] (List.getElem_mem h)
   obtain⟨v,hv⟩:=Sw N b (b.Places[k]).Office (b.Places[k]).Down ok.down
   rw[E6 h,cond_true,BQ h]
   simp only[Option.bind_some,hv,BH (show k<4611686018427387904 by omega)]
   cases v
   ·exact .inl rfl
   ·exact .inr ⟨trivial,rfl⟩) N 0 (by omega) (Nat.zero_le _) with h|⟨_,h⟩
 ·exact⟨_,h⟩
 ·obtain⟨v,hv⟩:=hj
  exact⟨v,h.trans hv⟩
theorem RB {N:Nat}(hN:18446744073709551616<N) (c:List BI) (hc:Gb c) (kj:Int→Option Int):∀(n:Nat) (s:Int) (k:Nat),c.length<n+k→1≤k→k≤c.length→∃s',Dn N c kj n s (k:Int)=kj s'
 |0,s,k,h,h1,hk=>by omega
 |n+1,s,k,h,h1,hk=>by
  obtain⟨g1,g2,g3⟩:=hc
  simp only[Dn]
  rcases Nat.lt_or_ge k c.length with hl|hl
  ·have e1:BD ((k:Int)-1)=((k-1:Nat):Int):=by rw[GF (by omega) (by omega)];omega
   rw[E6 hl,cond_true,e1,BQ hl,BQ (show k-1<c.length by omega)]
   simp only[Option.bind_some,BH (show k<4611686018427387904 by omega)]
   obtain⟨a1,a2,a3⟩:=g3 k c[k] (by simp [hl])
   obtain⟨b1,b2,_⟩:=g3 (k-1) c[k-1] (by simp [show k-1<c.length by omega])
   obtain⟨d1,d2⟩:=a3 c[k-1] (by omega) (by simp [show k-1<c.length by omega])
   unfold Hy at a1 a2 b1 b2
   obtain⟨v,hv⟩:=Kn hN (num:=BD ((c[k]).Y-(c[k-1]).Y)) (den:=BD ((c[k]).X-(c[k-1]).X)) (by rw[GF (by omega) (by omega)];omega) (by rw[GF (by omega) (by omega)];omega) (by rw[GF (by omega) (by omega)];omega)
   rw[hv]
   exact RB hN c ⟨g1,g2,g3⟩ kj n _ (k+1) (by omega) (by omega) (by omega)
  ·rw[E7 hl];exact⟨s,rfl⟩
theorem UW {N:Nat}(hN:18446744073709551616<N) (cs:List (List BI)) (hl:cs.length≤3) (hc:∀c∈cs,Gb c):Df (HM N cs):=by
 unfold HM
 have:∀(n:Nat) (s:Int) (k:Nat),cs.length<n+k→k≤cs.length→Df (CU N cs (DQ N) n s (k:Int)):=by
  intro n
  induction n with
  |zero=>intro s k h hk;omega
  |succ n ih=>
   intro s k h hk
   simp only[CU]
   rcases Nat.lt_or_ge k cs.length with hl2|hl2
   ·rw[E6 hl2,cond_true,BQ hl2]
    simp only[Option.bind_some]
    have ok:=hc cs[k] (List.getElem_mem hl2)
    obtain⟨s',e⟩:=RB hN cs[k] ok (EQ N (k:Int) (CU N cs (DQ N) n)) N s 1 (by have:=ok.2.1;omega) (by omega) ok.1
    have e0:Dn N cs[k] (EQ N (k:Int) (CU N cs (DQ N) n)) N s 1=_:=e
    rw[e0]
    unfold EQ
    rw[BH (show k<4611686018427387904 by omega)]
    exact ih s' (k+1) (by omega) (by omega)
   ·rw[E7 hl2];exact Df.mk _
 exact this N 0 0 (by omega) (Nat.zero_le _)
theorem JO {α}(l:List α) (i:Int) (x:α):(upd l i x).length=l.length:=by simp [upd]
theorem ZY {N:Nat}(hN:1000<N) (l:List Int) (hl:l.length≤64):Df (CA N l):=by
 unfold CA
 rcases HQ l.length (C5 N l (EK N)) (EK N) (λ_=>True) (λn k h=>by
  simp only[C5];rw[E7 h];rfl) (λn k h=>by
  simp only[C5]
  rw[E6 h,cond_true,BQ h]
  simp only[Option.bind_some,BH (show k<4611686018427387904 by omega)]
  cases decide (1099511627776<l[k])
  ·exact .inr ⟨trivial,rfl⟩
  ·exact .inl rfl) N 0 (by omega) (Nat.zero_le _) with h|⟨_,h⟩
 ·exact⟨_,h⟩
 ·exact⟨true,h⟩
theorem XQ {N:Nat}(hN:18446744073709551616<N) (b:AZ) (hb:Hs b) (hl:∀l∈b.Links,Ip b l) (kj:List Int→Option Bool):∀(n:Nat) (k:Nat) (s:List Int),s.length=b.Places.length→b.Links.length<n+k→k≤b.Links.length→∃s',s'.length=b.Places.length∧BL N b kj n (k:Int) s=kj s'
 |0,k,s,hs,h,hk=>by omega
 |n+1,k,s,hs,h,hk=>by
  have q3:=hb.pl
  have q4:=hb.li
  simp only[BL]
  rcases Nat.lt_or_ge k b.Links.length with hc|hc
  ·rw[E6 hc,cond_true,BQ hc]
   simp only[Option.bind_some]
   have ok:=hl b.Links[k] (List.getElem_mem hc)
   generalize b.Links[k]=l at ok
   have ih:∀s:List Int,s.length=b.Places.length→∃s',s'.length=b.Places.length∧Bz N (k:Int) (BL N b kj n) s=kj s':=λs hs=>by
    unfold Bz
    rw[BH (show k<4611686018427387904 by omega)]
    exact XQ hN b hb hl kj n (k+1) s hs (by omega) (by omega)
   obtain⟨x,hx⟩:=Df.ix (l:=s) ok.fr.1 (by rw[hs];exact ok.fr.2)
   have j5:∀c:Bool,(c=true→l.Kind=1∨l.Kind=5∨l.Kind=3)→∃s',s'.length=b.Places.length∧C7 N s l (Bz N (k:Int) (BL N b kj n)) c=kj s':=λc hc=>by
    unfold C7
    cases c
    ·rw[cond_false]
     by_cases k4:l.Kind=4
     ·rw[show decide (l.Kind=4)=true by simp [k4],cond_true]
      obtain⟨h1,h2,h3,h4,h5,h6⟩:=ok.seep k4
      obtain⟨v,hv⟩:=Kn hN h1.1 (show 0≤l.Den by omega) (by omega)
      obtain⟨v2,hv2⟩:=Kn hN h4.1 h5.1 (show l.BackDen≤_ by have:=h5.2;omega)
      have hto:=ok.to
      obtain⟨x2,hx2⟩:=Df.ix (l:=upd s l.From (BD (x+BD (2*v)))) (i:=l.To) (by omega) (by rw[JO,hs];omega)
      simp only[hx,hv,hx2,hv2,Option.bind_some]
      exact ih _ (by rw[JO,JO,hs])
     ·rw[show decide (l.Kind=4)=false by simp [k4],cond_false]
      exact ih s hs
    ·rw[cond_true]
     obtain⟨h1,h2,h3⟩:=ok.part (hc rfl)
     obtain⟨v,hv⟩:=Kn hN h1.1 (show 0≤l.Den by omega) (by omega)
     simp only[hx,hv,Option.bind_some]
     exact ih _ (by rw[JO,hs])
   by_cases k0:l.Kind=0
   ·rw[show decide (l.Kind=0)=true by simp [k0],cond_true]
    obtain⟨c1,c2,c3,c4,c5⟩:=ok.gate k0
    obtain⟨v,hv⟩:=UW hN [l.Rate,l.Band.Lo,l.Band.Hi] (by simp) (by simp [c1,c2,c3])
    simp only[hx,hv,Option.bind_some]
    by_cases t0:l.To= -1
    ·rw[show decide (l.To≠ -1)=false by simp [t0],cond_false]
     exact ih _ (by rw[JO,hs])
    ·rw[show decide (l.To≠ -1)=true by simp [t0],cond_true]
     have hto:=ok.to
     obtain⟨x2,hx2⟩:=Df.ix (l:=upd s l.From (BD (x+v))) (i:=l.To) (by omega) (by rw[JO,hs];omega)
     obtain⟨v2,hv2⟩:=Kn hN c4.1 c5.1 (show l.BackDen≤_ by have:=c5.2;omega)
     simp only[hx2,hv2,Option.bind_some]
     exact ih _ (by rw[JO,JO,hs])
   ·rw[show decide (l.Kind=0)=false by simp [k0],cond_false]
    by_cases k1:l.Kind=1
    ·rw[show decide (l.Kind=1)=true by simp [k1],cond_true]
     exact j5 true λ_=> .inl k1
    ·rw[show decide (l.Kind=1)=false by simp [k1],cond_false]
     by_cases k5:l.Kind=5
     ·rw[show decide (l.Kind=5)=true by simp [k5],cond_true]
      exact j5 true λ_=> .inr (.inl k5)
     ·rw[show decide (l.Kind=5)=false by simp [k5],cond_false]
      exact j5 _ λh=> .inr (.inr (by simpa using h))
  ·rw[E7 hc];exact⟨s,hs,rfl⟩
theorem Th {N:Nat}(hN:18446744073709551616<N) (b:AZ) (hb:Hs b) (hp:∀p∈b.Places,J1 b p) (hl:∀l∈b.Links,Ip b l):Df (GB N b):=by
 have q3:=hb.pl
 have q4:=hb.li
 unfold GB
 rw[show Iu (b.Places.length:Int) (b.Places.length:Int) 8=true by simp [Iu];omega]
 simp only[chk,cond_true]
 have h1:∀(n:Nat) (k:Nat) (s:List Int),s.length=b.Places.length→b.Places.length<n+k→k≤b.Places.length→∃s',s'.length=b.Places.length∧C6 N b (C8 N b) n (k:Int) s=C8 N b s':=by
  intro n
  induction n with
  |zero=>intro k s hs h hk;omega
  |succ n ih=>
   intro k s hs h hk
   simp only[C6]
   rcases Nat.lt_or_ge k b.Places.length with hc|hc
   ·have ok:=hp b.Places[k] (List.getElem_mem hc)
    obtain⟨v,hv⟩:=Kn hN ok.num.1 ok.den.1 (by have:=ok.den.2;omega)
    rw[E6 hc,cond_true,BQ hc,BQ (show k<s.length by omega)]
    simp only[Option.bind_some,hv,BH (show k<4611686018427387904 by omega)]
    exact ih (k+1) _ (by rw[JO,hs]) (by omega) (by omega)
   ·rw[E7 hc];exact⟨s,hs,rfl⟩
 obtain⟨s1,g1,g2⟩:=h1 N 0 (List.replicate ((b.Places.length:Int):Int).toNat 0) (by simp) (by omega) (Nat.zero_le _)
 have g2':C6 N b (C8 N b) N 0 (List.replicate ((b.Places.length:Int):Int).toNat 0)=_:=g2
 rw[g2']
 unfold C8
 obtain⟨s2,g3,g4⟩:=XQ hN b hb hl (CA N) N 0 s1 g1 (by omega) (Nat.zero_le _)
 have g4':BL N b (CA N) N 0 s1=_:=g4
 rw[g4']
 exact ZY (by omega) s2 (by omega)
end Go.Proofs.YtblcgjadhemlbaaGreat
