import Derived.Test.YtblcgjadhemlbaaGreatRPureRight
namespace Go.Proofs.YtblcgjadhemlbaaGreat
open Go.RowKit
set_option linter.unusedVariables false
set_option linter.unusedSimpArgs false
structure Iv (b:AX) (p:Dv):Prop where
 lev:H7 p.Level
 num:Iy p.Num
 den:Iy p.Den
 down:p.Down= -1∨(0≤p.Down∧p.Down<b.Places.length)
 cap:Iy p.Cap
 delay:0≤p.Delay∧p.Delay≤240
theorem SO {N:Nat}(p:Dv) (kj:Int→Option Bool) (hl:p.Start.length≤16):∀(n:Nat) (s:Int) (k:Nat),p.Start.length<n+k→k≤p.Start.length→Cd N p kj n s (k:Int)=some false∨∃s',Cd N p kj n s (k:Int)=kj s'
 |0,s,k,h,hk=>by omega
 |n+1,s,k,h,hk=>by
  simp only[Cd]
  rcases Nat.lt_or_ge k p.Start.length with hc|hc
  ·rw[Ee hc,cond_true,BI hc]
   simp only[Option.bind_some,Lb,BF (show k<4611686018427387904 by omega)]
   cases Q3 p.Start[k]
   ·exact .inl rfl
   ·exact SO (N:=N) p kj hl n _ (k+1) (by omega) (by omega)
  ·rw[Eh hc];exact .inr ⟨s,rfl⟩
theorem UA {N:Nat}(b:AX) (p:Dv) (i109:Int) (kj:Int→Option Bool) (hc:0≤b.Cells∧b.Cells≤64):∀(n:Nat) (s:Int) (k:Nat), -1≤s→s≤64→65<n+s→k<100→(k:Int)≤s+1→Cc N b p i109 kj n s (k:Int)=some false∨Cc N b p i109 kj n s (k:Int)=kj i109
 |0,s,k,h1,h2,h3,h4,h5=>by omega
 |n+1,s,k,h1,h2,h3,h4,h5=>by
  simp only[Cc]
  rcases Nat.lt_or_ge k p.Rain.length with hk|hk
  ·rw[Ee hk,cond_true,BI hk]
   simp only[Option.bind_some,Lb,Fc,Ku,BF (show k<4611686018427387904 by omega)]
   cases hB:(decide ((p.Rain[k]).Index≤s)||decide (b.Cells≤(p.Rain[k]).Index)|| !Q3 (p.Rain[k]).Area)
   ·simp only[Bool.or_eq_false_iff,decide_eq_false_iff_not] at hB
    obtain⟨⟨g1,g2⟩,g3⟩:=hB
    exact UA (N:=N) b p i109 kj hc n _ (k+1) (by omega) (by omega) (by omega) (by omega) (by omega)
   ·exact .inl rfl
  ·rw[Eh hk];exact .inr rfl
theorem Qg {N:Nat}(hN:1000<N) (b:AX) (hb:qQ b):∀(n:Nat) (s:Int) (k:Nat),b.Places.length<n+k→k≤b.Places.length→∃v,Bc N b (Br N) n s (k:Int)=some v∧(v=true→∀(i:Nat) p,k≤i→b.Places[i]? =some p→Iv b p)
 |0,s,k,h,hk=>by omega
 |n+1,s,k,h,hk=>by
  have q3:=hb.pl
  simp only[Bc]
  rcases Nat.lt_or_ge k b.Places.length with hc|hc
  ·rw[Ee hc,cond_true,BI hc]
   obtain⟨cv,hcv,hcp⟩:=Ij (N:=N) (by omega) (b.Places[k]).Level
   simp only[Option.bind_some,NM,Lb,RY,hcv,Qb N b _ _ (show b.Places.length<4611686018427387904 by omega),Fc,Ku]
   generalize hB:(_|| !SH b.Places.length (k:Int) (b.Places[k]).Down)=B
   cases B
   ·simp only[Bool.or_eq_false_iff,decide_eq_false_iff_not,Bool.not_eq_false'] at hB
    obtain⟨⟨⟨⟨⟨⟨⟨⟨h1,h2⟩,h3⟩,h4⟩,h5⟩,h6⟩,h7⟩,h8⟩,h9⟩:=hB
    have hst:(b.Places[k]).Start.length=b.Owners.length:=by
     have:((b.Places[k]).Start.length:Int)=(b.Owners.length:Int):=by simpa using h7
     omega
    have hP:Iv b b.Places[k]:=⟨hcp h6,(Mz h8).1,(Mz h8).2,T1 h9,MK h4,KQ h3⟩
    simp only[cond_false]
    rcases SO (N:=N) b.Places[k] (Dp N b b.Places[k] (CI N (k:Int) (Bc N b (Br N) n))) (by have:=hb.own;omega) N s 0 (by have:=hb.own;omega) (Nat.zero_le _) with e|⟨s',e⟩
    ·exact⟨false,e,λh=>by cases h⟩
    ·have e0:Cd N b.Places[k] (Dp N b b.Places[k] (CI N (k:Int) (Bc N b (Br N) n))) N s 0=_:=e
     rw[e0]
     unfold Dp
     rcases UA (N:=N) b b.Places[k] s' (CI N (k:Int) (Bc N b (Br N) n)) hb.cells N (-1) 0 (by omega) (by omega) (by omega) (by omega) (by omega) with e|e
     ·exact⟨false,e,λh=>by cases h⟩
     ·have e1:Cc N b b.Places[k] s' (CI N (k:Int) (Bc N b (Br N) n)) N (-1) 0=_:=e
      rw[e1]
      unfold CI
      rw[BF (show k<4611686018427387904 by omega)]
      obtain⟨v,g1,g2⟩:=Qg hN b hb n s' (k+1) (by omega) (by omega)
      refine⟨v,g1,λhv i p hi hp=>?_⟩
      by_cases ei:i=k
      ·subst ei
       have:p=b.Places[i]:=by simpa [hc] using hp.symm
       rw[this];exact hP
      ·exact g2 hv i p (by omega) hp
   ·exact⟨false,rfl,λh=>by cases h⟩
  ·rw[Eh hc]
   refine⟨_,rfl,λ_ i p hi hp=>?_⟩
   have:=(List.getElem?_eq_some_iff.1 hp).1
   omega
theorem U5 {N:Nat}(hN:1000<N) (b:AX) (hb:qQ b):∃v,Hb N b=some v∧(v=true→∀p∈b.Places,Iv b p):=by
 obtain⟨v,h1,h2⟩:=Qg hN b hb N 0 0 (by have:=hb.pl;omega) (Nat.zero_le _)
 refine⟨v,h1,λhv p hp=>?_⟩
 obtain⟨i,hi,rfl⟩:=List.mem_iff_getElem.1 hp
 exact h2 hv i _ (Nat.zero_le _) (by simp [hi])
structure Jr (b:AX) (l:A7):Prop where
 kind:0≤l.Kind∧l.Kind≤5
 fr:0≤l.From∧l.From<b.Places.length
 to:l.To= -1∨(0≤l.To∧l.To<b.Places.length)
 delay:0≤l.Delay∧l.Delay≤240
 gate:l.Kind=0→H7 l.Rate∧H7 l.Band.Lo∧H7 l.Band.Hi∧Iy l.BackNum∧Iy l.BackDen
 part:l.Kind=1∨l.Kind=5∨l.Kind=3→Iy l.Num∧1≤l.Den∧l.Den≤1125899906842624
 seep:l.Kind=4→Iy l.Num∧1≤l.Den∧l.Den≤1125899906842624∧Iy l.BackNum∧Iy l.BackDen∧l.To≠ -1
theorem VV {N:Nat}(hN:18446744073709551616<N) (a b:List BS) (ha:1≤a.length) (ha2:a.length≤32) (hb2:b.length≤32):Df (FO N a b):=by
 unfold FO
 rcases IP b.length (FL N a b (Gq N)) (Gq N) (λ_=>True) (λn k h=>by
  simp only[FL];rw[Eh h];rfl) (λn k h=>by
  simp only[FL]
  obtain⟨v,hv⟩:=PU hN ha ha2 (b[k]).X
  rw[Ee h,cond_true,BI h]
  simp only[Option.bind_some,hv,BF (show k<4611686018427387904 by omega)]
  cases (decide ((b[k]).Y<v.1)||decide (v.1=(b[k]).Y)&&v.2)
  ·exact .inr ⟨trivial,rfl⟩
  ·exact .inl rfl) N 0 (by omega) (Nat.zero_le _) with h|⟨_,h⟩
 ·exact⟨_,h⟩
 ·exact⟨true,h⟩
theorem SD {N:Nat}(hN:18446744073709551616<N) (a b:List BS):Df (Gk N a b):=by
 unfold Gk
 obtain⟨va,ea,pa⟩:=Ij (N:=N) (by omega) a
 obtain⟨vb,eb,pb⟩:=Ij (N:=N) (by omega) b
 simp only[ea,eb,Option.bind_some,Fc,Ku]
 refine Df.cond (λ_=>Df.mk _) λh=>?_
 simp only[Bool.or_eq_false_iff,Bool.not_eq_false'] at h
 obtain⟨a1,a2,_⟩:=pa h.1
 obtain⟨b1,b2,_⟩:=pb h.2
 rcases IP a.length (FM N a b (FO N a b)) (FO N a b) (λ_=>True) (λn k h=>by
  simp only[FM];rw[Eh h];rfl) (λn k h=>by
  simp only[FM]
  obtain⟨v,hv⟩:=PU hN b1 b2 (a[k]).X
  rw[Ee h,cond_true,BI h]
  simp only[Option.bind_some,hv,BF (show k<4611686018427387904 by omega)]
  cases decide (v.1<(a[k]).Y)
  ·exact .inr ⟨trivial,rfl⟩
  ·exact .inl rfl) N 0 (by omega) (Nat.zero_le _) with h|⟨_,h⟩
 ·exact⟨_,h⟩
 ·obtain⟨v,hv⟩:=VV hN a b a1 a2 b2
  exact⟨v,h.trans hv⟩
theorem VF {N:Nat}(hN:18446744073709551616<N) (l:A7):∃v,Ga N l=some v∧(v=true→
  (l.Kind=0→H7 l.Rate∧H7 l.Band.Lo∧H7 l.Band.Hi∧Iy l.BackNum∧Iy l.BackDen)∧(l.Kind=1∨l.Kind=5∨l.Kind=3→Iy l.Num∧1≤l.Den∧l.Den≤1125899906842624)∧
  (¬(l.Kind=0∨l.Kind=1∨l.Kind=5∨l.Kind=2∨l.Kind=3)→Iy l.Num∧1≤l.Den∧l.Den≤1125899906842624∧Iy l.BackNum∧Iy l.BackDen∧l.To≠ -1)):=by
 obtain⟨v1,e1,p1⟩:=Ij (N:=N) (by omega) l.Rate
 obtain⟨v2,e2,p2⟩:=Ij (N:=N) (by omega) l.Band.Lo
 obtain⟨v3,e3,p3⟩:=Ij (N:=N) (by omega) l.Band.Hi
 obtain⟨v4,e4⟩:=SD hN l.Band.Lo l.Rate
 obtain⟨v5,e5⟩:=SD hN l.Rate l.Band.Hi
 unfold Ga
 by_cases k0:l.Kind=0
 ·rw[show decide (l.Kind=0)=true by simp [k0],cond_true]
  simp only[e1,e2,e3,e4,e5,NM,Lb,RY,Option.bind_some,Fc,OQ]
  refine⟨_,rfl,λh=>?_⟩
  simp only[Bool.and_eq_true] at h
  obtain⟨⟨⟨⟨⟨⟨⟨⟨⟨h1,h2⟩,h3⟩,h4⟩,h5⟩,h6⟩,h7⟩,h8⟩,h9⟩,h10⟩:=h
  exact⟨λ_=>⟨p1 h1,p2 h2,p3 h3,(Mz h9).1,(Mz h9).2⟩,λh=>by omega,λh=>absurd (.inl k0) h⟩
 ·rw[show decide (l.Kind=0)=false by simp [k0],cond_false]
  have hj:∀c:Bool,(c=true↔l.Kind=1∨l.Kind=5)→∃v,Ec N l c=some v∧(v=true→
    (l.Kind=0→H7 l.Rate∧H7 l.Band.Lo∧H7 l.Band.Hi∧Iy l.BackNum∧Iy l.BackDen)∧(l.Kind=1∨l.Kind=5∨l.Kind=3→Iy l.Num∧1≤l.Den∧l.Den≤1125899906842624)∧
    (¬(l.Kind=0∨l.Kind=1∨l.Kind=5∨l.Kind=2∨l.Kind=3)→Iy l.Num∧1≤l.Den∧l.Den≤1125899906842624∧Iy l.BackNum∧Iy l.BackDen∧l.To≠ -1)):=λc hc=>by
   unfold Ec
   simp only[NM,Lb,RY,Option.bind_some,Fc,OQ]
   cases c
   ·have hn:¬(l.Kind=1∨l.Kind=5):=λh=>by have:=hc.2 h;cases this
    rw[cond_false]
    by_cases k2:l.Kind=2
    ·rw[show decide (l.Kind=2)=true by simp [k2],cond_true]
     exact⟨_,rfl,λ_=>⟨λh=>absurd h k0,λh=>by omega,λh=>absurd (.inr (.inr (.inr (.inl k2)))) h⟩⟩
    ·rw[show decide (l.Kind=2)=false by simp [k2],cond_false]
     by_cases k3:l.Kind=3
     ·rw[show decide (l.Kind=3)=true by simp [k3],cond_true]
      refine⟨_,rfl,λh=>?_⟩
      simp only[Bool.and_eq_true] at h
      obtain⟨⟨⟨⟨h1,h2⟩,h3⟩,h4⟩,h5⟩:=h
      exact⟨λh=>absurd h k0,λ_=>⟨MK h1,KQ h2⟩,λh=>absurd (.inr (.inr (.inr (.inr k3)))) h⟩
     ·rw[show decide (l.Kind=3)=false by simp [k3],cond_false]
      refine⟨_,rfl,λh=>?_⟩
      simp only[Bool.and_eq_true,decide_eq_true_eq] at h
      obtain⟨⟨⟨h1,h2⟩,h3⟩,h4⟩:=h
      exact⟨λh=>absurd h k0,λh=>by omega,λ_=>⟨MK h1,(KQ h2).1,(KQ h2).2,(Mz h3).1,(Mz h3).2,h4⟩⟩
   ·have hy:=hc.1 rfl
    rw[cond_true]
    refine⟨_,rfl,λh=>?_⟩
    simp only[Bool.and_eq_true] at h
    obtain⟨⟨h1,h2⟩,h3⟩:=h
    exact⟨λh=>absurd h k0,λ_=>⟨MK h2,KQ h3⟩,λh=>by omega⟩
  by_cases k1:l.Kind=1
  ·rw[show decide (l.Kind=1)=true by simp [k1],cond_true]
   exact hj true (by simp [k1])
  ·rw[show decide (l.Kind=1)=false by simp [k1],cond_false]
   exact hj _ (by simp [k1])
theorem Uv (N:Nat) (l:A7):Df (GX N l):=by
 unfold GX
 exact Df.cond (λ_=>Df.mk _) λ_=>Df.cond (λ_=>Df.mk _) λ_=>Df.cond (λ_=>Df.mk _) λ_=>Df.cond (λ_=>Df.mk _) λ_=>Df.cond (λ_=>Df.mk _) λ_=>Df.mk _
theorem WC {N:Nat}(hN:18446744073709551616<N) (b:AX) (hb:qQ b):∃v,G0 N b=some v∧(v=true→∀l∈b.Links,Jr b l):=by
 have q3:=hb.pl
 have q4:=hb.li
 unfold G0
 rcases IP b.Links.length (DO N b (Et N)) (Et N) (λi=>∀l,b.Links[i]? =some l→Jr b l) (λn k h=>by
  simp only[DO];rw[Eh h];rfl) (λn k h=>by
  simp only[DO]
  obtain⟨vf,ef,pf⟩:=VF hN b.Links[k]
  obtain⟨vu,eu⟩:=Uv N b.Links[k]
  rw[Ee h,cond_true,BI h]
  simp only[Option.bind_some,NM,Ps N _ (show b.Places.length<4611686018427387904 by omega),Qb N b _ _ (show b.Places.length<4611686018427387904 by omega),ef,eu,Fc,Ku,BF (show k<4611686018427387904 by omega)]
  generalize hB:(_|| !vu)=B
  cases B
  ·simp only[Bool.or_eq_false_iff,Bool.not_eq_false'] at hB
   obtain⟨⟨⟨⟨⟨h1,h2⟩,h3⟩,h4⟩,h5⟩,h6⟩:=hB
   have i1:=KQ h1
   have i2:=KQ h2
   obtain⟨f1,f2,f3⟩:=pf h5
   refine .inr ⟨λl hl=>?_,rfl⟩
   have:l=b.Links[k]:=by simpa [h] using hl.symm
   rw[this]
   exact⟨i1,⟨i2.1,by omega⟩,T1 h3,KQ h4,f1,f2,λh4=>f3 (by omega)⟩
  ·exact .inl rfl) N 0 (by omega) (Nat.zero_le _) with h|⟨hp,h⟩
 ·exact⟨false,h,λh=>by cases h⟩
 ·refine⟨true,h,λ_ l hl=>?_⟩
  obtain⟨i,hi,rfl⟩:=List.mem_iff_getElem.1 hl
  exact hp i (Nat.zero_le _) hi _ (by simp [hi])
theorem UF (N:Nat) (b:AX) (o to:Int) (h:to= -1∨(0≤to∧to<b.Places.length)):Df (It N b o to):=by
 unfold It
 refine Df.cond (λ_=>Df.mk _) λhc=>?_
 simp only[decide_eq_false_iff_not] at hc
 exact Df.bind (Df.ix (by omega) (by omega)) λ_ _=>Df.mk _
theorem Ta {N:Nat}(hN:1000<N) (b:AX) (hb:qQ b) (hp:∀p∈b.Places,Iv b p) (hl:∀l∈b.Links,Jr b l):Df (GG N b):=by
 have q3:=hb.pl
 have q4:=hb.li
 have hj:Df (Cy N b):=by
  unfold Cy
  rcases IP b.Links.length (Cw N b (EG N)) (EG N) (λ_=>True) (λn k h=>by
   simp only[Cw];rw[Eh h];rfl) (λn k h=>by
   simp only[Cw]
   have ok:=hl b.Links[k] (List.getElem_mem h)
   obtain⟨x,hx⟩:=Df.ix (l:=b.Places) ok.fr.1 ok.fr.2
   obtain⟨v,hv⟩:=UF N b x.Office (b.Links[k]).To ok.to
   rw[Ee h,cond_true,BI h]
   simp only[Option.bind_some,hx,hv,BF (show k<4611686018427387904 by omega)]
   have hz:∃z,(cond (!v) (some true) (Option.bind (cond (decide ((b.Links[k]).Kind=4)) (Option.bind (ix b.Places (b.Links[k]).To) λx140=>some (decide (x140.Office≠x.Office))) (some false)) λb135=>some b135))=some z:=by
    refine Df.cond (λ_=>Df.mk _) λ_=>Df.bind (Df.cond (λh4=>?_) λ_=>Df.mk _) λ_ _=>Df.mk _
    have h4':(b.Links[k]).Kind=4:=by simpa using h4
    have:=(ok.seep h4').2.2.2.2.2
    have:=ok.to
    exact Df.bind (Df.ix (by omega) (by omega)) λ_ _=>Df.mk _
   obtain⟨z,hz⟩:=hz
   rw[hz]
   simp only[Option.bind_some]
   cases z
   ·exact .inr ⟨trivial,rfl⟩
   ·exact .inl rfl) N 0 (by omega) (Nat.zero_le _) with h|⟨_,h⟩
  ·exact⟨_,h⟩
  ·exact⟨true,h⟩
 unfold GG
 rcases IP b.Places.length (Cx N b (Cy N b)) (Cy N b) (λ_=>True) (λn k h=>by
   simp only[Cx];rw[Eh h];rfl) (λn k h=>by
   simp only[Cx]
   have ok:=hp b.Places[k] (List.getElem_mem h)
   obtain⟨v,hv⟩:=UF N b (b.Places[k]).Office (b.Places[k]).Down ok.down
   rw[Ee h,cond_true,BI h]
   simp only[Option.bind_some,hv,BF (show k<4611686018427387904 by omega)]
   cases v
   ·exact .inl rfl
   ·exact .inr ⟨trivial,rfl⟩) N 0 (by omega) (Nat.zero_le _) with h|⟨_,h⟩
 ·exact⟨_,h⟩
 ·obtain⟨v,hv⟩:=hj
  exact⟨v,h.trans hv⟩
theorem SL {N:Nat}(hN:18446744073709551616<N) (c:List BS) (hc:H7 c) (kj:Int→Option Int):∀(n:Nat) (s:Int) (k:Nat),c.length<n+k→1≤k→k≤c.length→∃s',D2 N c kj n s (k:Int)=kj s'
 |0,s,k,h,h1,hk=>by omega
 |n+1,s,k,h,h1,hk=>by
  obtain⟨g1,g2,g3⟩:=hc
  simp only[D2]
  rcases Nat.lt_or_ge k c.length with hl|hl
  ·have e1:BD ((k:Int)-1)=((k-1:Nat):Int):=by rw[EF (by omega) (by omega)];omega
   rw[Ee hl,cond_true,e1,BI hl,BI (show k-1<c.length by omega)]
   simp only[Option.bind_some,BF (show k<4611686018427387904 by omega)]
   obtain⟨a1,a2,a3⟩:=g3 k c[k] (by simp [hl])
   obtain⟨b1,b2,_⟩:=g3 (k-1) c[k-1] (by simp [show k-1<c.length by omega])
   obtain⟨d1,d2⟩:=a3 c[k-1] (by omega) (by simp [show k-1<c.length by omega])
   unfold Iy at a1 a2 b1 b2
   obtain⟨v,hv⟩:=LM hN (num:=BD ((c[k]).Y-(c[k-1]).Y)) (den:=BD ((c[k]).X-(c[k-1]).X)) (by rw[EF (by omega) (by omega)];omega) (by rw[EF (by omega) (by omega)];omega) (by rw[EF (by omega) (by omega)];omega)
   rw[hv]
   exact SL hN c ⟨g1,g2,g3⟩ kj n _ (k+1) (by omega) (by omega) (by omega)
  ·rw[Eh hl];exact⟨s,rfl⟩
theorem Vk {N:Nat}(hN:18446744073709551616<N) (cs:List (List BS)) (hl:cs.length≤3) (hc:∀c∈cs,H7 c):Df (Ht N cs):=by
 unfold Ht
 have:∀(n:Nat) (s:Int) (k:Nat),cs.length<n+k→k≤cs.length→Df (Ca N cs (DV N) n s (k:Int)):=by
  intro n
  induction n with
  |zero=>intro s k h hk;omega
  |succ n ih=>
   intro s k h hk
   simp only[Ca]
   rcases Nat.lt_or_ge k cs.length with hl2|hl2
   ·rw[Ee hl2,cond_true,BI hl2]
    simp only[Option.bind_some]
    have ok:=hc cs[k] (List.getElem_mem hl2)
    obtain⟨s',e⟩:=SL hN cs[k] ok (Ej N (k:Int) (Ca N cs (DV N) n)) N s 1 (by have:=ok.2.1;omega) (by omega) ok.1
    have e0:D2 N cs[k] (Ej N (k:Int) (Ca N cs (DV N) n)) N s 1=_:=e
    rw[e0]
    unfold Ej
    rw[BF (show k<4611686018427387904 by omega)]
    exact ih s' (k+1) (by omega) (by omega)
   ·rw[Eh hl2];exact Df.mk _
 exact this N 0 0 (by omega) (Nat.zero_le _)
theorem Jv {α}(l:List α) (i:Int) (x:α):(upd l i x).length=l.length:=by simp [upd]
theorem cM {N:Nat}(hN:1000<N) (l:List Int) (hl:l.length≤64):Df (CH N l):=by
 unfold CH
 rcases IP l.length (C7 N l (Ea N)) (Ea N) (λ_=>True) (λn k h=>by
  simp only[C7];rw[Eh h];rfl) (λn k h=>by
  simp only[C7]
  rw[Ee h,cond_true,BI h]
  simp only[Option.bind_some,BF (show k<4611686018427387904 by omega)]
  cases decide (1099511627776<l[k])
  ·exact .inr ⟨trivial,rfl⟩
  ·exact .inl rfl) N 0 (by omega) (Nat.zero_le _) with h|⟨_,h⟩
 ·exact⟨_,h⟩
 ·exact⟨true,h⟩
theorem Yv {N:Nat}(hN:18446744073709551616<N) (b:AX) (hb:qQ b) (hl:∀l∈b.Links,Jr b l) (kj:List Int→Option Bool):∀(n:Nat) (k:Nat) (s:List Int),s.length=b.Places.length→b.Links.length<n+k→k≤b.Links.length→∃s',s'.length=b.Places.length∧BR N b kj n (k:Int) s=kj s'
 |0,k,s,hs,h,hk=>by omega
 |n+1,k,s,hs,h,hk=>by
  have q3:=hb.pl
  have q4:=hb.li
  simp only[BR]
  rcases Nat.lt_or_ge k b.Links.length with hc|hc
  ·rw[Ee hc,cond_true,BI hc]
   simp only[Option.bind_some]
   have ok:=hl b.Links[k] (List.getElem_mem hc)
   generalize b.Links[k]=l at ok
   have ih:∀s:List Int,s.length=b.Places.length→∃s',s'.length=b.Places.length∧B9 N (k:Int) (BR N b kj n) s=kj s':=λs hs=>by
    unfold B9
    rw[BF (show k<4611686018427387904 by omega)]
    exact Yv hN b hb hl kj n (k+1) s hs (by omega) (by omega)
   obtain⟨x,hx⟩:=Df.ix (l:=s) ok.fr.1 (by rw[hs];exact ok.fr.2)
   have j5:∀c:Bool,(c=true→l.Kind=1∨l.Kind=5∨l.Kind=3)→∃s',s'.length=b.Places.length∧C9 N s l (B9 N (k:Int) (BR N b kj n)) c=kj s':=λc hc=>by
    unfold C9
    cases c
    ·rw[cond_false]
     by_cases k4:l.Kind=4
     ·rw[show decide (l.Kind=4)=true by simp [k4],cond_true]
      obtain⟨h1,h2,h3,h4,h5,h6⟩:=ok.seep k4
      obtain⟨v,hv⟩:=LM hN h1.1 (show 0≤l.Den by omega) (by omega)
      obtain⟨v2,hv2⟩:=LM hN h4.1 h5.1 (show l.BackDen≤_ by have:=h5.2;omega)
      have hto:=ok.to
      obtain⟨x2,hx2⟩:=Df.ix (l:=upd s l.From (BD (x+BD (2*v)))) (i:=l.To) (by omega) (by rw[Jv,hs];omega)
      simp only[hx,hv,hx2,hv2,Option.bind_some]
      exact ih _ (by rw[Jv,Jv,hs])
     ·rw[show decide (l.Kind=4)=false by simp [k4],cond_false]
      exact ih s hs
    ·rw[cond_true]
     obtain⟨h1,h2,h3⟩:=ok.part (hc rfl)
     obtain⟨v,hv⟩:=LM hN h1.1 (show 0≤l.Den by omega) (by omega)
     simp only[hx,hv,Option.bind_some]
     exact ih _ (by rw[Jv,hs])
   by_cases k0:l.Kind=0
   ·rw[show decide (l.Kind=0)=true by simp [k0],cond_true]
    obtain⟨c1,c2,c3,c4,c5⟩:=ok.gate k0
    obtain⟨v,hv⟩:=Vk hN [l.Rate,l.Band.Lo,l.Band.Hi] (by simp) (by simp [c1,c2,c3])
    simp only[hx,hv,Option.bind_some]
    by_cases t0:l.To= -1
    ·rw[show decide (l.To≠ -1)=false by simp [t0],cond_false]
     exact ih _ (by rw[Jv,hs])
    ·rw[show decide (l.To≠ -1)=true by simp [t0],cond_true]
     have hto:=ok.to
     obtain⟨x2,hx2⟩:=Df.ix (l:=upd s l.From (BD (x+v))) (i:=l.To) (by omega) (by rw[Jv,hs];omega)
     obtain⟨v2,hv2⟩:=LM hN c4.1 c5.1 (show l.BackDen≤_ by have:=c5.2;omega)
     simp only[hx2,hv2,Option.bind_some]
     exact ih _ (by rw[Jv,Jv,hs])
   ·rw[show decide (l.Kind=0)=false by simp [k0],cond_false]
    by_cases k1:l.Kind=1
    ·rw[show decide (l.Kind=1)=true by simp [k1],cond_true]
     exact j5 true λ_=> .inl k1
    ·rw[show decide (l.Kind=1)=false by simp [k1],cond_false]
     by_cases k5:l.Kind=5
     ·rw[show decide (l.Kind=5)=true by simp [k5],cond_true]
      exact j5 true λ_=> .inr (.inl k5)
     ·rw[show decide (l.Kind=5)=false by simp [k5],cond_false]
      exact j5 _ λh=> .inr (.inr (by simpa using h))
  ·rw[Eh hc];exact⟨s,hs,rfl⟩
theorem Ux {N:Nat}(hN:18446744073709551616<N) (b:AX) (hb:qQ b) (hp:∀p∈b.Places,Iv b p) (hl:∀l∈b.Links,Jr b l):Df (GY N b):=by
 have q3:=hb.pl
 have q4:=hb.li
 unfold GY
 rw[show JQ (b.Places.length:Int) (b.Places.length:Int) 8=true by simp [JQ];omega]
 simp only[chk,cond_true]
 have h1:∀(n:Nat) (k:Nat) (s:List Int),s.length=b.Places.length→b.Places.length<n+k→k≤b.Places.length→∃s',s'.length=b.Places.length∧C8 N b (DA N b) n (k:Int) s=DA N b s':=by
  intro n
  induction n with
  |zero=>intro k s hs h hk;omega
  |succ n ih=>
   intro k s hs h hk
   simp only[C8]
   rcases Nat.lt_or_ge k b.Places.length with hc|hc
   ·have ok:=hp b.Places[k] (List.getElem_mem hc)
    obtain⟨v,hv⟩:=LM hN ok.num.1 ok.den.1 (by have:=ok.den.2;omega)
    rw[Ee hc,cond_true,BI hc,BI (show k<s.length by omega)]
    simp only[Option.bind_some,hv,BF (show k<4611686018427387904 by omega)]
    exact ih (k+1) _ (by rw[Jv,hs]) (by omega) (by omega)
   ·rw[Eh hc];exact⟨s,hs,rfl⟩
 obtain⟨s1,g1,g2⟩:=h1 N 0 (List.replicate ((b.Places.length:Int):Int).toNat 0) (by simp) (by omega) (Nat.zero_le _)
 have g2':C8 N b (DA N b) N 0 (List.replicate ((b.Places.length:Int):Int).toNat 0)=_:=g2
 rw[g2']
 unfold DA
 obtain⟨s2,g3,g4⟩:=Yv hN b hb hl (CH N) N 0 s1 g1 (by omega) (Nat.zero_le _)
 have g4':BR N b (CH N) N 0 s1=_:=g4
 rw[g4']
 exact cM (by omega) s2 (by omega)
end Go.Proofs.YtblcgjadhemlbaaGreat
