import Derived.Test.YtibidnaedddfdaaGreatAPureRight2
namespace Go.Proofs.YtibidnaedddfdaaGreat
open Go.RowKit
set_option linter.unusedVariables false
set_option linter.unusedSimpArgs false
theorem Sz (N:Nat) (n z:Int):Cr N n z=some (Sy n 0 (Ar (z-1))):=rfl
structure PC (b:AJ) (t:KD):Prop where
 place:0≤t.Place∧t.Place<b.Places.length
 flood:G3 t.Flood
 lead:0≤t.Lead∧t.Lead≤24
 watch:G3 t.Watch
 quorum:0≤t.Quorum∧t.Quorum≤128
theorem SP {N:Nat}(hN:1000<N) (b:AJ) (hb:FE b):∃v,FA N b=some v∧(v=true→∀t∈b.Towns,PC b t):=by
 have q3:=hb.pl
 have q5:=hb.to
 have q8:=hb.sh
 have hj:Df (Bw N b):=by
  unfold Bw
  rcases Fm b.Shelters.length (Bu N b (DA N)) (DA N) (λ_=>True) (λn k h=>by
   simp only[Bu];rw[EO h];rfl) (λn k h=>by
   simp only[Bu]
   rw[EN h,cond_true,A9 h]
   simp only[Option.bind_some,Lb,Az (show k<4611686018427387904 by omega)]
   cases Sy (b.Shelters[k]).Room 0 1073741824
   ·exact .inl rfl
   ·exact .inr ⟨trivial,rfl⟩) N 0 (by omega) (Nat.zero_le _) with h|⟨_,h⟩
  ·exact⟨_,h⟩
  ·exact⟨true,h⟩
 unfold FA
 rcases Fm b.Towns.length (Bv N b (Bw N b)) (Bw N b) (λi=>∀t,b.Towns[i]? =some t→PC b t) (λn k h=>by
  simp only[Bv];rw[EO h];rfl) (λn k h=>by
  simp only[Bv]
  rw[EN h,cond_true,A9 h]
  simp only[Option.bind_some,Lb,Je,Nc N _ (show b.Places.length<4611686018427387904 by omega),C2,JQ,Az (show k<4611686018427387904 by omega)]
  generalize hB:(_|| !Sy (b.Towns[k]).Quorum 0 128)=B
  cases B
  ·simp only[Bool.or_eq_false_iff,Bool.not_eq_false'] at hB
   obtain⟨⟨⟨⟨⟨h1,h2⟩,h3⟩,h4⟩,h5⟩,h6⟩:=hB
   refine .inr ⟨λt ht=>?_,rfl⟩
   have:t=b.Towns[k]:=by simpa [h] using ht.symm
   rw[this]
   have i1:=IR h1
   exact⟨⟨i1.1,by omega⟩,Kb h2,IR h3,Kb h5,IR h6⟩
  ·exact .inl rfl) N 0 (by omega) (Nat.zero_le _) with h|⟨hp,h⟩
 ·exact⟨false,h,λh=>by cases h⟩
 ·obtain⟨v,hv⟩:=hj
  refine⟨v,h.trans hv,λ_ t ht=>?_⟩
  obtain⟨i,hi,rfl⟩:=List.mem_iff_getElem.1 ht
  exact hp i (Nat.zero_le _) hi _ (by simp [hi])
theorem Ro {N:Nat}(hN:1000<N) (b:AJ) (hb:FE b):Df (Er N b):=by
 have q6:=hb.ga
 unfold Er
 rcases Fm b.Gauges.length (Bq N b (Cz N)) (Cz N) (λ_=>True) (λn k h=>by
  simp only[Bq];rw[EO h];rfl) (λn k h=>by
  simp only[Bq]
  rw[EN h,cond_true,A9 h]
  simp only[Option.bind_some,Lb,Sz,C2,JQ,Az (show k<4611686018427387904 by omega)]
  generalize hB:(_|| !Sy (b.Gauges[k]).Drift 0 1440)=B
  cases B
  ·simp only[Bool.or_eq_false_iff,Bool.not_eq_false'] at hB
   have i1:=IR hB.1.1
   obtain⟨z,hz⟩:=Df.ix (l:=[(b.Places.length:Int),b.Cells,(b.Links.length:Int)]) (i:=(b.Gauges[k]).Kind) i1.1 (by simp;omega)
   rw[hz]
   simp only[cond_false,Option.bind_some]
   cases Sy (b.Gauges[k]).Target 0 (Ar (z-1))
   ·exact .inl rfl
   ·exact .inr ⟨trivial,rfl⟩
  ·exact .inl rfl) N 0 (by omega) (Nat.zero_le _) with h|⟨_,h⟩
 ·exact⟨_,h⟩
 ·exact⟨true,h⟩
theorem Se {N:Nat}(hN:1000<N) (b:AJ) (hb:FE b):Df (FB N b):=by
 have q7:=hb.ro
 unfold FB
 rcases Fm b.Roads.length (Bz N b (DB N)) (DB N) (λ_=>True) (λn k h=>by
  simp only[Bz];rw[EO h];rfl) (λn k h=>by
  simp only[Bz]
  rw[EN h,cond_true,A9 h]
  simp only[Option.bind_some,Lb,Je,Sz,C2,JQ,Js,Az (show k<4611686018427387904 by omega)]
  generalize (_|| !OX (b.Roads[k]).Limit)=B
  cases B
  ·simp only[cond_false]
   generalize ((decide ((b.Roads[k]).By= -1)&&decide ((b.Roads[k]).Limit≠0))||_)=B2
   cases B2
   ·exact .inr ⟨trivial,rfl⟩
   ·exact .inl rfl
  ·exact .inl rfl) N 0 (by omega) (Nat.zero_le _) with h|⟨_,h⟩
 ·exact⟨_,h⟩
 ·exact⟨true,h⟩
structure Ic (b:AJ):Prop where
 head:FE b
 places:∀p∈b.Places,Ie b p
 links:∀l∈b.Links,K6 b l
 towns:∀t∈b.Towns,PC b t
theorem chainB {b:Bool}{x:Option Bool}{f:Bool→Option Bool}(Q:Prop) {G:Option Bool→Prop}(h:b=true→∃v,x=some v∧(v=true→Q)) (k:∀c,(c=true→b=true∧Q)→G (f c)):G (Option.bind (cond b (Option.bind x λy=>some y) (some false)) f):=by
 cases b
 ·exact k false λh=>by cases h
 ·obtain⟨v,hv,hq⟩:=h rfl
  rw[hv]
  exact k v λhc=>⟨rfl,hq hc⟩
theorem Df.q {x:Option Bool}(h:Df x):∃v,x=some v∧(v=true→True):=by obtain⟨v,hv⟩:=h;exact⟨v,hv,λ_=>trivial⟩
theorem Sf {N:Nat}(hN:18446744073709551616<N) (b:AJ):∃v,HD N b=some v∧(v=true→Ic b):=by
 have hN2:1000<N:=by omega
 unfold HD
 obtain⟨v0,e0,p0⟩:=Ug hN2 b
 rw[e0]
 simp only[Option.bind_some]
 refine chainB True (G:=λx=>∃v,x=some v∧(v=true→Ic b)) (λh=>(Sn hN2 (p0 h)).q) λc1 h1=>?_
 refine chainB (∀p∈b.Places,Ie b p) (G:=λx=>∃v,x=some v∧(v=true→Ic b)) (λh=>Rf hN2 b (p0 (h1 h).1)) λc2 h2=>?_
 have d2:c2=true→FE b∧∀p∈b.Places,Ie b p:=λh=>⟨p0 (h1 (h2 h).1).1,(h2 h).2⟩
 refine chainB (∀l∈b.Links,K6 b l) (G:=λx=>∃v,x=some v∧(v=true→Ic b)) (λh=>Ss hN b (d2 h).1) λc3 h3=>?_
 have d3:c3=true→FE b∧(∀p∈b.Places,Ie b p)∧∀l∈b.Links,K6 b l:=λh=>⟨(d2 (h3 h).1).1,(d2 (h3 h).1).2,(h3 h).2⟩
 refine chainB True (G:=λx=>∃v,x=some v∧(v=true→Ic b)) (λh=>(QP hN2 b (d3 h).1 (d3 h).2.1 (d3 h).2.2).q) λc4 h4=>?_
 refine chainB True (G:=λx=>∃v,x=some v∧(v=true→Ic b)) (λh=>(RY hN b (d3 (h4 h).1).1 (d3 (h4 h).1).2.1 (d3 (h4 h).1).2.2).q) λc5 h5=>?_
 refine chainB (∀t∈b.Towns,PC b t) (G:=λx=>∃v,x=some v∧(v=true→Ic b)) (λh=>SP hN2 b (d3 (h4 (h5 h).1).1).1) λc6 h6=>?_
 refine chainB True (G:=λx=>∃v,x=some v∧(v=true→Ic b)) (λh=>(Ro hN2 b (d3 (h4 (h5 (h6 h).1).1).1).1).q) λc7 h7=>?_
 refine chainB True (G:=λx=>∃v,x=some v∧(v=true→Ic b)) (λh=>(Se hN2 b (d3 (h4 (h5 (h6 (h7 h).1).1).1).1).1).q) λc8 h8=>?_
 refine⟨c8,rfl,λh=>?_⟩
 have d:=d3 (h4 (h5 (h6 (h7 (h8 h).1).1).1).1).1
 exact⟨d.1,d.2.1,d.2.2,(h6 (h7 (h8 h).1).1).2⟩
end Go.Proofs.YtibidnaedddfdaaGreat
