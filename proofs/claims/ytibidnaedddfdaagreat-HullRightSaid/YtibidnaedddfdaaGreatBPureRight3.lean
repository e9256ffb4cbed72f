import Derived.Test.YtibidnaedddfdaaGreatBPureRight2
namespace Go.Proofs.YtibidnaedddfdaaGreat
open Go.RowKit
set_option linter.unusedVariables false
set_option linter.unusedSimpArgs false
theorem Tp (N:Nat) (n z:Int):DO N n z=some (Tn n 0 (A3 (z-1))):=rfl
structure O7 (b:AK) (t:Jn):Prop where
 place:0≤t.Place∧t.Place<b.Places.length
 flood:E2 t.Flood
 lead:0≤t.Lead∧t.Lead≤24
 watch:E2 t.Watch
 quorum:0≤t.Quorum∧t.Quorum≤128
theorem TC {N:Nat}(hN:1000<N) (b:AK) (hb:Fi b):∃v,Ev N b=some v∧(v=true→∀t∈b.Towns,O7 b t):=by
 have q3:=hb.pl
 have q5:=hb.to
 have q8:=hb.sh
 have hj:Df (CU N b):=by
  unfold CU
  rcases Ey b.Shelters.length (CS N b (Dg N)) (Dg N) (λ_=>True) (λn k h=>by
   simp only[CS];rw[EK h];rfl) (λn k h=>by
   simp only[CS]
   rw[EJ h,cond_true,Aw h]
   simp only[Option.bind_some,I8,Au (show k<4611686018427387904 by omega)]
   cases Tn (b.Shelters[k]).Room 0 1073741824
   ·exact .inl rfl
   ·exact .inr ⟨trivial,rfl⟩) N 0 (by omega) (Nat.zero_le _) with h|⟨_,h⟩
  ·exact⟨_,h⟩
  ·exact⟨true,h⟩
 unfold Ev
 rcases Ey b.Towns.length (CT N b (CU N b)) (CU N b) (λi=>∀t,b.Towns[i]? =some t→O7 b t) (λn k h=>by
  simp only[CT];rw[EK h];rfl) (λn k h=>by
  simp only[CT]
  rw[EJ h,cond_true,Aw h]
  simp only[Option.bind_some,I8,IL,Lj N _ (show b.Places.length<4611686018427387904 by omega),Dx,H0,Au (show k<4611686018427387904 by omega)]
  generalize hB:(_|| !Tn (b.Towns[k]).Quorum 0 128)=B
  cases B
  ·simp only[Bool.or_eq_false_iff,Bool.not_eq_false'] at hB
   obtain⟨⟨⟨⟨⟨h1,h2⟩,h3⟩,h4⟩,h5⟩,h6⟩:=hB
   refine .inr ⟨λt ht=>?_,rfl⟩
   have:t=b.Towns[k]:=by simpa [h] using ht.symm
   rw[this]
   have i1:=G6 h1
   exact⟨⟨i1.1,by omega⟩,HW h2,G6 h3,HW h5,G6 h6⟩
  ·exact .inl rfl) N 0 (by omega) (Nat.zero_le _) with h|⟨hp,h⟩
 ·exact⟨false,h,λh=>by cases h⟩
 ·obtain⟨v,hv⟩:=hj
  refine⟨v,h.trans hv,λ_ t ht=>?_⟩
  obtain⟨i,hi,rfl⟩:=List.mem_iff_getElem.1 ht
  exact hp i (Nat.zero_le _) hi _ (by simp [hi])
theorem SP {N:Nat}(hN:1000<N) (b:AK) (hb:Fi b):Df (Ee N b):=by
 have q6:=hb.ga
 unfold Ee
 rcases Ey b.Gauges.length (CO N b (DW N)) (DW N) (λ_=>True) (λn k h=>by
  simp only[CO];rw[EK h];rfl) (λn k h=>by
  simp only[CO]
  rw[EJ h,cond_true,Aw h]
  simp only[Option.bind_some,I8,Tp,Dx,H0,Au (show k<4611686018427387904 by omega)]
  generalize hB:(_|| !Tn (b.Gauges[k]).Drift 0 1440)=B
  cases B
  ·simp only[Bool.or_eq_false_iff,Bool.not_eq_false'] at hB
   have i1:=G6 hB.1.1
   obtain⟨z,hz⟩:=Df.ix (l:=[(b.Places.length:Int),b.Cells,(b.Links.length:Int)]) (i:=(b.Gauges[k]).Kind) i1.1 (by simp;omega)
   rw[hz]
   simp only[cond_false,Option.bind_some]
   cases Tn (b.Gauges[k]).Target 0 (A3 (z-1))
   ·exact .inl rfl
   ·exact .inr ⟨trivial,rfl⟩
  ·exact .inl rfl) N 0 (by omega) (Nat.zero_le _) with h|⟨_,h⟩
 ·exact⟨_,h⟩
 ·exact⟨true,h⟩
theorem TV {N:Nat}(hN:1000<N) (b:AK) (hb:Fi b):Df (Ew N b):=by
 have q7:=hb.ro
 unfold Ew
 rcases Ey b.Roads.length (CV N b (Dh N)) (Dh N) (λ_=>True) (λn k h=>by
  simp only[CV];rw[EK h];rfl) (λn k h=>by
  simp only[CV]
  rw[EJ h,cond_true,Aw h]
  simp only[Option.bind_some,I8,IL,Tp,Dx,H0,MM,Au (show k<4611686018427387904 by omega)]
  generalize (_|| !OR (b.Roads[k]).Limit)=B
  cases B
  ·simp only[cond_false]
   generalize ((decide ((b.Roads[k]).By= -1)&&decide ((b.Roads[k]).Limit≠0))||_)=B2
   cases B2
   ·exact .inr ⟨trivial,rfl⟩
   ·exact .inl rfl
  ·exact .inl rfl) N 0 (by omega) (Nat.zero_le _) with h|⟨_,h⟩
 ·exact⟨_,h⟩
 ·exact⟨true,h⟩
structure Hn (b:AK):Prop where
 head:Fi b
 places:∀p∈b.Places,HR b p
 links:∀l∈b.Links,Gh b l
 towns:∀t∈b.Towns,O7 b t
theorem chainB {b:Bool}{x:Option Bool}{f:Bool→Option Bool}(Q:Prop) {G:Option Bool→Prop}(h:b=true→∃v,x=some v∧(v=true→Q)) (k:∀c,(c=true→b=true∧Q)→G (f c)):G (Option.bind (cond b (Option.bind x λy=>some y) (some false)) f):=by
 cases b
 ·exact k false λh=>by cases h
 ·obtain⟨v,hv,hq⟩:=h rfl
  rw[hv]
  exact k v λhc=>⟨rfl,hq hc⟩
theorem Df.q {x:Option Bool}(h:Df x):∃v,x=some v∧(v=true→True):=by obtain⟨v,hv⟩:=h;exact⟨v,hv,λ_=>trivial⟩
theorem Pf {N:Nat}(hN:18446744073709551616<N) (b:AK):∃v,Zx N b=some v∧(v=true→Hn b):=by
 have hN2:1000<N:=by omega
 unfold Zx
 obtain⟨v0,e0,p0⟩:=VV hN2 b
 rw[e0]
 simp only[Option.bind_some]
 refine chainB True (G:=λx=>∃v,x=some v∧(v=true→Hn b)) (λh=>(Tb hN2 (p0 h)).q) λc1 h1=>?_
 refine chainB (∀p∈b.Places,HR b p) (G:=λx=>∃v,x=some v∧(v=true→Hn b)) (λh=>SC hN2 b (p0 (h1 h).1)) λc2 h2=>?_
 have d2:c2=true→Fi b∧∀p∈b.Places,HR b p:=λh=>⟨p0 (h1 (h2 h).1).1,(h2 h).2⟩
 refine chainB (∀l∈b.Links,Gh b l) (G:=λx=>∃v,x=some v∧(v=true→Hn b)) (λh=>Tg hN b (d2 h).1) λc3 h3=>?_
 have d3:c3=true→Fi b∧(∀p∈b.Places,HR b p)∧∀l∈b.Links,Gh b l:=λh=>⟨(d2 (h3 h).1).1,(d2 (h3 h).1).2,(h3 h).2⟩
 refine chainB True (G:=λx=>∃v,x=some v∧(v=true→Hn b)) (λh=>(Qc hN2 b (d3 h).1 (d3 h).2.1 (d3 h).2.2).q) λc4 h4=>?_
 refine chainB True (G:=λx=>∃v,x=some v∧(v=true→Hn b)) (λh=>(R8 hN b (d3 (h4 h).1).1 (d3 (h4 h).1).2.1 (d3 (h4 h).1).2.2).q) λc5 h5=>?_
 refine chainB (∀t∈b.Towns,O7 b t) (G:=λx=>∃v,x=some v∧(v=true→Hn b)) (λh=>TC hN2 b (d3 (h4 (h5 h).1).1).1) λc6 h6=>?_
 refine chainB True (G:=λx=>∃v,x=some v∧(v=true→Hn b)) (λh=>(SP hN2 b (d3 (h4 (h5 (h6 h).1).1).1).1).q) λc7 h7=>?_
 refine chainB True (G:=λx=>∃v,x=some v∧(v=true→Hn b)) (λh=>(TV hN2 b (d3 (h4 (h5 (h6 (h7 h).1).1).1).1).1).q) λc8 h8=>?_
 refine⟨c8,rfl,λh=>?_⟩
 have d:=d3 (h4 (h5 (h6 (h7 (h8 h).1).1).1).1).1
 exact⟨d.1,d.2.1,d.2.2,(h6 (h7 (h8 h).1).1).2⟩
end Go.Proofs.YtibidnaedddfdaaGreat
