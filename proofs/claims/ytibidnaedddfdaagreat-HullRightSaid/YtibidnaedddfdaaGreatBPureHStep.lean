import Derived.Test.YtibidnaedddfdaaGreatBPureHArr
namespace Go.Proofs.YtibidnaedddfdaaGreat
open Go.RowKit
set_option linter.unusedVariables false
set_option linter.unusedSimpArgs false
structure Vt (P:Nat) (peak:AF) (s:Int) (e:AO):Prop where
 s0:0≤s
 to:e.to_= -1∨(0≤e.to_∧e.to_<P)
 dl:0≤e.delay∧e.delay≤240
 sk:e.slack=0∨e.slack=2
 ask:∃a c,e.asks peak.Lo=some a∧e.asks peak.Hi=some c∧0≤a.Lo∧(0≤a.Hi∧a.Hi≤9223372036854775807)∧(0≤c.Lo∧c.Lo≤4503599627370496)∧a.Lo≤c.Hi∧(c.Lo-a.Hi-2*e.slack)*1099511627776≤s*(peak.Hi-peak.Lo)
theorem Rs {P:Nat}{peak:AF}{s:Int}(s0:0≤s) {to d:Int}(hto:to= -1∨(0≤to∧to<P)) (hd:0≤d∧d≤240) {f:Int→Option AF}{a c:AF}(ea:f peak.Lo=some a) (ec:f peak.Hi=some c) (h:Mm s peak.Lo peak.Hi a c):Vt P peak s ⟨to,d,2,f⟩:=
 ⟨s0,hto,hd,.inr rfl,a,c,ea,ec,h.lo,⟨h.hi.1,by have:=h.hi.2;omega⟩,h.lo2,h.le,Int.le_trans (Int.mul_le_mul_of_nonneg_right (by show c.Lo-a.Hi-2*2≤c.Lo-a.Hi-1;omega) (by decide)) h.lip⟩
theorem Vt.mono {P:Nat}{peak:AF}{s s':Int}{e:AO}(h:Vt P peak s e) (hp:peak.Lo≤peak.Hi) (hs:s≤s'):Vt P peak s' e:=by
 obtain⟨a,c,h1,h2,h3,h4,h5,h6,h7⟩:=h.ask
 exact⟨Int.le_trans h.s0 hs,h.to,h.dl,h.sk,a,c,h1,h2,h3,h4,h5,h6,Int.le_trans h7 (Int.mul_le_mul_of_nonneg_right hs (by omega))⟩
theorem Wb {N:Nat}{P:Nat}{peak:AF}(hp:peak.Lo≤peak.Hi) {t:HB}(hl:0<t.Litres∧t.Litres≤9223372036854775807) (hto:t.To= -1∨(0≤t.To∧t.To<P)):Vt P peak 0 ⟨t.To,0,0,λx=>Cb N t x⟩:=
 ⟨Int.le_refl _,hto,⟨Int.le_refl _,show(0:Int)≤240 by decide⟩,.inl rfl,⟨0,t.Litres⟩,⟨0,t.Litres⟩,rfl,rfl,Int.le_refl _,⟨by show 0≤t.Litres;omega,hl.2⟩,⟨Int.le_refl _,show(0:Int)≤4503599627370496 by decide⟩,by show 0≤t.Litres;omega,by show(0-t.Litres-2*0)*1099511627776≤0*_;rw[Int.zero_mul];omega⟩
theorem RC {N:Nat}(hN:18446744073709551616<N) {l:AT}(h4:l.Kind=4) (fr to:Int):Hd N l fr to=some (pt fr l.Num l.Den-pt to l.BackNum l.BackDen):=by
 have h1:=H5 fr l.Num l.Den
 have h2:=H5 to l.BackNum l.BackDen
 unfold Hd
 rw[show decide (l.Kind≠4)=false by simp [h4],cond_false,PW hN,Option.bind_some,PW hN,Option.bind_some,B9 (by omega) (by omega)]
theorem P8 {s u v x y p q:Int}(s0:0≤s) (huv:u≤v) (hx:0≤x∧x≤1125899906842624) (hy:0≤y∧y≤1125899906842624) (hxy:x≤y) (hl:(y-x-1)*1099511627776≤s*(v-u)) (hp:0≤p∧p≤1125899906842624) (hpq:p≤q) (hq:q≤1125899906842624):Mm s u v ⟨max 0 (x-q),max 0 (x-p)⟩ ⟨max 0 (y-q),max 0 (y-p)⟩:=by
 refine⟨by show 0≤max 0 _;omega,⟨by show 0≤max 0 _;omega,by show max 0 _≤_;omega⟩,⟨by show 0≤max 0 _;omega,by show max 0 _≤_;omega⟩,by show max 0 _≤_;omega,by show max 0 _≤max 0 _;omega,?_⟩
 show(max 0 (y-q)-max 0 (x-p)-1)*1099511627776≤_
 exact Int.le_trans (Int.mul_le_mul_of_nonneg_right (show _≤y-x-1 by omega) (by decide)) hl
theorem X8 {N:Nat}(hN:18446744073709551616<N) {l:AT}{s t:Int}(hl:QL N l s t) (h4:l.Kind=4) {to:AF}(ht:Gf to) {u v:Int}(hu:0≤u) (huv:u≤v) (hv:v≤1125899906842624):
  ∃a c,CZ N l to u=some a∧CZ N l to v=some c∧Mm s u v a c:=by
 obtain⟨S1,S2,_⟩:=hl.seep h4
 unfold CZ GD E9
 simp only[Cn,Option.bind_some,RC hN h4]
 obtain⟨m,m2,L⟩:=S1.lip hu huv hv
 obtain⟨n,_,_⟩:=S2.lip ht.1 ht.2.1 ht.2.2
 exact⟨_,_,rfl,rfl,P8 hl.s0 huv (H5 _ _ _) (H5 _ _ _) m L (H5 _ _ _) n (H5 _ _ _).2⟩
theorem X7 {N:Nat}(hN:18446744073709551616<N) {l:AT}{s t:Int}(hl:QL N l s t) (h4:l.Kind=4) {fr:AF}(ht:Gf fr) {u v:Int}(hu:0≤u) (huv:u≤v) (hv:v≤1125899906842624):
  ∃a c,CY N l fr u=some a∧CY N l fr v=some c∧Mm t u v a c:=by
 obtain⟨S1,S2,_⟩:=hl.seep h4
 obtain⟨m,m2,L⟩:=S2.lip hu huv hv
 obtain⟨n,_,_⟩:=S1.lip ht.1 ht.2.1 ht.2.2
 have a1:=H5 u l.BackNum l.BackDen
 have a2:=H5 v l.BackNum l.BackDen
 have a3:=H5 fr.Lo l.Num l.Den
 have a4:=H5 fr.Hi l.Num l.Den
 unfold CY GD E9 JS
 simp only[Cn,Option.bind_some,RC hN h4]
 rw[HX N (by omega) (by omega) (by omega) (by omega),HX N (by omega) (by omega) (by omega) (by omega),HX N (by omega) (by omega) (by omega) (by omega),HX N (by omega) (by omega) (by omega) (by omega)]
 simp only[Option.bind_some]
 have:=P8 hl.t0 huv a1 a2 m L a3 n a4.2
 refine⟨_,_,rfl,rfl,?_⟩
 rw[show (0:Int)-(pt fr.Hi l.Num l.Den-pt u l.BackNum l.BackDen)=pt u l.BackNum l.BackDen-pt fr.Hi l.Num l.Den by omega,show(0:Int)-(pt fr.Lo l.Num l.Den-pt u l.BackNum l.BackDen)=pt u l.BackNum l.BackDen-pt fr.Lo l.Num l.Den by omega,show(0:Int)-(pt fr.Hi l.Num l.Den-pt v l.BackNum l.BackDen)=pt v l.BackNum l.BackDen-pt fr.Hi l.Num l.Den by omega,show(0:Int)-(pt fr.Lo l.Num l.Den-pt v l.BackNum l.BackDen)=pt v l.BackNum l.BackDen-pt fr.Lo l.Num l.Den by omega]
 exact this
theorem Lc {N:Nat}(hN:18446744073709551616<N) {p:Ce}{s:Int}(hS:QP p.Num p.Den s) (hd:p.Den≠0) {v:Int}(hv:0≤v∧v≤1125899906842624) (m:Int) (hm:0≤m∧m<p.Den):∃r,GE N p v m=some r∧r.1=v*p.Num/p.Den+(if v*p.Num%p.Den+m<p.Den then 0 else 1):=by
 have h0:=hS.n0
 have h1:=hS.nd
 have h2:=hS.dm
 have h3:=LB (t:=v) (n:=p.Num) (d:=p.Den) (by omega) h1 hv.1
 have h4:=LA (t:=v) (n:=p.Num) (d:=p.Den) (by omega) h0 hv.1
 have h5:=Int.emod_nonneg (v*p.Num) hd
 have h6:=Int.emod_lt_of_pos (v*p.Num) (show 0<p.Den by omega)
 unfold GE Fd
 rw[LZ hN,TS hv (by omega) (by omega) (by omega),Option.bind_some]
 simp only[Bool.not_true,cond_false]
 rw[decide_eq_true hm.1,decide_eq_true hm.2]
 simp only[Bool.and_self,cond_true]
 generalize v*p.Num/p.Den=q at*
 generalize v*p.Num%p.Den=r at*
 rw[B9 (n:=r+m) (by omega) (by omega)]
 by_cases hc:r+m<p.Den
 ·rw[decide_eq_true hc,cond_true,if_pos hc]
  exact⟨_,rfl,by show q=_;omega⟩
 ·rw[decide_eq_false hc,cond_false,if_neg hc,B9 (n:=q+1) (by omega) (by omega)]
  exact⟨_,rfl,rfl⟩
theorem TU {N:Nat}(hN:18446744073709551616<N) {p:Ce}{s:Int}(hS:QP p.Num p.Den s) (hd:p.Den≠0) {u v:Int}(hu:0≤u) (huv:u≤v) (hv:v≤1125899906842624):
  ∃a c,CD N p u=some a∧CD N p v=some c∧Mm s u v a c:=by
 have h0:=hS.n0
 have h1:=hS.nd
 have h2:=hS.dm
 obtain⟨r1,e1,q1⟩:=Lc hN hS hd (v:=u) ⟨hu,by omega⟩ 0 (by omega)
 obtain⟨r2,e2,q2⟩:=Lc hN hS hd (v:=u) ⟨hu,by omega⟩ (p.Den-1) (by omega)
 obtain⟨r3,e3,q3⟩:=Lc hN hS hd (v:=v) ⟨by omega,hv⟩ 0 (by omega)
 obtain⟨r4,e4,q4⟩:=Lc hN hS hd (v:=v) ⟨by omega,hv⟩ (p.Den-1) (by omega)
 unfold CD
 rw[B9 (by omega) (by omega),e1,e2,e3,e4]
 simp only[Option.bind_some]
 refine⟨_,_,rfl,rfl,?_⟩
 obtain⟨m,m2,L⟩:=hS.lip hu huv hv
 rw[Md ⟨hu,by omega⟩ h0 h1 h2,Md ⟨by omega,hv⟩ h0 h1 h2] at m L
 rw[Md ⟨by omega,hv⟩ h0 h1 h2] at m2
 have n1:=LA (t:=u) (n:=p.Num) (d:=p.Den) (by omega) h0 hu
 have g1:=Int.emod_lt_of_pos (u*p.Num) (show 0<p.Den by omega)
 have g2:=Int.emod_lt_of_pos (v*p.Num) (show 0<p.Den by omega)
 rw[if_pos (by omega)] at q1 q3
 have b2:r1.1≤r2.1∧r2.1≤r1.1+1:=by rw[q1,q2];split<;>omega
 have b4:r3.1≤r4.1∧r4.1≤r3.1+1:=by rw[q3,q4];split<;>omega
 generalize u*p.Num/p.Den=x at*
 generalize v*p.Num/p.Den=y at*
 refine⟨by show 0≤r1.1;omega,⟨by show 0≤r2.1;omega,by show r2.1≤_;omega⟩,⟨by show 0≤r3.1;omega,by show r3.1≤_;omega⟩,by show r4.1≤_;omega,by show r1.1≤r4.1;omega,?_⟩
 show(r3.1-r2.1-1)*1099511627776≤_
 exact Int.le_trans (Int.mul_le_mul_of_nonneg_right (show _≤y-x-1 by omega) (by decide)) L
structure U5 (P:Nat) (peak:AF) (ps:List (AO×Int)):Prop where
 ok:∀x∈ps,Vt P peak x.2 x.1
theorem U5.snoc {P:Nat}{peak:AF}{ps:List (AO×Int)}(h:U5 P peak ps) {e:AO}{s:Int}(he:Vt P peak s e):U5 P peak (ps++[(e,s)]):=⟨λx hx=>by
 rcases List.mem_append.1 hx with hx|hx
 ·exact h.ok x hx
 ·rw[List.mem_singleton.1 hx];exact he⟩
theorem UN {N:Nat}(hN:18446744073709551616<N) {w:Ah}{b:AK}(hwb:w.b=b) (hb:OP N b) (hkn:IZ b w.h.Links) (hp:IY Gf b.Places.length w.peaks) {p:Nat}(hpl:p<b.Places.length) {peak:AF}(hpk:w.peaks[p]? =some peak) {takes:List HB}(htl:takes.length≤100000) (ht:∀t∈takes,AB t.Litres):
  ∃ps,FO N w (p:Int) takes=some (ps.map (·.1))∧U5 b.Places.length peak ps∧(ps.map (·.2)).sum≤1099511627776∧ps.length≤takes.length+100:=by
 subst hwb
 have hli:=hb.head.li
 have hpl64:=hb.head.pl
 obtain⟨k1,k2,k3⟩:=hp.2 peak (List.mem_of_getElem? hpk)
 have sm:=hb.sums p _ (List.getElem?_eq_getElem hpl)
 unfold FO
 obtain⟨l1,⟨ps1,rfl,x1,z1,n1⟩,e1⟩:=GJ takes.length (λn i l=>A5 N w (p:Int) takes (BK N w (p:Int)) n l i) (BK N w (p:Int)) (λk l=>∃ps:List (AO×Int),l=ps.map (·.1)∧U5 w.b.Places.length peak ps∧(ps.map (·.2)).sum=0∧ps.length≤k) (λn k l hk=>by
  simp only[A5];rw[EK hk];rfl) (λn k l hi hk=>by
  obtain⟨ps,rfl,h1,h2,h3⟩:=hi
  have hL:=ht _ (List.getElem_mem hk)
  simp only[A5]
  rw[EJ hk,cond_true,Aw hk]
  simp only[Option.bind_some,Dr,Au (show k<4611686018427387904 by omega),MK,Dx]
  generalize takes[k]=t at hL
  have same:∃s',(∃ps:List (AO×Int),s'=ps.map (·.1)∧U5 w.b.Places.length peak ps∧(ps.map (·.2)).sum=0∧ps.length≤k+1)∧A5 N w (p:Int) takes (BK N w (p:Int)) n (ps.map (·.1)) ((k+1:Nat):Int)=A5 N w (p:Int) takes (BK N w (p:Int)) n s' ((k+1:Nat):Int):=⟨_,⟨ps,rfl,h1,h2,by omega⟩,rfl⟩
  cases hB:(cond (decide (t.Place≠(p:Int))) true (!(decide (0≤t.Owner)&&decide (t.Owner<(w.b.Owners.length:Int))))||decide (t.Litres≤0))
  ·rw[cond_false]
   have hpos:¬t.Litres≤0:=by
    rw[Bool.or_eq_false_iff] at hB
    exact of_decide_eq_false hB.2
   have add1:(t.To= -1∨(0≤t.To∧t.To<w.b.Places.length))→∃s',(∃ps:List (AO×Int),s'=ps.map (·.1)∧U5 w.b.Places.length peak ps∧(ps.map (·.2)).sum=0∧ps.length≤k+1)∧chk (room ((ps.map (·.1)).length+1) 32) (A5 N w (p:Int) takes (BK N w (p:Int)) n (ps.map (·.1)++([(⟨t.To,0,0,(λx=>Cb N t x)⟩:AO)]:List AO)) ((k+1:Nat):Int))=A5 N w (p:Int) takes (BK N w (p:Int)) n s' ((k+1:Nat):Int):=λhto=>by
    rw[MC (by rw[List.length_map];omega)]
    refine⟨_,⟨ps++[(⟨t.To,0,0,λx=>Cb N t x⟩,0)],by simp,h1.snoc (Wb k2 ⟨by omega,hL.2⟩ hto),by simp [h2],by simp;omega⟩,rfl⟩
   by_cases hto:t.To= -1
   ·rw[show decide (t.To≠ -1)=false by simp [hto],cond_false]
    simp only[Option.bind_some,cond_false]
    exact add1 (.inl hto)
   ·rw[show decide (t.To≠ -1)=true by simp [hto],cond_true]
    by_cases hin:0≤t.To∧t.To<w.b.Places.length
    ·obtain⟨y,ey,_⟩:=U2 (l:=w.b.Places) hin.1 hin.2
     rw[decide_eq_true hin.1,decide_eq_true hin.2]
     simp only[Bool.and_self,Bool.not_true,cond_false,ey,Aw hpl,Option.bind_some]
     cases decide (y.Office≠(w.b.Places[p]).Office)
     ·exact add1 (.inr hin)
     ·exact same
    ·rw[show (decide (0≤t.To)&&decide (t.To<(w.b.Places.length:Int)))=false by
      rw[Bool.and_eq_false_iff]
      simp only[decide_eq_false_iff_not]
      omega]
     exact same
  ·exact same) N 0 [] ⟨[],rfl,⟨λx hx=>by cases hx⟩,rfl,Nat.le_refl _⟩ (by omega) (Nat.zero_le _)
 rw[show A5 N w (p:Int) takes (BK N w (p:Int)) N [] 0=BK N w (p:Int) (ps1.map (·.1)) from e1]
 unfold BK
 obtain⟨l2,⟨ps2,rfl,x2,z2,n2⟩,e2⟩:=GJ w.b.Links.length (λn i l=>Ax N w (p:Int) (BS N w (p:Int)) n l i) (BS N w (p:Int)) (λk l=>∃ps:List (AO×Int),l=ps.map (·.1)∧U5 w.b.Places.length peak ps∧(ps.map (·.2)).sum≤((w.b.Links.take k).map λl=>KY N l p).sum∧ps.length≤takes.length+k) (λn k l hk=>by
  simp only[Ax];rw[EK hk];rfl) (λn k l hi hk=>by
  obtain⟨ps,rfl,h1,h2,h3⟩:=hi
  have hmem:=List.getElem_mem hk
  have ok:=hb.links _ hmem
  have lk:=hb.lk _ hmem
  have c0:=hb.ctr0 _ hmem p
  have hk2:k<w.h.Links.length:=by rw[hkn.1];exact hk
  have hK:=hkn.2 k _ _ (List.getElem?_eq_getElem hk) (List.getElem?_eq_getElem hk2)
  have sp:=NE hN ok
  simp only[Ax]
  rw[EJ hk,cond_true,Aw hk]
  simp only[Option.bind_some,Bv,Au (show k<4611686018427387904 by omega)]
  have mt:=SF (f:=λl=>KY N l p) hk
  generalize hl:w.b.Links[k]=l at ok lk c0 hK sp mt
  generalize hke:w.h.Links[k]=kn at hK
  have add1:∀(e:AO) (z:Int),Vt w.b.Places.length peak z e→z≤KY N l p→∃s',(∃ps:List (AO×Int),s'=ps.map (·.1)∧U5 w.b.Places.length peak ps∧(ps.map (·.2)).sum≤((w.b.Links.take (k+1)).map λl=>KY N l p).sum∧ps.length≤takes.length+(k+1))∧chk (room ((ps.map (·.1)).length+1) 32) (Ax N w (p:Int) (BS N w (p:Int)) n (ps.map (·.1)++([e]:List AO)) ((k+1:Nat):Int))=Ax N w (p:Int) (BS N w (p:Int)) n s' ((k+1:Nat):Int):=λe z he hz=>by
   rw[MC (by rw[List.length_map];omega)]
   refine⟨_,⟨ps++[(e,z)],by simp,h1.snoc he,?_,by simp;omega⟩,rfl⟩
   rw[List.map_append,List.sum_append,mt]
   simp only[List.map_cons,List.map_nil,List.sum_cons,List.sum_nil]
   omega
  by_cases hF:l.From=(p:Int)
  ·have hctr:Ih N l≤KY N l p:=by
    unfold KY
    rw[if_pos hF]
    split<;>omega
   rw[decide_eq_true hF]
   by_cases h4:l.Kind=4
   ·rw[show decide (l.Kind≠4)=false by simp [h4]]
    simp only[Bool.and_false,cond_false,cond_true]
    obtain⟨_,_,hto⟩:=lk.seep h4
    have hto2:=ok.to.resolve_left hto
    obtain⟨y,ey,ey2⟩:=U2 (l:=w.peaks) (i:=l.To) hto2.1 (by rw[hp.1];exact hto2.2)
    obtain⟨a,c,ea,ec,hA⟩:=X8 hN lk h4 (hp.2 y (List.mem_of_getElem? ey2)) k1 k2 k3
    simp only[ey,Option.bind_some]
    exact add1 _ _ (Rs sp.1.1 ok.to ok.delay ea ec hA) hctr
   ·rw[show decide (l.Kind≠4)=true by simp [h4]]
    simp only[Bool.and_self,cond_true,Aw hk2,Option.bind_some,hke,EO,Bv,Au (show k<4611686018427387904 by omega)]
    have kd:=ok.kind
    have e2:∀(to:AF) v,Ca N l kn to v=DM N l kn ⟨v,v⟩ to:=λto v=>by
     unfold Ca
     simp only[Cn,Option.bind_some]
     cases DM N l kn ⟨v,v⟩ to<;>rfl
    have mk:∀to:AF,Gf to→Vt w.b.Places.length peak (Ih N l) ⟨l.To,l.Delay,2,λx=>Ca N l kn to x⟩:=λto hto=>by
     obtain⟨a,c,ea,ec,hA⟩:=SV hN lk (by omega) hK hto k1 k2 k3
     exact Rs sp.1.1 ok.to ok.delay ((e2 to _).trans ea) ((e2 to _).trans ec) hA
    by_cases hto:l.To= -1
    ·rw[show decide (l.To≠ -1)=false by simp [hto],cond_false]
     exact add1 _ _ (mk ⟨0,0⟩ ⟨by decide,by decide,by decide⟩) hctr
    ·rw[show decide (l.To≠ -1)=true by simp [hto],cond_true]
     have hto2:=ok.to.resolve_left hto
     obtain⟨y,ey,ey2⟩:=U2 (l:=w.peaks) (i:=l.To) hto2.1 (by rw[hp.1];exact hto2.2)
     simp only[ey,Option.bind_some]
     exact add1 _ _ (mk ⟨y.Lo,y.Hi⟩ (hp.2 y (List.mem_of_getElem? ey2))) hctr
  ·rw[decide_eq_false hF]
   simp only[Bool.false_and,cond_false]
   by_cases hT:l.To=(p:Int)∧l.Kind=4
   ·obtain⟨hT,h4⟩:=hT
    have hctr:KF N l≤KY N l p:=by
     unfold KY
     rw[if_neg hF,if_pos hT]
     omega
    rw[decide_eq_true hT,decide_eq_true h4]
    simp only[Bool.and_self,cond_true]
    obtain⟨y,ey,ey2⟩:=U2 (l:=w.peaks) (i:=l.From) ok.fr.1 (by rw[hp.1];exact ok.fr.2)
    obtain⟨a,c,ea,ec,hA⟩:=X7 hN lk h4 (hp.2 y (List.mem_of_getElem? ey2)) k1 k2 k3
    simp only[ey,Option.bind_some]
    exact add1 _ _ (Rs sp.2.1 (.inr ok.fr) ok.delay ea ec hA) hctr
   ·rw[show (decide (l.To=(p:Int))&&decide (l.Kind=4))=false by
     rw[Bool.and_eq_false_iff]
     simp only[decide_eq_false_iff_not]
     omega,cond_false]
    exact⟨_,⟨ps,rfl,h1,by rw[mt];omega,by omega⟩,rfl⟩) N 0 (ps1.map (·.1)) ⟨ps1,rfl,x1,by rw[z1];simp,by omega⟩ (by omega) (Nat.zero_le _)
 rw[show Ax N w (p:Int) (BS N w (p:Int)) N (ps1.map (·.1)) 0=BS N w (p:Int) (ps2.map (·.1)) from e2]
 rw[List.take_length] at z2
 unfold BS EN
 rw[Aw hpl,Option.bind_some]
 have okp:=hb.places _ (List.getElem_mem hpl)
 have rt:=hb.rt _ (List.getElem_mem hpl)
 have rt0:=hb.rt0 _ (List.getElem_mem hpl)
 generalize w.b.Places[p]=pl at okp rt rt0 sm
 by_cases hd:pl.Den=0
 ·rw[show decide (pl.Den≠0)=false by simp [hd],cond_false]
  exact⟨ps2,rfl,x2,by omega,by omega⟩
 ·rw[show decide (pl.Den≠0)=true by simp [hd],cond_true,MC (by rw[List.length_map];omega)]
  obtain⟨a,c,ea,ec,hA⟩:=TU hN (rt hd) hd k1 k2 k3
  refine⟨ps2++[(⟨pl.Down,pl.Delay,2,λx=>CD N pl x⟩,sl N pl.Num pl.Den)],by simp,x2.snoc (Rs rt0 okp.down okp.delay ea ec hA),?_,by simp;omega⟩
  rw[List.map_append,List.sum_append]
  simp only[List.map_cons,List.map_nil,List.sum_cons,List.sum_nil]
  omega
theorem RG {N:Nat}{peak:AF}(hp:Gf peak) {m z S:Int}(hm:0≤m∧m≤9223372036854775807) (hz: -4611686018427387000≤z∧z≤4611686018427387000) (hS:S≤1099511627776) (hJ:(z-m)*1099511627776≤S*(peak.Hi-peak.Lo)):
  ∃y,D7 N peak m z=some y∧Gf y∧y.Hi≤peak.Hi:=by
 obtain⟨h1,h2,h3⟩:=hp
 have hle:z-m≤peak.Hi-peak.Lo:=by
  have:=Int.mul_le_mul_of_nonneg_right hS (show 0≤peak.Hi-peak.Lo by omega)
  omega
 unfold D7
 rw[ZR N (by unfold AB;omega) (by unfold AB;omega),Option.bind_some,HX N (by omega) (by omega) (by omega) (by omega),Option.bind_some,Wi (by unfold AB;omega)]
 refine⟨_,rfl,⟨by show 0≤max 0 _;omega,by show max 0 _≤max 0 _;omega,by show max 0 _≤_;omega⟩,by show max 0 _≤_;omega⟩
theorem Ti {N:Nat}(hN:18446744073709551616<N) {w:Ah}{b:AK}(hwb:w.b=b) (hb:OP N b) {t:Int}(ht:w.h.Hour=t) (h0:0≤t∧t≤16777216) (hv:w.h.Vol.length=b.Places.length) {p:Nat}(hpl:p<b.Places.length) {peak:AF}(hpk:w.peaks[p]? =some peak) (hpo:Gf peak)
  (hq:MU b.Places.length (t+1) w.h.Queue) (hql:w.h.Queue.length+300<90000) {ps:List (AO×Int)} (hps:U5 b.Places.length peak ps) (hsum:(ps.map (·.2)).sum≤1099511627776) (hpn:ps.length≤200):
  ∃sp v q,FM N w (p:Int) (ps.map (·.1))=some (sp,w.h.Vol.set p v,q)∧Gf sp∧Gf v∧v.Hi≤(b.Places[p]).Cap∧v.Hi≤peak.Hi∧MU b.Places.length (t+1) q∧q.length≤w.h.Queue.length+ps.length+1:=by
 subst hwb
 subst ht
 obtain⟨k1,k2,k3⟩:=hpo
 have okp:=hb.places _ (List.getElem_mem hpl)
 have hpk2:p<w.peaks.length:=(List.getElem?_eq_some_iff.1 hpk).1
 have hpk3:w.peaks[p]=peak:=(List.getElem?_eq_some_iff.1 hpk).2
 have hs0:∀x∈ps.map (·.2),0≤x:=λx hx=>by
  obtain⟨z,hz,rfl⟩:=List.mem_map.1 hx
  exact(hps.ok z hz).s0
 have hD:0≤peak.Hi-peak.Lo:=by omega
 unfold FM
 rw[Aw hpl,Aw hpk2,hpk3]
 simp only[Option.bind_some]
 generalize hplc:w.b.Places[p]=pl at okp
 obtain⟨⟨z,m,q⟩,⟨i1,i2,i3,i4,i5⟩,e1⟩:=GJ (ps.map (·.1)).length (λn i (s:Int×Int×List A4)=>CL N w (ps.map (·.1)) peak (CM N w (p:Int) pl peak) n i s.1 s.2.1 s.2.2) (λs=>CM N w (p:Int) pl peak s.1 s.2.1 s.2.2)
  (λk s=>(0≤s.2.1∧s.2.1≤9223372036854775807)∧(-(k:Int)*4503599627370498≤s.1∧s.1≤(k:Int)*4503599627370498)∧(s.1-s.2.1)*1099511627776≤((ps.map (·.2)).take k).sum*(peak.Hi-peak.Lo)∧MU w.b.Places.length (w.h.Hour+1) s.2.2∧s.2.2.length≤w.h.Queue.length+k) (λn k s hk=>by
  simp only[CL];rw[EK hk];rfl) (λn k s hi hk=>by
  obtain⟨z,m,q⟩:=s
  obtain⟨i1,i2,i3,i4,i5⟩:=hi
  have i1:0≤m∧m≤9223372036854775807:=i1
  have i2: -(k:Int)*4503599627370498≤z∧z≤(k:Int)*4503599627370498:=i2
  have i3:(z-m)*1099511627776≤((ps.map (·.2)).take k).sum*(peak.Hi-peak.Lo):=i3
  have i4:MU w.b.Places.length (w.h.Hour+1) q:=i4
  have i5:q.length≤w.h.Queue.length+k:=i5
  have hkp:k<ps.length:=by rw[List.length_map] at hk;exact hk
  have hE:=hps.ok _ (List.getElem_mem hkp)
  have st:=TE (l:=ps.map (·.2)) (k:=k) (by rw[List.length_map];exact hkp)
  have sl:=MY hs0 k
  have sl2:=MY hs0 (k+1)
  simp only[CL]
  rw[EJ hk,cond_true,Aw hk]
  simp only[List.getElem_map] at st ⊢
  generalize ps[k]=x at hE st
  obtain⟨e,sx⟩:=x
  obtain⟨a,c,ea,ec,a1,a2,c1,ac,L⟩:=hE.ask
  have L:(c.Lo-a.Hi-2*e.slack)*1099511627776≤sx*(peak.Hi-peak.Lo):=L
  have sk:=hE.sk
  have ea:e.asks peak.Lo=some a:=ea
  have ec:e.asks peak.Hi=some c:=ec
  have sk:e.slack=0∨e.slack=2:=sk
  obtain⟨y,ey,y1,y2⟩:=RG (N:=N) ⟨k1,k2,k3⟩ (m:=m) (z:=z) i1 (by omega) (Int.le_trans sl.2 hsum) i3
  obtain⟨y11,y12,y13⟩:=y1
  obtain⟨q',eq',q1,q2⟩:=QK (N:=N) (w:={ w with h:={ w.h with Queue:=q}}) (q:=q) (by omega) rfl rfl h0 i4 (by omega) hE.to hE.dl (s:=⟨min a.Lo y.Lo,min c.Hi y.Hi⟩) ⟨by show 0≤min _ _;omega,by show min _ _≤min _ _;omega,by show min _ _≤_;omega⟩
  simp only[Option.bind_some,ea,ec,ey]
  rw[eq',Option.bind_some,Vk N (a:=a.Hi) (b:=e.slack) (by unfold AB;omega) (by unfold AB;omega),Option.bind_some,Vk N (a:=m) (by unfold AB;omega) (Wh _),Option.bind_some,HX N (by omega) (by omega) (by omega) (by omega),Option.bind_some,MT N (by omega) (by omega) (by omega) (by omega),Option.bind_some,Au (by omega)]
  refine⟨(z+(c.Lo-e.slack),Zq (m+Zq (a.Hi+e.slack)),q'),⟨?_,?_,?_,q1,?_⟩,rfl⟩
  ·show 0≤Zq _∧Zq _≤_
   unfold Zq
   omega
  ·show -((k+1:Nat):Int)*4503599627370498≤z+(c.Lo-e.slack)∧z+(c.Lo-e.slack)≤((k+1:Nat):Int)*4503599627370498
   omega
  ·show(z+(c.Lo-e.slack)-Zq (m+Zq (a.Hi+e.slack)))*1099511627776≤_
   rw[st]
   have sxn:0≤sx:=hE.s0
   have hnn:=Int.mul_nonneg sl2.1 hD
   rw[st] at hnn
   by_cases hsat:m+(a.Hi+e.slack)≤9223372036854775807
   ·have e3:Zq (m+Zq (a.Hi+e.slack))=m+(a.Hi+e.slack):=by unfold Zq;omega
    rw[e3,Int.add_mul]
    show _≤_+sx*(peak.Hi-peak.Lo)
    generalize sx*(peak.Hi-peak.Lo)=A at*
    generalize ((ps.map (·.2)).take k).sum*(peak.Hi-peak.Lo)=B at*
    omega
   ·have e3:Zq (m+Zq (a.Hi+e.slack))=9223372036854775807:=by unfold Zq;omega
    rw[e3]
    refine Int.le_trans ?_ hnn
    omega
  ·show q'.length≤_
   have:q'.length≤q.length+1:=q2
   omega) N 0 (0,0,w.h.Queue) ⟨⟨Int.le_refl 0,show(0:Int)≤9223372036854775807 by decide⟩,⟨show -((0:Nat):Int)*4503599627370498≤0 by decide,show(0:Int)≤((0:Nat):Int)*4503599627370498 by decide⟩,by simp,hq,Nat.le_refl _⟩ (by rw[List.length_map];omega) (Nat.zero_le _)
 rw[show CL N w (ps.map (·.1)) peak (CM N w (p:Int) pl peak) N 0 0 0 w.h.Queue=CM N w (p:Int) pl peak z m q from e1]
 rw[List.length_map] at i2 i3 i5
 rw[List.take_of_length_le (by rw[List.length_map];exact Nat.le_refl _)] at i3
 have i1:0≤m∧m≤9223372036854775807:=i1
 have i2: -(ps.length:Int)*4503599627370498≤z∧z≤(ps.length:Int)*4503599627370498:=i2
 have i3:(z-m)*1099511627776≤(ps.map (·.2)).sum*(peak.Hi-peak.Lo):=i3
 have i4:MU w.b.Places.length (w.h.Hour+1) q:=i4
 have i5:q.length≤w.h.Queue.length+ps.length:=i5
 obtain⟨y,ey,⟨y11,y12,y13⟩,y2⟩:=RG (N:=N) ⟨k1,k2,k3⟩ (m:=m) (z:=z) i1 (by omega) hsum i3
 have hcap:0≤pl.Cap∧pl.Cap≤1125899906842624:=okp.cap
 unfold CM
 rw[ey,Option.bind_some,HX N (by omega) (by omega) (by omega) (by omega),Option.bind_some,HX N (by omega) (by omega) (by omega) (by omega),Option.bind_some]
 have hsp:Gf ⟨max 0 (y.Lo-pl.Cap),max 0 (y.Hi-pl.Cap)⟩:=⟨by show 0≤max 0 _;omega,by show max 0 _≤max 0 _;omega,by show max 0 _≤_;omega⟩
 obtain⟨q',eq',q1,q2⟩:=QK (N:=N) (w:={ w with h:={ w.h with Queue:=q}}) (q:=q) (by omega) rfl rfl h0 i4 (by omega) okp.down okp.delay hsp
 have q2:q'.length≤q.length+1:=q2
 rw[eq',Option.bind_some,Aw (show p<w.h.Vol.length by omega)]
 simp only[Option.bind_some,QR]
 exact⟨_,⟨min y.Lo pl.Cap,min y.Hi pl.Cap⟩,q',rfl,hsp,⟨by show 0≤min _ _;omega,by show min _ _≤min _ _;omega,by show min _ _≤_;omega⟩,by show min _ _≤_;omega,by show min _ _≤_;omega,q1,by omega⟩
structure WJ (b:AK) (t:Int) (r:Al×List AF×List AF):Prop where
 hour:r.1.Hour=t+1
 vol:r.1.Vol.length=b.Places.length
 lks:IZ b r.1.Links
 que:MU b.Places.length (t+1) r.1.Queue
 pk:IY Gf b.Places.length r.2.1
 sp:IY Gf b.Places.length r.2.2
 vols:∀(p:Nat) v,r.1.Vol[p]? =some v→Gf v∧(∀pl,b.Places[p]? =some pl→v.Hi≤pl.Cap)∧∀k,r.2.1[p]? =some k→v.Hi≤k.Hi
theorem VA {N:Nat}(hN:18446744073709551616<N) {b:AK}(hb:OP N b) {h:Al}(hv:h.Vol.length=b.Places.length) (hvs:∀v∈h.Vol,Gf v) (h0:0≤h.Hour∧h.Hour≤16777216) (hq:MU b.Places.length h.Hour h.Queue) (hk:IZ b h.Links) {in_:C7}(hf:in_.Faults.length≤1000) (hc:in_.Cmds.length≤1000) (htl:in_.Takes.length≤90) (ht:∀t∈in_.Takes,AB t.Litres) {sure:List Bool}{rain:List AF}(hr:∀s∈rain,AB s.Lo∧AB s.Hi)
  (hql:h.Queue.length≤60000):∃r,G9 N b h in_ sure rain=some r∧WJ b h.Hour r∧r.1.Queue.length≤h.Queue.length+b.Places.length*(in_.Takes.length+101):=by
 have hpl:=hb.head.pl
 have hli:=hb.head.li
 have hlk:=hk.1
 have mk16:Jt (b.Places.length:Int) (b.Places.length:Int) 16=true:=by simp [Jt];omega
 unfold G9 Bi Bf
 rw[MC (by simp only[List.length_nil];omega),Option.bind_some,MC (by simp only[List.length_nil];omega),Option.bind_some,mk16]
 simp only[List.nil_append,chk,cond_true]
 generalize hz:List.replicate ((b.Places.length:Int):Int).toNat ((⟨0,0⟩:AF):AF)=zs
 have hz1:zs.length=b.Places.length:=by rw[←hz];simp
 have hz2:∀x∈zs,x=⟨0,0⟩:=λx hx=>by rw[←hz] at hx;exact List.eq_of_mem_replicate hx
 obtain⟨l1,e1,k1⟩:=Tf hN (w:=⟨b,⟨h.Hour,h.Vol,h.Queue,h.Links⟩,zs⟩) rfl hb (in_:=in_) (by omega) (by omega) sure hk
 rw[e1,Option.bind_some]
 obtain⟨q2,l2,p2,e2,k2,k3,k4,k5⟩:=QE hN (w:=⟨b,⟨h.Hour,h.Vol,h.Queue,l1⟩,zs⟩) rfl hb hv hvs (t:=h.Hour) rfl hq (by show h.Queue.length≤_;omega) k1 hz1 hz2 hr
 rw[e2,Option.bind_some]
 have k3:q2.length≤h.Queue.length:=k3
 obtain⟨⟨sp,vs,q⟩,⟨i1,i2,i3,i4,i5⟩,e3⟩:=GJ b.Places.length (λn i (s:List AF×List AF×List A4)=>D2 N b h in_ (q2,l2,p2) (D3 N h (q2,l2,p2)) n i s.1 s.2.1 s.2.2) (λs=>D3 N h (q2,l2,p2) s.1 s.2.1 s.2.2)
  (λk s=>IY Gf b.Places.length s.1∧s.2.1.length=b.Places.length∧(∀(p:Nat) v,p<k→s.2.1[p]? =some v→Gf v∧(∀pl,b.Places[p]? =some pl→v.Hi≤pl.Cap)∧∀x,p2[p]? =some x→v.Hi≤x.Hi)∧MU b.Places.length (h.Hour+1) s.2.2∧s.2.2.length≤q2.length+k*(in_.Takes.length+101)) (λn k s hk=>by
  simp only[D2];rw[EK hk];rfl) (λn k s hi hk=>by
  obtain⟨sp,vs,q⟩:=s
  obtain⟨i1,i2,i3,i4,i5⟩:=hi
  have i1:IY Gf b.Places.length sp:=i1
  have i2:vs.length=b.Places.length:=i2
  have i3:∀(p:Nat) v,p<k→vs[p]? =some v→Gf v∧(∀pl,b.Places[p]? =some pl→v.Hi≤pl.Cap)∧∀x,p2[p]? =some x→v.Hi≤x.Hi:=i3
  have i4:MU b.Places.length (h.Hour+1) q:=i4
  have i5:q.length≤q2.length+k*(in_.Takes.length+101):=i5
  have hkp:k<p2.length:=by rw[k5.1];exact hk
  have hpk:=List.getElem?_eq_getElem hkp
  have hpo:=k5.2 _ (List.getElem_mem hkp)
  generalize p2[k]=peak at hpk hpo
  have hkt:k*(in_.Takes.length+101)+(in_.Takes.length+101)=(k+1)*(in_.Takes.length+101):=by rw[Nat.add_mul];omega
  have hmul:(k+1)*(in_.Takes.length+101)≤64*191:=Nat.mul_le_mul (by omega) (by omega)
  obtain⟨ps,ep,p3,p4,p5⟩:=UN hN (w:=⟨b,⟨h.Hour,vs,q,l2⟩,p2⟩) rfl hb k4 k5 hk hpk (takes:=in_.Takes) (by omega) ht
  obtain⟨s1,v1,q1,el,a1,a2,a3,a4,a5,a6⟩:=Ti hN (w:=⟨b,⟨h.Hour,vs,q,l2⟩,p2⟩) rfl hb (t:=h.Hour) rfl h0 i2 hk hpk hpo i4 (by show q.length+300<90000;omega) p3 p4 (by omega)
  have a6:q1.length≤q.length+ps.length+1:=a6
  simp only[D2]
  rw[EJ hk,cond_true,ep,Option.bind_some,el,Option.bind_some,Aw (show k<sp.length by rw[i1.1];exact hk)]
  simp only[Option.bind_some,Au (show k<4611686018427387904 by omega),QR]
  refine⟨(sp.set k s1,vs.set k v1,q1),⟨i1.set k a1,by show(vs.set k v1).length=_;rw[List.length_set];exact i2,λp v hp hpv=>?_,a5,by show q1.length≤_;omega⟩,rfl⟩
  have hpv:(vs.set k v1)[p]? =some v:=hpv
  by_cases e:k=p
  ·subst e
   rw[List.getElem?_set_self (by omega)] at hpv
   cases hpv
   refine⟨a2,λpl hpl=>?_,λx hx=>?_⟩
   ·rw[List.getElem?_eq_getElem hk] at hpl
    cases hpl
    exact a3
   ·rw[hpk] at hx
    cases hx
    exact a4
  ·rw[List.getElem?_set_ne e] at hpv
   exact i3 p v (by omega) hpv) N 0 (zs,h.Vol,q2) ⟨⟨hz1,λx hx=>by rw[hz2 x hx];exact⟨by decide,by decide,by decide⟩⟩,hv,λp v hp=>by omega,k2,by simp⟩ (by omega) (Nat.zero_le _)
 rw[show D2 N b h in_ (q2,l2,p2) (D3 N h (q2,l2,p2)) N 0 zs h.Vol q2=D3 N h (q2,l2,p2) sp vs q from e3]
 have i2:vs.length=b.Places.length:=i2
 have i5:q.length≤q2.length+b.Places.length*(in_.Takes.length+101):=i5
 unfold D3
 rw[B9 (by omega) (by omega)]
 exact⟨_,rfl,⟨rfl,i2,k4,i4,k5,i1,λp v hpv=>i3 p v (by have:=(List.getElem?_eq_some_iff.1 hpv).1;have this:p<vs.length:=this;show p<_;omega) hpv⟩,by show q.length≤_;omega⟩
end Go.Proofs.YtibidnaedddfdaaGreat
