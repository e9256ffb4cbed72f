import Derived.Test.YtibidnaedddfdaaGreatCPureCurve
namespace Go.Proofs.YtibidnaedddfdaaGreat
open Go.RowKit
set_option linter.unusedVariables false
set_option linter.unusedSimpArgs false
def IM (n:Int):Int:=max (-9223372036854775808) (min 9223372036854775807 n)
theorem V6 (N:Nat) {a b:Int}(ha:AB a) (hb:AB b):Dg N a b=some (IM (a+b)):=by
 obtain⟨a1,a2⟩:=ha
 obtain⟨b1,b2⟩:=hb
 unfold Dg IM
 by_cases h:0<b
 ·have e1:Aw (9223372036854775807-b)=9223372036854775807-b:=B1 (by omega) (by omega)
  rw[e1,decide_eq_true h,Bool.true_and]
  by_cases c:9223372036854775807-b<a
  ·rw[decide_eq_true c,cond_true];congr 1;omega
  ·rw[decide_eq_false c,cond_false,decide_eq_false (show ¬b<0 by omega),Bool.false_and,cond_false,B1 (by omega) (by omega)];congr 1;omega
 ·rw[decide_eq_false h,Bool.false_and,cond_false]
  by_cases h2:b<0
  ·have e1:Aw (-9223372036854775808-b)= -9223372036854775808-b:=B1 (by omega) (by omega)
   rw[e1,decide_eq_true h2,Bool.true_and]
   by_cases c:a< -9223372036854775808-b
   ·rw[decide_eq_true c,cond_true];congr 1;omega
   ·rw[decide_eq_false c,cond_false,B1 (by omega) (by omega)];congr 1;omega
  ·rw[decide_eq_false h2,Bool.false_and,cond_false,B1 (by omega) (by omega)];congr 1;omega
theorem Z6 (N:Nat) {a b:Int}(ha:AB a) (hb:AB b):CR N a b=some (IM (a-b)):=by
 obtain⟨a1,a2⟩:=ha
 obtain⟨b1,b2⟩:=hb
 unfold CR IM
 by_cases h:b<0
 ·have e1:Aw (9223372036854775807+b)=9223372036854775807+b:=B1 (by omega) (by omega)
  rw[e1,decide_eq_true h,Bool.true_and]
  by_cases c:9223372036854775807+b<a
  ·rw[decide_eq_true c,cond_true];congr 1;omega
  ·rw[decide_eq_false c,cond_false,decide_eq_false (show ¬0<b by omega),Bool.false_and,cond_false,B1 (by omega) (by omega)];congr 1;omega
 ·rw[decide_eq_false h,Bool.false_and,cond_false]
  by_cases h2:0<b
  ·have e1:Aw (-9223372036854775808+b)= -9223372036854775808+b:=B1 (by omega) (by omega)
   rw[e1,decide_eq_true h2,Bool.true_and]
   by_cases c:a< -9223372036854775808+b
   ·rw[decide_eq_true c,cond_true];congr 1;omega
   ·rw[decide_eq_false c,cond_false,B1 (by omega) (by omega)];congr 1;omega
  ·rw[decide_eq_false h2,Bool.false_and,cond_false,B1 (by omega) (by omega)];congr 1;omega
theorem W7 (n:Int):AB (IM n):=by unfold IM AB;omega
theorem W8 {n:Int}(h:AB n):IM n=n:=by obtain⟨h1,h2⟩:=h;unfold IM;omega
def pt (v n d:Int):Int:=(VT v n d).1
theorem J9 {N:Nat}(hN:18446744073709551616<N) (v n d:Int):FU N v n d=some (pt v n d):=by
 unfold FU pt
 rw[Le hN,Option.bind_some]
 unfold VT
 split<;>rfl
theorem Pb {N:Nat}(hN:18446744073709551616<N) (v n d:Int):HA N v n d=some (pt v n d):=by
 unfold HA pt
 rw[Le hN,Option.bind_some]
 unfold VT
 split<;>rfl
theorem Mc {v n d:Int}(hv:0≤v∧v≤1125899906842624) (hn:0≤n) (hnd:n≤d) (hd:d≤1125899906842624):pt v n d=v*n/d:=by
 have:=Kz (t:=v) (n:=n) (d:=d) (by omega) hnd hv.1
 unfold pt VT
 by_cases h:1≤d
 ·rw[if_pos ⟨hv,⟨hn,by omega⟩,⟨h,hd⟩,by omega⟩]
 ·have e:d=0:=by omega
  rw[if_neg (λhh=>h hh.2.2.1.1),e]
  simp
theorem H7 (v n d:Int):0≤pt v n d∧pt v n d≤1125899906842624:=by
 unfold pt VT
 split
 ·rename_i h
  exact⟨Ky (by omega) h.2.1.1 h.1.1,h.2.2.2⟩
 ·exact⟨by decide,by decide⟩
structure Qa (n d s:Int):Prop where
 n0:0≤n
 nd:n≤d
 dm:d≤1125899906842624
 s0:0≤s
 sl:n*1099511627776≤s*d
theorem Qa.lip {n d s:Int}(h:Qa n d s) {u v:Int}(hu:0≤u) (huv:u≤v) (hv:v≤1125899906842624):pt u n d≤pt v n d∧pt v n d≤v∧(pt v n d-pt u n d-1)*1099511627776≤s*(v-u):=by
 have h0:=h.n0
 have h1:=h.nd
 rw[Mc ⟨hu,by omega⟩ h.n0 h.nd h.dm,Mc ⟨by omega,hv⟩ h.n0 h.nd h.dm]
 refine⟨Lq (by omega) h0 huv,Kz (by omega) h1 (by omega),?_⟩
 by_cases hd:0<d
 ·exact Qt hd h.sl huv
 ·have:d=0:=by omega
  subst this
  have:=Int.mul_nonneg h.s0 (show 0≤v-u by omega)
  simp
  omega
theorem XP {y z p P:Int}(h0:0≤p) (h1:p≤P) (h2:y≤z):z*p/P≤y*p/P+(z-y):=by
 by_cases hP:0<P
 ·have:z*p≤y*p+(z-y)*P:=by
   have:=Int.mul_le_mul_of_nonneg_left h1 (show 0≤z-y by omega)
   grind
  have h3:=Int.ediv_le_ediv hP this
  rw[Int.add_mul_ediv_right _ _ (by omega)] at h3
  exact h3
 ·have:P=0:=by omega
  subst this
  simp
  omega
theorem NW {y p q P:Int}(h0:0≤y) (h1:p≤q) (hP:0≤P):y*p/P≤y*q/P:=by
 rcases Int.lt_or_eq_of_le hP with h|h
 ·exact Int.ediv_le_ediv h (Int.mul_le_mul_of_nonneg_left h1 h0)
 ·rw[←h];simp
structure QW (N:Nat) (l:AQ) (s t:Int):Prop where
 s0:0≤s
 t0:0≤t
 gate:l.Kind=0→Bn l.Rate∧Bn l.Band.Lo∧Bn l.Band.Hi∧Cw N l.Band.Lo l.Rate=some true∧Cw N l.Rate l.Band.Hi=some true∧(0≤l.Positions∧l.Positions≤64)∧(0≤l.Leak∧l.Leak≤1125899906842624)∧YN (GS l.Band.Lo) s∧(l.To≠ -1→Qa l.BackNum l.BackDen t)
 weir:l.Kind=1∨l.Kind=5→Qa l.Num l.Den s∧(0≤l.Crest∧l.Crest≤1125899906842624)
 pump:l.Kind=2→(0≤l.Num∧l.Num≤1125899906842624)∧(1≤l.Positions∧l.Positions≤64)
 siph:l.Kind=3→Qa l.Num l.Den s∧(0≤l.Prime∧l.Prime≤1125899906842624)∧(0≤l.Break∧l.Break≤1125899906842624)
 seep:l.Kind=4→Qa l.Num l.Den s∧Qa l.BackNum l.BackDen t∧l.To≠ -1
 spd:0≤l.Speed∧l.Speed≤l.Positions∧l.Positions≤64
structure Nu (l:AQ) (k:AT):Prop where
 pos:0≤k.Pos.Lo∧k.Pos.Lo≤k.Pos.Hi∧k.Pos.Hi≤l.Positions
 tgt:0≤k.Target∧k.Target≤l.Positions
 opn:(k.Open=⟨0,0⟩)∨((l.Kind=5∨l.Kind=3)∧(k.Open=⟨1,1⟩∨k.Open=⟨0,1⟩))
def Hr (l:AQ) (fr to:Int):Int:=if l.To= -1 then fr else max 0 (fr-pt to l.BackNum l.BackDen)
theorem Sa {N:Nat}(hN:18446744073709551616<N) (l:AQ) {fr to:Int}(hf:0≤fr∧fr≤1125899906842624):Hs N l fr to=some (Hr l fr to):=by
 unfold Hs Hr
 by_cases h:l.To= -1
 ·rw[decide_eq_true h,cond_true,if_pos h]
 ·have:=H7 to l.BackNum l.BackDen
  rw[decide_eq_false h,cond_false,if_neg h,J9 hN,Option.bind_some,HU N (by omega) (by omega) (by omega) (by omega),Option.bind_some]
theorem J8 (l:AQ) {fr:Int}(to:Int) (hf:0≤fr∧fr≤1125899906842624):0≤Hr l fr to∧Hr l fr to≤1125899906842624:=by
 have:=H7 to l.BackNum l.BackDen
 unfold Hr
 split<;>omega
theorem Sb (l:AQ) {u v to:Int}(h:u≤v):Hr l u to≤Hr l v to∧Hr l v to-Hr l u to≤v-u:=by
 unfold Hr
 split<;>omega
theorem Ps {N:Nat}{l:AQ}{s t:Int}(hl:QW N l s t) (h0:l.Kind=0) {fr a b:Int}(ha:0≤a) (hab:a≤b) (hb:b≤1125899906842624):Hr l fr b≤Hr l fr a:=by
 unfold Hr
 by_cases h:l.To= -1
 ·rw[if_pos h,if_pos h];exact Int.le_refl _
 ·rw[if_neg h,if_neg h]
  have:=((hl.gate h0).2.2.2.2.2.2.2.2 h).lip ha hab hb
  omega
theorem R6 {N:Nat}(hN:18446744073709551616<N) {l:AQ}(h0:l.Kind=0) {c:List AU}(hc:Bn c) (hP:0≤l.Positions∧l.Positions≤64) (hL:0≤l.Leak∧l.Leak≤1125899906842624) {pos fr to:Int}(hp:0≤pos∧pos≤l.Positions) (o:Bool) (hf:0≤fr∧fr≤1125899906842624):
  ∃k p q,PR (GS c) (Hr l fr to) k p q∧F2 N l pos o c fr to=some (FC p q (Hr l fr to)*pos/l.Positions+l.Leak):=by
 obtain⟨k,p,q,hs,e⟩:=MR hN hc (J8 l to hf)
 refine⟨k,p,q,hs,?_⟩
 have hv:=LQ hc hs
 unfold FB at hv
 unfold F2 HI
 rw[decide_eq_true h0,cond_true,Sa hN l hf,Option.bind_some,e,Option.bind_some,J9 hN,Mc hv hp.1 hp.2 (by omega),Option.bind_some]
 have:=Kz (t:=FC p q (Hr l fr to)) (n:=pos) (d:=l.Positions) (by omega) hp.2 hv.1
 have:=Ky (t:=FC p q (Hr l fr to)) (n:=pos) (d:=l.Positions) (by omega) hp.1 hv.1
 rw[MT N (by omega) (by omega) (by omega) (by omega),Option.bind_some]
structure Mi (s u v:Int) (a c:AD):Prop where
 lo:0≤a.Lo
 hi:0≤a.Hi∧a.Hi≤4503599627370496
 lo2:0≤c.Lo∧c.Lo≤4503599627370496
 hi2:c.Hi≤4503599627370496
 le:a.Lo≤c.Hi
 lip:(c.Lo-a.Hi-1)*1099511627776≤s*(v-u)
theorem VZ {l:AQ}{k:AT}(h:Nu l k):decide (1≤k.Open.Lo)=true→decide (1≤k.Open.Hi)=true:=by
 rcases h.opn with e|⟨_,e|e⟩<;>rw[e]<;>decide
theorem QM {N:Nat}(hN:18446744073709551616<N) {l:AQ}{s t:Int}(hl:QW N l s t) (h0:l.Kind=0) {k:AT}(hk:Nu l k) {to:AD}(ht:0≤to.Lo∧to.Lo≤to.Hi∧to.Hi≤1125899906842624) {u v:Int}(hu:0≤u) (huv:u≤v) (hv:v≤1125899906842624):
  ∃a c,DO N l k ⟨u,u⟩ to=some a∧DO N l k ⟨v,v⟩ to=some c∧Mi s u v a c:=by
 obtain⟨c1,c2,c3,u1,u2,hP,hL,hS,hB⟩:=hl.gate h0
 have hp:=hk.pos
 have hpl:0≤k.Pos.Lo∧k.Pos.Lo≤l.Positions:=by omega
 have hph:0≤k.Pos.Hi∧k.Pos.Hi≤l.Positions:=by omega
 obtain⟨_,p1,q1,s1,e1⟩:=R6 hN h0 c2 hP hL hpl (decide (1≤k.Open.Lo)) (to:=to.Hi) (show 0≤u∧u≤1125899906842624 by omega)
 obtain⟨_,p2,q2,s2,e2⟩:=R6 hN h0 c3 hP hL hph (decide (1≤k.Open.Hi)) (to:=to.Lo) (show 0≤u∧u≤1125899906842624 by omega)
 obtain⟨_,p3,q3,s3,e3⟩:=R6 hN h0 c2 hP hL hpl (decide (1≤k.Open.Lo)) (to:=to.Hi) (show 0≤v∧v≤1125899906842624 by omega)
 obtain⟨_,p4,q4,s4,e4⟩:=R6 hN h0 c3 hP hL hph (decide (1≤k.Open.Hi)) (to:=to.Lo) (show 0≤v∧v≤1125899906842624 by omega)
 refine⟨⟨_,_⟩,⟨_,_⟩,by unfold DO;rw[e1,Option.bind_some,e2,Option.bind_some],by unfold DO;rw[e3,Option.bind_some,e4,Option.bind_some],?_⟩
 have i2:=IF c2
 have i3:=IF c3
 have v1:=LQ c2 s1
 have v2:=LQ c3 s2
 have v3:=LQ c2 s3
 have v4:=LQ c3 s4
 unfold FB at v1 v2 v3 v4
 have hu2:=J8 l to.Lo (show 0≤u∧u≤1125899906842624 by omega)
 have hv2:=J8 l to.Lo (show 0≤v∧v≤1125899906842624 by omega)
 obtain⟨_,p5,q5,s5,_⟩:=MR hN c2 hu2
 obtain⟨_,p6,q6,s6,_⟩:=MR hN c2 hv2
 obtain⟨_,p7,q7,s7,_⟩:=MR hN c1 hu2
 obtain⟨_,p8,q8,s8,_⟩:=MR hN c1 (J8 l to.Hi (show 0≤u∧u≤1125899906842624 by omega))
 obtain⟨_,p9,q9,s9,_⟩:=MR hN c3 (J8 l to.Hi (show 0≤u∧u≤1125899906842624 by omega))
 have b1:=LT hN c2 c1 u1 s5 s7
 have b2:=LT hN c1 c3 u2 s7 s2
 have b3:=LT hN c2 c1 u1 s1 s8
 have b4:=LT hN c1 c3 u2 s8 s9
 have hd:=Sb l (to:=to.Lo) huv
 have hto:=Ps hl h0 (fr:=v) ht.1 ht.2.1 ht.2.2
 have htu:=Ps hl h0 (fr:=u) ht.1 ht.2.1 ht.2.2
 have m1:=s3.mono i2 s6 hto
 have m2:=s5.mono i2 s6 hd.1
 have m3:=s9.mono i3 s4 (by omega)
 have L:=s5.lip i2 hS s6 hd.1
 have v5:=LQ c2 s5
 have v6:=LQ c2 s6
 unfold FB at v5 v6
 have hs:=Int.mul_le_mul_of_nonneg_left hd.2 hl.s0
 generalize FC p1 q1 _=y1 at*
 generalize FC p2 q2 _=y2 at*
 generalize FC p3 q3 _=y3 at*
 generalize FC p4 q4 _=y4 at*
 generalize FC p5 q5 _=y5 at*
 generalize FC p6 q6 _=y6 at*
 generalize FC p9 q9 _=y9 at*
 have P0:=hP.1
 have r1:=Kz (t:=y1) (n:=k.Pos.Lo) P0 hpl.2 v1.1
 have r2:=Kz (t:=y2) (n:=k.Pos.Hi) P0 hph.2 v2.1
 have r3:=Kz (t:=y3) (n:=k.Pos.Lo) P0 hpl.2 v3.1
 have r4:=Kz (t:=y4) (n:=k.Pos.Hi) P0 hph.2 v4.1
 have n1:=Ky (t:=y1) P0 hpl.1 v1.1
 have n2:=Ky (t:=y2) P0 hph.1 v2.1
 have n3:=Ky (t:=y3) P0 hpl.1 v3.1
 have w1:=Lq (t:=y3) (t':=y6) P0 hpl.1 m1
 have w2:=NW (y:=y6) v6.1 hp.2.1 P0
 have w3:=XP hph.1 hph.2 m2
 have w4:=Lq (t:=y5) (t':=y2) P0 hph.1 (by omega)
 have w5:=Lq (t:=y1) (t':=y4) P0 hpl.1 (by omega)
 have w6:=NW (y:=y4) v4.1 hp.2.1 P0
 refine⟨by show 0≤y1*k.Pos.Lo/l.Positions+l.Leak;omega,⟨by show 0≤y2*k.Pos.Hi/l.Positions+l.Leak;omega,by show y2*k.Pos.Hi/l.Positions+l.Leak≤_;omega⟩,⟨by show 0≤y3*k.Pos.Lo/l.Positions+l.Leak;omega,by show y3*k.Pos.Lo/l.Positions+l.Leak≤_;omega⟩,by show y4*k.Pos.Hi/l.Positions+l.Leak≤_;omega,by show y1*k.Pos.Lo/l.Positions+l.Leak≤y4*k.Pos.Hi/l.Positions+l.Leak;omega,?_⟩
 show(y3*k.Pos.Lo/l.Positions+l.Leak-(y2*k.Pos.Hi/l.Positions+l.Leak)-1)*1099511627776≤s*(v-u)
 refine Int.le_trans (Int.mul_le_mul_of_nonneg_right (show _≤y6-y5-1 by omega) (by decide)) (Int.le_trans L hs)
theorem RO {n d s:Int}(h:Qa n d s) {u v x y:Int}(hx:0≤x) (hxy:x≤y) (hy:y≤1125899906842624) (hd:y-x≤v-u):pt x n d≤pt y n d∧(pt y n d-pt x n d-1)*1099511627776≤s*(v-u):=by
 have h1:=h.lip hx hxy hy
 exact⟨h1.1,Int.le_trans h1.2.2 (Int.mul_le_mul_of_nonneg_left hd h.s0)⟩
theorem My {s D x:Int}(hs:0≤s) (hD:0≤D) (hx:x≤1):(x-1)*1099511627776≤s*D:=by
 have:=Int.mul_nonneg hs hD
 omega
theorem Sj {N:Nat}(hN:18446744073709551616<N) {l:AQ}{s t:Int}(hl:QW N l s t) (hk4:l.Kind=0∨l.Kind=1∨l.Kind=2∨l.Kind=3∨l.Kind=5) {k:AT}(hk:Nu l k) {to:AD}(ht:0≤to.Lo∧to.Lo≤to.Hi∧to.Hi≤1125899906842624) {u v:Int}(hu:0≤u) (huv:u≤v) (hv:v≤1125899906842624):
  ∃a c,DO N l k ⟨u,u⟩ to=some a∧DO N l k ⟨v,v⟩ to=some c∧Mi s u v a c:=by
 have ho:=VZ hk
 have hp:=hk.pos
 have s0:=hl.s0
 by_cases h0:l.Kind=0
 ·exact QM hN hl h0 hk ht hu huv hv
 have g0:∀pos o c fr to',F2 N l pos o c fr to'=cond (decide (l.Kind=2)) (GZ N l pos) (cond (decide (l.Kind=3)) (Ga N l o fr (Eb N)) (cond (decide (l.Kind=5)) (Gb N o (EI N l fr)) (cond (decide (l.Kind=1)) (EI N l fr) (Eb N)))):=by
  intro pos o c fr to'
  unfold F2
  rw[decide_eq_false h0,cond_false]
 unfold DO
 simp only[g0]
 by_cases h2:l.Kind=2
 ·obtain⟨p1,p2⟩:=hl.pump h2
  simp only[decide_eq_true h2,cond_true,GZ,J9 hN,Option.bind_some]
  refine⟨_,_,rfl,rfl,?_⟩
  rw[Mc p1 hp.1 (by omega) (by omega),Mc p1 (by omega) hp.2.2 (by omega)]
  have r1:=Kz (t:=l.Num) (n:=k.Pos.Lo) (d:=l.Positions) (by omega) (by omega) p1.1
  have r2:=Kz (t:=l.Num) (n:=k.Pos.Hi) (d:=l.Positions) (by omega) hp.2.2 p1.1
  have n1:=Ky (t:=l.Num) (n:=k.Pos.Lo) (d:=l.Positions) (by omega) hp.1 p1.1
  have w:=NW (y:=l.Num) (P:=l.Positions) p1.1 hp.2.1 (by omega)
  generalize l.Num*k.Pos.Lo/l.Positions=y1 at*
  generalize l.Num*k.Pos.Hi/l.Positions=y2 at*
  exact⟨n1,⟨by show 0≤y2;omega,by show y2≤_;omega⟩,⟨n1,by show y1≤_;omega⟩,by show y2≤_;omega,w,My s0 (by omega) (by show y1-y2≤1;omega)⟩
 ·simp only[decide_eq_false h2,cond_false]
  have cr:Qa l.Num l.Den s→0≤l.Crest→l.Crest≤1125899906842624→∀x,0≤x→x≤1125899906842624→EI N l x=some (pt (max 0 (x-l.Crest)) l.Num l.Den):=by
   intro hS hc1 hc2 x hx1 hx2
   unfold EI
   rw[HU N (by omega) (by omega) (by omega) (by omega),Option.bind_some,J9 hN,Option.bind_some]
  have i1:=H7 (max 0 (u-l.Crest)) l.Num l.Den
  have i2:=H7 (max 0 (v-l.Crest)) l.Num l.Den
  have i3:=H7 u l.Num l.Den
  have i4:=H7 v l.Num l.Den
  have z0:Mi s u v ⟨0,0⟩ ⟨0,0⟩:=⟨by decide,⟨by decide,by decide⟩,⟨by decide,by decide⟩,by decide,by decide,My s0 (by omega) (by decide)⟩
  by_cases h3:l.Kind=3
  ·obtain⟨hS,_,_⟩:=hl.siph h3
   obtain⟨m,L⟩:=RO hS (u:=u) (v:=v) hu huv hv (Int.le_refl _)
   simp only[decide_eq_true h3,cond_true,Ga,Eb,J9 hN,Option.bind_some]
   generalize hol:decide (1≤k.Open.Lo)=ol at ho ⊢
   generalize hoh:decide (1≤k.Open.Hi)=oh at ho ⊢
   generalize pt u l.Num l.Den=x at*
   generalize pt v l.Num l.Den=y at*
   cases ol<;>cases oh
   ·exact⟨_,_,rfl,rfl,z0⟩
   ·exact⟨_,_,rfl,rfl,(show(0:Int)≤0 by decide),⟨i3.1,by show x≤_;omega⟩,⟨(show(0:Int)≤0 by decide),(show(0:Int)≤4503599627370496 by decide)⟩,by show y≤_;omega,i4.1,My s0 (by omega) (by show 0-x≤1;omega)⟩
   ·exact absurd (ho rfl) (by decide)
   ·exact⟨_,_,rfl,rfl,i3.1,⟨i3.1,by show x≤_;omega⟩,⟨i4.1,by show y≤_;omega⟩,by show y≤_;omega,m,L⟩
  ·simp only[decide_eq_false h3,cond_false]
   have h15:l.Kind=1∨l.Kind=5:=by omega
   obtain⟨hS,hc1,hc2⟩:=hl.weir h15
   obtain⟨m,L⟩:=RO hS (u:=u) (v:=v) (x:=max 0 (u-l.Crest)) (y:=max 0 (v-l.Crest)) (by omega) (by omega) (by omega) (by omega)
   by_cases h5:l.Kind=5
   ·simp only[decide_eq_true h5,cond_true,Gb,cr hS hc1 hc2 u hu (by omega),cr hS hc1 hc2 v (by omega) hv]
    generalize hol:decide (1≤k.Open.Lo)=ol at ho ⊢
    generalize hoh:decide (1≤k.Open.Hi)=oh at ho ⊢
    generalize pt _ l.Num l.Den=x at*
    generalize pt _ l.Num l.Den=y at*
    cases ol<;>cases oh
    ·exact⟨_,_,rfl,rfl,z0⟩
    ·exact⟨_,_,rfl,rfl,(show(0:Int)≤0 by decide),⟨i1.1,by show x≤_;omega⟩,⟨(show(0:Int)≤0 by decide),(show(0:Int)≤4503599627370496 by decide)⟩,by show y≤_;omega,i2.1,My s0 (by omega) (by show 0-x≤1;omega)⟩
    ·exact absurd (ho rfl) (by decide)
    ·exact⟨_,_,rfl,rfl,i1.1,⟨i1.1,by show x≤_;omega⟩,⟨i2.1,by show y≤_;omega⟩,by show y≤_;omega,m,L⟩
   ·simp only[decide_eq_false h5,cond_false,decide_eq_true (show l.Kind=1 by omega),cond_true,cr hS hc1 hc2 u hu (by omega),cr hS hc1 hc2 v (by omega) hv,Option.bind_some]
    generalize pt _ l.Num l.Den=x at*
    generalize pt _ l.Num l.Den=y at*
    exact⟨_,_,rfl,rfl,i1.1,⟨i1.1,by show x≤_;omega⟩,⟨i2.1,by show y≤_;omega⟩,by show y≤_;omega,m,L⟩
end Go.Proofs.YtibidnaedddfdaaGreat
