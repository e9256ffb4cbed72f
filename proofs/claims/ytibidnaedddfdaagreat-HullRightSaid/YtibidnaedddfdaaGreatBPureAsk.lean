import Derived.Test.YtibidnaedddfdaaGreatBPureCurve
namespace Go.Proofs.YtibidnaedddfdaaGreat
open Go.RowKit
set_option linter.unusedVariables false
set_option linter.unusedSimpArgs false
def Zq (n:Int):Int:=max (-9223372036854775808) (min 9223372036854775807 n)
theorem Vk (N:Nat) {a b:Int}(ha:AB a) (hb:AB b):CR N a b=some (Zq (a+b)):=by
 obtain⟨a1,a2⟩:=ha
 obtain⟨b1,b2⟩:=hb
 unfold CR Zq
 by_cases h:0<b
 ·have e1:A3 (9223372036854775807-b)=9223372036854775807-b:=B9 (by omega) (by omega)
  rw[e1,decide_eq_true h,Bool.true_and]
  by_cases c:9223372036854775807-b<a
  ·rw[decide_eq_true c,cond_true];congr 1;omega
  ·rw[decide_eq_false c,cond_false,decide_eq_false (show ¬b<0 by omega),Bool.false_and,cond_false,B9 (by omega) (by omega)];congr 1;omega
 ·rw[decide_eq_false h,Bool.false_and,cond_false]
  by_cases h2:b<0
  ·have e1:A3 (-9223372036854775808-b)= -9223372036854775808-b:=B9 (by omega) (by omega)
   rw[e1,decide_eq_true h2,Bool.true_and]
   by_cases c:a< -9223372036854775808-b
   ·rw[decide_eq_true c,cond_true];congr 1;omega
   ·rw[decide_eq_false c,cond_false,B9 (by omega) (by omega)];congr 1;omega
  ·rw[decide_eq_false h2,Bool.false_and,cond_false,B9 (by omega) (by omega)];congr 1;omega
theorem ZR (N:Nat) {a b:Int}(ha:AB a) (hb:AB b):CN N a b=some (Zq (a-b)):=by
 obtain⟨a1,a2⟩:=ha
 obtain⟨b1,b2⟩:=hb
 unfold CN Zq
 by_cases h:b<0
 ·have e1:A3 (9223372036854775807+b)=9223372036854775807+b:=B9 (by omega) (by omega)
  rw[e1,decide_eq_true h,Bool.true_and]
  by_cases c:9223372036854775807+b<a
  ·rw[decide_eq_true c,cond_true];congr 1;omega
  ·rw[decide_eq_false c,cond_false,decide_eq_false (show ¬0<b by omega),Bool.false_and,cond_false,B9 (by omega) (by omega)];congr 1;omega
 ·rw[decide_eq_false h,Bool.false_and,cond_false]
  by_cases h2:0<b
  ·have e1:A3 (-9223372036854775808+b)= -9223372036854775808+b:=B9 (by omega) (by omega)
   rw[e1,decide_eq_true h2,Bool.true_and]
   by_cases c:a< -9223372036854775808+b
   ·rw[decide_eq_true c,cond_true];congr 1;omega
   ·rw[decide_eq_false c,cond_false,B9 (by omega) (by omega)];congr 1;omega
  ·rw[decide_eq_false h2,Bool.false_and,cond_false,B9 (by omega) (by omega)];congr 1;omega
theorem Wh (n:Int):AB (Zq n):=by unfold Zq AB;omega
theorem Wi {n:Int}(h:AB n):Zq n=n:=by obtain⟨h1,h2⟩:=h;unfold Zq;omega
def pt (v n d:Int):Int:=(VG v n d).1
theorem KQ {N:Nat}(hN:18446744073709551616<N) (v n d:Int):FP N v n d=some (pt v n d):=by
 unfold FP pt
 rw[LZ hN,Option.bind_some]
 unfold VG
 split<;>rfl
theorem PW {N:Nat}(hN:18446744073709551616<N) (v n d:Int):G8 N v n d=some (pt v n d):=by
 unfold G8 pt
 rw[LZ hN,Option.bind_some]
 unfold VG
 split<;>rfl
theorem Md {v n d:Int}(hv:0≤v∧v≤1125899906842624) (hn:0≤n) (hnd:n≤d) (hd:d≤1125899906842624):pt v n d=v*n/d:=by
 have:=LB (t:=v) (n:=n) (d:=d) (by omega) hnd hv.1
 unfold pt VG
 by_cases h:1≤d
 ·rw[if_pos ⟨hv,⟨hn,by omega⟩,⟨h,hd⟩,by omega⟩]
 ·have e:d=0:=by omega
  rw[if_neg (λhh=>h hh.2.2.1.1),e]
  simp
theorem H5 (v n d:Int):0≤pt v n d∧pt v n d≤1125899906842624:=by
 unfold pt VG
 split
 ·rename_i h
  exact⟨LA (by omega) h.2.1.1 h.1.1,h.2.2.2⟩
 ·exact⟨by decide,by decide⟩
structure QP (n d s:Int):Prop where
 n0:0≤n
 nd:n≤d
 dm:d≤1125899906842624
 s0:0≤s
 sl:n*1099511627776≤s*d
theorem QP.lip {n d s:Int}(h:QP n d s) {u v:Int}(hu:0≤u) (huv:u≤v) (hv:v≤1125899906842624):pt u n d≤pt v n d∧pt v n d≤v∧(pt v n d-pt u n d-1)*1099511627776≤s*(v-u):=by
 have h0:=h.n0
 have h1:=h.nd
 rw[Md ⟨hu,by omega⟩ h.n0 h.nd h.dm,Md ⟨by omega,hv⟩ h.n0 h.nd h.dm]
 refine⟨Lq (by omega) h0 huv,LB (by omega) h1 (by omega),?_⟩
 by_cases hd:0<d
 ·exact Qg hd h.sl huv
 ·have:d=0:=by omega
  subst this
  have:=Int.mul_nonneg h.s0 (show 0≤v-u by omega)
  simp
  omega
theorem Wy {y z p P:Int}(h0:0≤p) (h1:p≤P) (h2:y≤z):z*p/P≤y*p/P+(z-y):=by
 by_cases hP:0<P
 ·have:z*p≤y*p+(z-y)*P:=by
   have:=Int.mul_le_mul_of_nonneg_left h1 (show 0≤z-y by omega)
   grind
  have h3:=Int.ediv_le_ediv hP this
  rw[Int.add_mul_ediv_right _ _ (by omega)] at h3
  exact h3
 ·have:P=0:=by omega
  subst this
  simp
  omega
theorem NS {y p q P:Int}(h0:0≤y) (h1:p≤q) (hP:0≤P):y*p/P≤y*q/P:=by
 rcases Int.lt_or_eq_of_le hP with h|h
 ·exact Int.ediv_le_ediv h (Int.mul_le_mul_of_nonneg_left h1 h0)
 ·rw[←h];simp
structure QL (N:Nat) (l:AT) (s t:Int):Prop where
 s0:0≤s
 t0:0≤t
 gate:l.Kind=0→Bo l.Rate∧Bo l.Band.Lo∧Bo l.Band.Hi∧Cw N l.Band.Lo l.Rate=some true∧Cw N l.Rate l.Band.Hi=some true∧(0≤l.Positions∧l.Positions≤64)∧(0≤l.Leak∧l.Leak≤1125899906842624)∧Xk (GN l.Band.Lo) s∧(l.To≠ -1→QP l.BackNum l.BackDen t)
 weir:l.Kind=1∨l.Kind=5→QP l.Num l.Den s∧(0≤l.Crest∧l.Crest≤1125899906842624)
 pump:l.Kind=2→(0≤l.Num∧l.Num≤1125899906842624)∧(1≤l.Positions∧l.Positions≤64)
 siph:l.Kind=3→QP l.Num l.Den s∧(0≤l.Prime∧l.Prime≤1125899906842624)∧(0≤l.Break∧l.Break≤1125899906842624)
 seep:l.Kind=4→QP l.Num l.Den s∧QP l.BackNum l.BackDen t∧l.To≠ -1
 spd:0≤l.Speed∧l.Speed≤l.Positions∧l.Positions≤64
structure Np (l:AT) (k:AS):Prop where
 pos:0≤k.Pos.Lo∧k.Pos.Lo≤k.Pos.Hi∧k.Pos.Hi≤l.Positions
 tgt:0≤k.Target∧k.Target≤l.Positions
 opn:(k.Open=⟨0,0⟩)∨((l.Kind=5∨l.Kind=3)∧(k.Open=⟨1,1⟩∨k.Open=⟨0,1⟩))
def Hs (l:AT) (fr to:Int):Int:=if l.To= -1 then fr else max 0 (fr-pt to l.BackNum l.BackDen)
theorem SL {N:Nat}(hN:18446744073709551616<N) (l:AT) {fr to:Int}(hf:0≤fr∧fr≤1125899906842624):Hu N l fr to=some (Hs l fr to):=by
 unfold Hu Hs
 by_cases h:l.To= -1
 ·rw[decide_eq_true h,cond_true,if_pos h]
 ·have:=H5 to l.BackNum l.BackDen
  rw[decide_eq_false h,cond_false,if_neg h,KQ hN,Option.bind_some,HX N (by omega) (by omega) (by omega) (by omega),Option.bind_some]
theorem KP (l:AT) {fr:Int}(to:Int) (hf:0≤fr∧fr≤1125899906842624):0≤Hs l fr to∧Hs l fr to≤1125899906842624:=by
 have:=H5 to l.BackNum l.BackDen
 unfold Hs
 split<;>omega
theorem SO (l:AT) {u v to:Int}(h:u≤v):Hs l u to≤Hs l v to∧Hs l v to-Hs l u to≤v-u:=by
 unfold Hs
 split<;>omega
theorem Po {N:Nat}{l:AT}{s t:Int}(hl:QL N l s t) (h0:l.Kind=0) {fr a b:Int}(ha:0≤a) (hab:a≤b) (hb:b≤1125899906842624):Hs l fr b≤Hs l fr a:=by
 unfold Hs
 by_cases h:l.To= -1
 ·rw[if_pos h,if_pos h];exact Int.le_refl _
 ·rw[if_neg h,if_neg h]
  have:=((hl.gate h0).2.2.2.2.2.2.2.2 h).lip ha hab hb
  omega
theorem Rr {N:Nat}(hN:18446744073709551616<N) {l:AT}(h0:l.Kind=0) {c:List AX}(hc:Bo c) (hP:0≤l.Positions∧l.Positions≤64) (hL:0≤l.Leak∧l.Leak≤1125899906842624) {pos fr to:Int}(hp:0≤pos∧pos≤l.Positions) (o:Bool) (hf:0≤fr∧fr≤1125899906842624):
  ∃k p q,PJ (GN c) (Hs l fr to) k p q∧Fj N l pos o c fr to=some (E3 p q (Hs l fr to)*pos/l.Positions+l.Leak):=by
 obtain⟨k,p,q,hs,e⟩:=MS hN hc (KP l to hf)
 refine⟨k,p,q,hs,?_⟩
 have hv:=LR hc hs
 unfold E2 at hv
 unfold Fj HN
 rw[decide_eq_true h0,cond_true,SL hN l hf,Option.bind_some,e,Option.bind_some,KQ hN,Md hv hp.1 hp.2 (by omega),Option.bind_some]
 have:=LB (t:=E3 p q (Hs l fr to)) (n:=pos) (d:=l.Positions) (by omega) hp.2 hv.1
 have:=LA (t:=E3 p q (Hs l fr to)) (n:=pos) (d:=l.Positions) (by omega) hp.1 hv.1
 rw[MT N (by omega) (by omega) (by omega) (by omega),Option.bind_some]
structure Mm (s u v:Int) (a c:AF):Prop where
 lo:0≤a.Lo
 hi:0≤a.Hi∧a.Hi≤4503599627370496
 lo2:0≤c.Lo∧c.Lo≤4503599627370496
 hi2:c.Hi≤4503599627370496
 le:a.Lo≤c.Hi
 lip:(c.Lo-a.Hi-1)*1099511627776≤s*(v-u)
theorem VM {l:AT}{k:AS}(h:Np l k):decide (1≤k.Open.Lo)=true→decide (1≤k.Open.Hi)=true:=by
 rcases h.opn with e|⟨_,e|e⟩<;>rw[e]<;>decide
theorem QD {N:Nat}(hN:18446744073709551616<N) {l:AT}{s t:Int}(hl:QL N l s t) (h0:l.Kind=0) {k:AS}(hk:Np l k) {to:AF}(ht:0≤to.Lo∧to.Lo≤to.Hi∧to.Hi≤1125899906842624) {u v:Int}(hu:0≤u) (huv:u≤v) (hv:v≤1125899906842624):
  ∃a c,DM N l k ⟨u,u⟩ to=some a∧DM N l k ⟨v,v⟩ to=some c∧Mm s u v a c:=by
 obtain⟨c1,c2,c3,u1,u2,hP,hL,hS,hB⟩:=hl.gate h0
 have hp:=hk.pos
 have hpl:0≤k.Pos.Lo∧k.Pos.Lo≤l.Positions:=by omega
 have hph:0≤k.Pos.Hi∧k.Pos.Hi≤l.Positions:=by omega
 obtain⟨_,p1,q1,s1,e1⟩:=Rr hN h0 c2 hP hL hpl (decide (1≤k.Open.Lo)) (to:=to.Hi) (show 0≤u∧u≤1125899906842624 by omega)
 obtain⟨_,p2,q2,s2,e2⟩:=Rr hN h0 c3 hP hL hph (decide (1≤k.Open.Hi)) (to:=to.Lo) (show 0≤u∧u≤1125899906842624 by omega)
 obtain⟨_,p3,q3,s3,e3⟩:=Rr hN h0 c2 hP hL hpl (decide (1≤k.Open.Lo)) (to:=to.Hi) (show 0≤v∧v≤1125899906842624 by omega)
 obtain⟨_,p4,q4,s4,e4⟩:=Rr hN h0 c3 hP hL hph (decide (1≤k.Open.Hi)) (to:=to.Lo) (show 0≤v∧v≤1125899906842624 by omega)
 refine⟨⟨_,_⟩,⟨_,_⟩,by unfold DM;rw[e1,Option.bind_some,e2,Option.bind_some],by unfold DM;rw[e3,Option.bind_some,e4,Option.bind_some],?_⟩
 have i2:=IG c2
 have i3:=IG c3
 have v1:=LR c2 s1
 have v2:=LR c3 s2
 have v3:=LR c2 s3
 have v4:=LR c3 s4
 unfold E2 at v1 v2 v3 v4
 have hu2:=KP l to.Lo (show 0≤u∧u≤1125899906842624 by omega)
 have hv2:=KP l to.Lo (show 0≤v∧v≤1125899906842624 by omega)
 obtain⟨_,p5,q5,s5,_⟩:=MS hN c2 hu2
 obtain⟨_,p6,q6,s6,_⟩:=MS hN c2 hv2
 obtain⟨_,p7,q7,s7,_⟩:=MS hN c1 hu2
 obtain⟨_,p8,q8,s8,_⟩:=MS hN c1 (KP l to.Hi (show 0≤u∧u≤1125899906842624 by omega))
 obtain⟨_,p9,q9,s9,_⟩:=MS hN c3 (KP l to.Hi (show 0≤u∧u≤1125899906842624 by omega))
 have b1:=LT hN c2 c1 u1 s5 s7
 have b2:=LT hN c1 c3 u2 s7 s2
 have b3:=LT hN c2 c1 u1 s1 s8
 have b4:=LT hN c1 c3 u2 s8 s9
 have hd:=SO l (to:=to.Lo) huv
 have hto:=Po hl h0 (fr:=v) ht.1 ht.2.1 ht.2.2
 have htu:=Po hl h0 (fr:=u) ht.1 ht.2.1 ht.2.2
 have m1:=s3.mono i2 s6 hto
 have m2:=s5.mono i2 s6 hd.1
 have m3:=s9.mono i3 s4 (by omega)
 have L:=s5.lip i2 hS s6 hd.1
 have v5:=LR c2 s5
 have v6:=LR c2 s6
 unfold E2 at v5 v6
 have hs:=Int.mul_le_mul_of_nonneg_left hd.2 hl.s0
 generalize E3 p1 q1 _=y1 at*
 generalize E3 p2 q2 _=y2 at*
 generalize E3 p3 q3 _=y3 at*
 generalize E3 p4 q4 _=y4 at*
 generalize E3 p5 q5 _=y5 at*
 generalize E3 p6 q6 _=y6 at*
 generalize E3 p9 q9 _=y9 at*
 have P0:=hP.1
 have r1:=LB (t:=y1) (n:=k.Pos.Lo) P0 hpl.2 v1.1
 have r2:=LB (t:=y2) (n:=k.Pos.Hi) P0 hph.2 v2.1
 have r3:=LB (t:=y3) (n:=k.Pos.Lo) P0 hpl.2 v3.1
 have r4:=LB (t:=y4) (n:=k.Pos.Hi) P0 hph.2 v4.1
 have n1:=LA (t:=y1) P0 hpl.1 v1.1
 have n2:=LA (t:=y2) P0 hph.1 v2.1
 have n3:=LA (t:=y3) P0 hpl.1 v3.1
 have w1:=Lq (t:=y3) (t':=y6) P0 hpl.1 m1
 have w2:=NS (y:=y6) v6.1 hp.2.1 P0
 have w3:=Wy hph.1 hph.2 m2
 have w4:=Lq (t:=y5) (t':=y2) P0 hph.1 (by omega)
 have w5:=Lq (t:=y1) (t':=y4) P0 hpl.1 (by omega)
 have w6:=NS (y:=y4) v4.1 hp.2.1 P0
 refine⟨by show 0≤y1*k.Pos.Lo/l.Positions+l.Leak;omega,⟨by show 0≤y2*k.Pos.Hi/l.Positions+l.Leak;omega,by show y2*k.Pos.Hi/l.Positions+l.Leak≤_;omega⟩,⟨by show 0≤y3*k.Pos.Lo/l.Positions+l.Leak;omega,by show y3*k.Pos.Lo/l.Positions+l.Leak≤_;omega⟩,by show y4*k.Pos.Hi/l.Positions+l.Leak≤_;omega,by show y1*k.Pos.Lo/l.Positions+l.Leak≤y4*k.Pos.Hi/l.Positions+l.Leak;omega,?_⟩
 show(y3*k.Pos.Lo/l.Positions+l.Leak-(y2*k.Pos.Hi/l.Positions+l.Leak)-1)*1099511627776≤s*(v-u)
 refine Int.le_trans (Int.mul_le_mul_of_nonneg_right (show _≤y6-y5-1 by omega) (by decide)) (Int.le_trans L hs)
theorem RA {n d s:Int}(h:QP n d s) {u v x y:Int}(hx:0≤x) (hxy:x≤y) (hy:y≤1125899906842624) (hd:y-x≤v-u):pt x n d≤pt y n d∧(pt y n d-pt x n d-1)*1099511627776≤s*(v-u):=by
 have h1:=h.lip hx hxy hy
 exact⟨h1.1,Int.le_trans h1.2.2 (Int.mul_le_mul_of_nonneg_left hd h.s0)⟩
theorem My {s D x:Int}(hs:0≤s) (hD:0≤D) (hx:x≤1):(x-1)*1099511627776≤s*D:=by
 have:=Int.mul_nonneg hs hD
 omega
theorem SV {N:Nat}(hN:18446744073709551616<N) {l:AT}{s t:Int}(hl:QL N l s t) (hk4:l.Kind=0∨l.Kind=1∨l.Kind=2∨l.Kind=3∨l.Kind=5) {k:AS}(hk:Np l k) {to:AF}(ht:0≤to.Lo∧to.Lo≤to.Hi∧to.Hi≤1125899906842624) {u v:Int}(hu:0≤u) (huv:u≤v) (hv:v≤1125899906842624):
  ∃a c,DM N l k ⟨u,u⟩ to=some a∧DM N l k ⟨v,v⟩ to=some c∧Mm s u v a c:=by
 have ho:=VM hk
 have hp:=hk.pos
 have s0:=hl.s0
 by_cases h0:l.Kind=0
 ·exact QD hN hl h0 hk ht hu huv hv
 have g0:∀pos o c fr to',Fj N l pos o c fr to'=cond (decide (l.Kind=2)) (GT N l pos) (cond (decide (l.Kind=3)) (GU N l o fr (ER N)) (cond (decide (l.Kind=5)) (GV N o (D4 N l fr)) (cond (decide (l.Kind=1)) (D4 N l fr) (ER N)))):=by
  intro pos o c fr to'
  unfold Fj
  rw[decide_eq_false h0,cond_false]
 unfold DM
 simp only[g0]
 by_cases h2:l.Kind=2
 ·obtain⟨p1,p2⟩:=hl.pump h2
  simp only[decide_eq_true h2,cond_true,GT,KQ hN,Option.bind_some]
  refine⟨_,_,rfl,rfl,?_⟩
  rw[Md p1 hp.1 (by omega) (by omega),Md p1 (by omega) hp.2.2 (by omega)]
  have r1:=LB (t:=l.Num) (n:=k.Pos.Lo) (d:=l.Positions) (by omega) (by omega) p1.1
  have r2:=LB (t:=l.Num) (n:=k.Pos.Hi) (d:=l.Positions) (by omega) hp.2.2 p1.1
  have n1:=LA (t:=l.Num) (n:=k.Pos.Lo) (d:=l.Positions) (by omega) hp.1 p1.1
  have w:=NS (y:=l.Num) (P:=l.Positions) p1.1 hp.2.1 (by omega)
  generalize l.Num*k.Pos.Lo/l.Positions=y1 at*
  generalize l.Num*k.Pos.Hi/l.Positions=y2 at*
  exact⟨n1,⟨by show 0≤y2;omega,by show y2≤_;omega⟩,⟨n1,by show y1≤_;omega⟩,by show y2≤_;omega,w,My s0 (by omega) (by show y1-y2≤1;omega)⟩
 ·simp only[decide_eq_false h2,cond_false]
  have cr:QP l.Num l.Den s→0≤l.Crest→l.Crest≤1125899906842624→∀x,0≤x→x≤1125899906842624→D4 N l x=some (pt (max 0 (x-l.Crest)) l.Num l.Den):=by
   intro hS hc1 hc2 x hx1 hx2
   unfold D4
   rw[HX N (by omega) (by omega) (by omega) (by omega),Option.bind_some,KQ hN,Option.bind_some]
  have i1:=H5 (max 0 (u-l.Crest)) l.Num l.Den
  have i2:=H5 (max 0 (v-l.Crest)) l.Num l.Den
  have i3:=H5 u l.Num l.Den
  have i4:=H5 v l.Num l.Den
  have z0:Mm s u v ⟨0,0⟩ ⟨0,0⟩:=⟨by decide,⟨by decide,by decide⟩,⟨by decide,by decide⟩,by decide,by decide,My s0 (by omega) (by decide)⟩
  by_cases h3:l.Kind=3
  ·obtain⟨hS,_,_⟩:=hl.siph h3
   obtain⟨m,L⟩:=RA hS (u:=u) (v:=v) hu huv hv (Int.le_refl _)
   simp only[decide_eq_true h3,cond_true,GU,ER,KQ hN,Option.bind_some]
   generalize hol:decide (1≤k.Open.Lo)=ol at ho ⊢
   generalize hoh:decide (1≤k.Open.Hi)=oh at ho ⊢
   generalize pt u l.Num l.Den=x at*
   generalize pt v l.Num l.Den=y at*
   cases ol<;>cases oh
   ·exact⟨_,_,rfl,rfl,z0⟩
   ·exact⟨_,_,rfl,rfl,(show(0:Int)≤0 by decide),⟨i3.1,by show x≤_;omega⟩,⟨(show(0:Int)≤0 by decide),(show(0:Int)≤4503599627370496 by decide)⟩,by show y≤_;omega,i4.1,My s0 (by omega) (by show 0-x≤1;omega)⟩
   ·exact absurd (ho rfl) (by decide)
   ·exact⟨_,_,rfl,rfl,i3.1,⟨i3.1,by show x≤_;omega⟩,⟨i4.1,by show y≤_;omega⟩,by show y≤_;omega,m,L⟩
  ·simp only[decide_eq_false h3,cond_false]
   have h15:l.Kind=1∨l.Kind=5:=by omega
   obtain⟨hS,hc1,hc2⟩:=hl.weir h15
   obtain⟨m,L⟩:=RA hS (u:=u) (v:=v) (x:=max 0 (u-l.Crest)) (y:=max 0 (v-l.Crest)) (by omega) (by omega) (by omega) (by omega)
   by_cases h5:l.Kind=5
   ·simp only[decide_eq_true h5,cond_true,GV,cr hS hc1 hc2 u hu (by omega),cr hS hc1 hc2 v (by omega) hv]
    generalize hol:decide (1≤k.Open.Lo)=ol at ho ⊢
    generalize hoh:decide (1≤k.Open.Hi)=oh at ho ⊢
    generalize pt _ l.Num l.Den=x at*
    generalize pt _ l.Num l.Den=y at*
    cases ol<;>cases oh
    ·exact⟨_,_,rfl,rfl,z0⟩
    ·exact⟨_,_,rfl,rfl,(show(0:Int)≤0 by decide),⟨i1.1,by show x≤_;omega⟩,⟨(show(0:Int)≤0 by decide),(show(0:Int)≤4503599627370496 by decide)⟩,by show y≤_;omega,i2.1,My s0 (by omega) (by show 0-x≤1;omega)⟩
    ·exact absurd (ho rfl) (by decide)
    ·exact⟨_,_,rfl,rfl,i1.1,⟨i1.1,by show x≤_;omega⟩,⟨i2.1,by show y≤_;omega⟩,by show y≤_;omega,m,L⟩
   ·simp only[decide_eq_false h5,cond_false,decide_eq_true (show l.Kind=1 by omega),cond_true,cr hS hc1 hc2 u hu (by omega),cr hS hc1 hc2 v (by omega) hv,Option.bind_some]
    generalize pt _ l.Num l.Den=x at*
    generalize pt _ l.Num l.Den=y at*
    exact⟨_,_,rfl,rfl,i1.1,⟨i1.1,by show x≤_;omega⟩,⟨i2.1,by show y≤_;omega⟩,by show y≤_;omega,m,L⟩
end Go.Proofs.YtibidnaedddfdaaGreat
