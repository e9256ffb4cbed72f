import Derived.Test.YtibidnaedddfdaaGreatDPureCurve
namespace Go.Proofs.YtibidnaedddfdaaGreat
set_option linter.all false
open Go.RowKit
def Jx (n:Int):Int:=max (-9223372036854775808) (min 9223372036854775807 n)
def YO (N:Nat) {a b:Int}(i:AD a) (j:AD b):Ex N a b=some (Jx (a+b)):=by
 obtain⟨k,l⟩:=i
 obtain⟨m,n⟩:=j
 unfold Ex Jx
 by_cases h:0<b
 ·have d:B8 (9223372036854775807-b)=9223372036854775807-b:=DE (by omega) (by omega)
  rw[d,iW h,lC]
  by_cases c:9223372036854775807-b<a
  ·rw[iW c,iN];congr 1;omega
  ·rw[jD c,iO,jD (show ¬b<0 by omega),mA,iO,DE (by omega) (by omega)];congr 1;omega
 ·rw[jD h,mA,iO]
  by_cases g:b<0
  ·have d:B8 (-9223372036854775808-b)= -9223372036854775808-b:=DE (by omega) (by omega)
   rw[d,iW g,lC]
   by_cases c:a< -9223372036854775808-b
   ·rw[iW c,iN];congr 1;omega
   ·rw[jD c,iO,DE (by omega) (by omega)];congr 1;omega
  ·rw[jD g,mA,iO,DE (by omega) (by omega)];congr 1;omega
def gI (N:Nat) {a b:Int}(i:AD a) (j:AD b):Dg N a b=some (Jx (a-b)):=by
 obtain⟨k,l⟩:=i
 obtain⟨m,n⟩:=j
 unfold Dg Jx
 by_cases h:b<0
 ·have d:B8 (9223372036854775807+b)=9223372036854775807+b:=DE (by omega) (by omega)
  rw[d,iW h,lC]
  by_cases c:9223372036854775807+b<a
  ·rw[iW c,iN];congr 1;omega
  ·rw[jD c,iO,jD (show ¬0<b by omega),mA,iO,DE (by omega) (by omega)];congr 1;omega
 ·rw[jD h,mA,iO]
  by_cases g:0<b
  ·have d:B8 (-9223372036854775808+b)= -9223372036854775808+b:=DE (by omega) (by omega)
   rw[d,iW g,lC]
   by_cases c:a< -9223372036854775808+b
   ·rw[iW c,iN];congr 1;omega
   ·rw[jD c,iO,DE (by omega) (by omega)];congr 1;omega
  ·rw[jD g,mA,iO,DE (by omega) (by omega)];congr 1;omega
def ZX (n:Int):AD (Jx n):=by unfold Jx AD;omega
def ZY {n:Int}(h:AD n):Jx n=n:=by obtain⟨a,b⟩:=h;unfold Jx;omega
def pt (v n d:Int):Int:=(Xm v n d).1
def Lx {N:Nat}(a:18446744073709551616<N) (v n d:Int):Gz N v n d=some (pt v n d):=by
 unfold Gz pt
 rw[NW a,iM]
 unfold Xm
 split<;>rfl
def Rv {N:Nat}(a:18446744073709551616<N) (v n d:Int):Im N v n d=some (pt v n d):=by
 unfold Im pt
 rw[NW a,iM]
 unfold Xm
 split<;>rfl
def OR {v n d:Int}(b:0≤v∧v≤1125899906842624) (c:0≤n) (a:n≤d) (hd:d≤1125899906842624):pt v n d=v*n/d:=by
 have:=Mq (t:=v) (n:=n) (d:=d) (by omega) a b.1
 unfold pt Xm
 by_cases h:1≤d
 ·rw[iR ⟨b,⟨c,by omega⟩,⟨h,hd⟩,by omega⟩]
 ·have e:d=0:=by omega
  rw[iP (λg=>h g.2.2.1.1),e]
  simp
def Jk (v n d:Int):0≤pt v n d∧pt v n d≤1125899906842624:=by
 unfold pt Xm
 split
 ·rename_i h
  exact⟨Mp (by omega) h.2.1.1 h.1.1,h.2.2.2⟩
 ·exact⟨by decide,by decide⟩
structure Sz (n d s:Int):Prop where
 n0:0≤n
 nd:n≤d
 dm:d≤1125899906842624
 s0:0≤s
 sl:n*1099511627776≤s*d
def Sz.lip {n d s:Int}(h:Sz n d s) {u v:Int}(b:0≤u) (a:u≤v) (c:v≤1125899906842624):pt u n d≤pt v n d∧pt v n d≤v∧(pt v n d-pt u n d-1)*1099511627776≤s*(v-u):=by
 have h0:=h.n0
 have g:=h.nd
 rw[OR ⟨b,by omega⟩ h.n0 h.nd h.dm,OR ⟨by omega,c⟩ h.n0 h.nd h.dm]
 refine⟨Nh (by omega) h0 a,Mq (by omega) g (by omega),?_⟩
 by_cases hd:0<d
 ·exact TQ hd h.sl a
 ·have:d=0:=by omega
  subst this
  have:=lR h.s0 (show 0≤v-u by omega)
  simp
  omega
def Zq {y z p P:Int}(h0:0≤p) (b:p≤P) (d:y≤z):z*p/P≤y*p/P+(z-y):=by
 by_cases c:0<P
 ·have:z*p≤y*p+(z-y)*P:=by
   have:=lM b (show 0≤z-y by omega)
   grind
  have a:=Int.ediv_le_ediv c this
  rw[Int.add_mul_ediv_right _ _ (by omega)] at a
  exact a
 ·have:P=0:=by omega
  subst this
  simp
  omega
def PT {y p q P:Int}(h0:0≤y) (a:p≤q) (b:0≤P):y*p/P≤y*q/P:=by
 rcases Int.lt_or_eq_of_le b with h|h
 ·exact Int.ediv_le_ediv h (lM a h0)
 ·rw[←h];simp
structure Sv (N:Nat) (l:A7) (s t:Int):Prop where
 s0:0≤s
 t0:0≤t
 gate:l.C=0→C1 l.Af∧C1 l.U.B∧C1 l.U.A∧EC N l.U.B l.Af=some true∧EC N l.Af l.U.A=some true∧(0≤l.Q∧l.Q≤64)∧(0≤l.Ad∧l.Ad≤1125899906842624)∧bU (Hy l.U.B) s∧(l.E≠ -1→Sz l.Aa l.Y t)
 weir:l.C=1∨l.C=5→Sz l.N l.H s∧(0≤l.O∧l.O≤1125899906842624)
 pump:l.C=2→(0≤l.N∧l.N≤1125899906842624)∧(1≤l.Q∧l.Q≤64)
 siph:l.C=3→Sz l.N l.H s∧(0≤l.Ak∧l.Ak≤1125899906842624)∧(0≤l.Ae∧l.Ae≤1125899906842624)
 seep:l.C=4→Sz l.N l.H s∧Sz l.Aa l.Y t∧l.E≠ -1
 spd:0≤l.Ab∧l.Ab≤l.Q∧l.Q≤64
structure Pv (l:A7) (k:BA):Prop where
 pos:0≤k.P.B∧k.P.B≤k.P.A∧k.P.A≤l.Q
 tgt:0≤k.T∧k.T≤l.Q
 opn:(k.R=⟨0,0⟩)∨((l.C=5∨l.C=3)∧(k.R=⟨1,1⟩∨k.R=⟨0,1⟩))
def JS (l:A7) (fr to:Int):Int:=if l.E= -1 then fr else max 0 (fr-pt to l.Aa l.Y)
def Uw {N:Nat}(a:18446744073709551616<N) (l:A7) {fr to:Int}(b:0≤fr∧fr≤1125899906842624):JT N l fr to=some (JS l fr to):=by
 unfold JT JS
 by_cases h:l.E= -1
 ·rw[iW h,iN,iR h]
 ·have:=Jk to l.Aa l.Y
  rw[jD h,iO,iP h,Lx a,iM,I6 N (by omega) (by omega) (by omega) (by omega),iM]
def Lw (l:A7) {fr:Int}(to:Int) (a:0≤fr∧fr≤1125899906842624):0≤JS l fr to∧JS l fr to≤1125899906842624:=by
 have:=Jk to l.Aa l.Y
 unfold JS
 split<;>omega
def Ux (l:A7) {u v to:Int}(h:u≤v):JS l u to≤JS l v to∧JS l v to-JS l u to≤v-u:=by
 unfold JS
 split<;>omega
def SD {N:Nat}{l:A7}{s t:Int}(d:Sv N l s t) (h0:l.C=0) {fr a b:Int}(g:0≤a) (c:a≤b) (i:b≤1125899906842624):JS l fr b≤JS l fr a:=by
 unfold JS
 by_cases h:l.E= -1
 ·rw[iR h,iR h];exact kG _
 ·rw[iP h,iP h]
  have:=((d.gate h0).2.2.2.2.2.2.2.2 h).lip g c i
  omega
def UR {N:Nat}(g:18446744073709551616<N) {l:A7}(h0:l.C=0) {c:List BC}(i:C1 c) (s:0≤l.Q∧l.Q≤64) (u:0≤l.Ad∧l.Ad≤1125899906842624) {pos fr to:Int}(a:0≤pos∧pos≤l.Q) (o:Bool) (j:0≤fr∧fr≤1125899906842624):
  ∃k p q,Rk (Hy c) (JS l fr to) k p q∧HY N l pos o c fr to=some (Gi p q (JS l fr to)*pos/l.Q+l.Ad):=by
 obtain⟨k,p,q,m,e⟩:=OI g i (Lw l to j)
 refine⟨k,p,q,m,?_⟩
 have b:=NC i m
 unfold Gh at b
 unfold HY Iu
 rw[iW h0,iN,Uw g l j,iM,e,iM,Lx g,OR b a.1 a.2 (by omega),iM]
 have:=Mq (t:=Gi p q (JS l fr to)) (n:=pos) (d:=l.Q) (by omega) a.2 b.1
 have:=Mp (t:=Gi p q (JS l fr to)) (n:=pos) (d:=l.Q) (by omega) a.1 b.1
 rw[OK N (by omega) (by omega) (by omega) (by omega),iM]
structure OZ (s u v:Int) (a c:AH):Prop where
 lo:0≤a.B
 hi:0≤a.A∧a.A≤4503599627370496
 lo2:0≤c.B∧c.B≤4503599627370496
 hi2:c.A≤4503599627370496
 le:a.B≤c.A
 lip:(c.B-a.A-1)*1099511627776≤s*(v-u)
def Xs {l:A7}{k:BA}(h:Pv l k):decide (1≤k.R.B)=true→decide (1≤k.R.A)=true:=by
 rcases h.opn with e|⟨_,e|e⟩<;>rw[e]<;>decide
def Sg {N:Nat}(g:18446744073709551616<N) {l:A7}{s t:Int}(G:Sv N l s t) (h0:l.C=0) {k:BA}(hk:Pv l k) {to:AH}(o:0≤to.B∧to.B≤to.A∧to.A≤1125899906842624) {u v:Int}(hu:0≤u) (K:u≤v) (hv:v≤1125899906842624):
  ∃a c,Eg N l k ⟨u,u⟩ to=some a∧Eg N l k ⟨v,v⟩ to=some c∧OZ s u v a c:=by
 obtain⟨p,j,m,u1,u2,x,H,hS,hB⟩:=G.gate h0
 have hp:=hk.pos
 have b:0≤k.P.B∧k.P.B≤l.Q:=by omega
 have d:0≤k.P.A∧k.P.A≤l.Q:=by omega
 obtain⟨_,p1,q1,s1,e1⟩:=UR g h0 j x H b (decide (1≤k.R.B)) (to:=to.A) (show 0≤u∧u≤1125899906842624 by omega)
 obtain⟨_,p2,q2,s2,e2⟩:=UR g h0 m x H d (decide (1≤k.R.A)) (to:=to.B) (show 0≤u∧u≤1125899906842624 by omega)
 obtain⟨_,p3,q3,s3,e3⟩:=UR g h0 j x H b (decide (1≤k.R.B)) (to:=to.A) (show 0≤v∧v≤1125899906842624 by omega)
 obtain⟨_,p4,q4,s4,e4⟩:=UR g h0 m x H d (decide (1≤k.R.A)) (to:=to.B) (show 0≤v∧v≤1125899906842624 by omega)
 refine⟨⟨_,_⟩,⟨_,_⟩,by unfold Eg;rw[e1,iM,e2,iM],by unfold Eg;rw[e3,iM,e4,iM],?_⟩
 have M:=Jq j
 have i3:=Jq m
 have v1:=NC j s1
 have U:=NC m s2
 have V:=NC j s3
 have W:=NC m s4
 unfold Gh at v1 U V W
 have z:=Lw l to.B (show 0≤u∧u≤1125899906842624 by omega)
 have X:=Lw l to.B (show 0≤v∧v≤1125899906842624 by omega)
 obtain⟨_,p5,q5,I,_⟩:=OI g j z
 obtain⟨_,p6,q6,J,_⟩:=OI g j X
 obtain⟨_,p7,q7,s7,_⟩:=OI g p z
 obtain⟨_,p8,q8,s8,_⟩:=OI g p (Lw l to.A (show 0≤u∧u≤1125899906842624 by omega))
 obtain⟨_,p9,q9,s9,_⟩:=OI g m (Lw l to.A (show 0≤u∧u≤1125899906842624 by omega))
 have b1:=NL g j p u1 I s7
 have b2:=NL g p m u2 s7 s2
 have b3:=NL g j p u1 s1 s8
 have b4:=NL g p m u2 s8 s9
 have hd:=Ux l (to:=to.B) K
 have Y:=SD G h0 (fr:=v) o.1 o.2.1 o.2.2
 have aa:=SD G h0 (fr:=u) o.1 o.2.1 o.2.2
 have m1:=s3.mono M J Y
 have m2:=I.mono M J hd.1
 have m3:=s9.mono i3 s4 (by omega)
 have L:=I.lip M hS J hd.1
 have v5:=NC j I
 have v6:=NC j J
 unfold Gh at v5 v6
 have hs:=lM hd.2 G.s0
 generalize Gi p1 q1 _=D at*
 generalize Gi p2 q2 _=q at*
 generalize Gi p3 q3 _=w at*
 generalize Gi p4 q4 _=F at*
 generalize Gi p5 q5 _=y5 at*
 generalize Gi p6 q6 _=Z at*
 generalize Gi p9 q9 _=y9 at*
 have i:=x.1
 have r1:=Mq (t:=D) (n:=k.P.B) i b.2 v1.1
 have r2:=Mq (t:=q) (n:=k.P.A) i d.2 U.1
 have r3:=Mq (t:=w) (n:=k.P.B) i b.2 V.1
 have r4:=Mq (t:=F) (n:=k.P.A) i d.2 W.1
 have n1:=Mp (t:=D) i b.1 v1.1
 have n2:=Mp (t:=q) i d.1 U.1
 have n3:=Mp (t:=w) i b.1 V.1
 have w1:=Nh (t:=w) (t':=Z) i b.1 m1
 have w2:=PT (y:=Z) v6.1 hp.2.1 i
 have w3:=Zq d.1 d.2 m2
 have w4:=Nh (t:=y5) (t':=q) i d.1 (by omega)
 have w5:=Nh (t:=D) (t':=F) i b.1 (by omega)
 have w6:=PT (y:=F) W.1 hp.2.1 i
 refine⟨by show 0≤D*k.P.B/l.Q+l.Ad;omega,⟨by show 0≤q*k.P.A/l.Q+l.Ad;omega,by show q*k.P.A/l.Q+l.Ad≤_;omega⟩,⟨by show 0≤w*k.P.B/l.Q+l.Ad;omega,by show w*k.P.B/l.Q+l.Ad≤_;omega⟩,by show F*k.P.A/l.Q+l.Ad≤_;omega,by show D*k.P.B/l.Q+l.Ad≤F*k.P.A/l.Q+l.Ad;omega,?_⟩
 show(w*k.P.B/l.Q+l.Ad-(q*k.P.A/l.Q+l.Ad)-1)*1099511627776≤s*(v-u)
 refine kR (jT (show _≤Z-y5-1 by omega) (by decide)) (kR L hs)
def Tp {n d s:Int}(h:Sz n d s) {u v x y:Int}(c:0≤x) (a:x≤y) (g:y≤1125899906842624) (hd:y-x≤v-u):pt x n d≤pt y n d∧(pt y n d-pt x n d-1)*1099511627776≤s*(v-u):=by
 have b:=h.lip c a g
 exact⟨b.1,kR b.2.2 (lM hd h.s0)⟩
def Ot {s D x:Int}(a:0≤s) (b:0≤D) (c:x≤1):(x-1)*1099511627776≤s*D:=by
 have:=lR a b
 omega
def U4 {N:Nat}(J:18446744073709551616<N) {l:A7}{s t:Int}(z:Sv N l s t) (ad:l.C=0∨l.C=1∨l.C=2∨l.C=3∨l.C=5) {k:BA}(X:Pv l k) {to:AH}(ht:0≤to.B∧to.B≤to.A∧to.A≤1125899906842624) {u v:Int}(K:0≤u) (D:u≤v) (M:v≤1125899906842624):
  ∃a c,Eg N l k ⟨u,u⟩ to=some a∧Eg N l k ⟨v,v⟩ to=some c∧OZ s u v a c:=by
 have p:=Xs X
 have F:=X.pos
 have U:=z.s0
 by_cases h0:l.C=0
 ·exact Sg J z h0 X ht K D M
 have g0:∀j o c fr G,HY N l j o c fr G=cond (decide (l.C=2)) (H5 N l j) (cond (decide (l.C=3)) (H6 N l o fr (F4 N)) (cond (decide (l.C=5)) (H7 N o (Fg N l fr)) (cond (decide (l.C=1)) (Fg N l fr) (F4 N)))):=by
  intro j o c fr G
  unfold HY
  rw[jD h0,iO]
 unfold Eg
 simp only[g0]
 by_cases Y:l.C=2
 ·obtain⟨q,p2⟩:=z.pump Y
  simp only[iW Y,iN,H5,Lx J,iM]
  refine⟨_,_,rfl,rfl,?_⟩
  rw[OR q F.1 (by omega) (by omega),OR q (by omega) F.2.2 (by omega)]
  have r1:=Mq (t:=l.N) (n:=k.P.B) (d:=l.Q) (by omega) (by omega) q.1
  have r2:=Mq (t:=l.N) (n:=k.P.A) (d:=l.Q) (by omega) F.2.2 q.1
  have n1:=Mp (t:=l.N) (n:=k.P.B) (d:=l.Q) (by omega) F.1 q.1
  have w:=PT (y:=l.N) (P:=l.Q) q.1 F.2.1 (by omega)
  generalize l.N*k.P.B/l.Q=y1 at*
  generalize l.N*k.P.A/l.Q=V at*
  exact⟨n1,⟨by show 0≤V;omega,by show V≤_;omega⟩,⟨n1,by show y1≤_;omega⟩,by show V≤_;omega,w,Ot U (by omega) (by show y1-V≤1;omega)⟩
 ·simp only[jD Y,iO]
  have W:Sz l.N l.H s→0≤l.O→l.O≤1125899906842624→∀x,0≤x→x≤1125899906842624→Fg N l x=some (pt (max 0 (x-l.O)) l.N l.H):=by
   intro i b g x ae af
   unfold Fg
   rw[I6 N (by omega) (by omega) (by omega) (by omega),iM,Lx J,iM]
  have I:=Jk (max 0 (u-l.O)) l.N l.H
  have Z:=Jk (max 0 (v-l.O)) l.N l.H
  have i3:=Jk u l.N l.H
  have i4:=Jk v l.N l.H
  have z0:OZ s u v ⟨0,0⟩ ⟨0,0⟩:=⟨by decide,⟨by decide,by decide⟩,⟨by decide,by decide⟩,by decide,by decide,Ot U (by omega) (by decide)⟩
  by_cases h3:l.C=3
  ·obtain⟨i,_,_⟩:=z.siph h3
   obtain⟨m,L⟩:=Tp i (u:=u) (v:=v) K D M (kG _)
   simp only[iW h3,iN,H6,F4,Lx J,iM]
   generalize aa:decide (1≤k.R.B)=ol at p ⊢
   generalize ab:decide (1≤k.R.A)=oh at p ⊢
   generalize pt u l.N l.H=x at*
   generalize pt v l.N l.H=y at*
   cases ol<;>cases oh
   ·exact⟨_,_,rfl,rfl,z0⟩
   ·exact⟨_,_,rfl,rfl,(show(0:Int)≤0 by decide),⟨i3.1,by show x≤_;omega⟩,⟨(show(0:Int)≤0 by decide),(show(0:Int)≤4503599627370496 by decide)⟩,by show y≤_;omega,i4.1,Ot U (by omega) (by show 0-x≤1;omega)⟩
   ·exact absurd (p rfl) (by decide)
   ·exact⟨_,_,rfl,rfl,i3.1,⟨i3.1,by show x≤_;omega⟩,⟨i4.1,by show y≤_;omega⟩,by show y≤_;omega,m,L⟩
  ·simp only[jD h3,iO]
   have ac:l.C=1∨l.C=5:=by omega
   obtain⟨i,b,g⟩:=z.weir ac
   obtain⟨m,L⟩:=Tp i (u:=u) (v:=v) (x:=max 0 (u-l.O)) (y:=max 0 (v-l.O)) (by omega) (by omega) (by omega) (by omega)
   by_cases h5:l.C=5
   ·simp only[iW h5,iN,H7,W i b g u K (by omega),W i b g v (by omega) M]
    generalize aa:decide (1≤k.R.B)=ol at p ⊢
    generalize ab:decide (1≤k.R.A)=oh at p ⊢
    generalize pt _ l.N l.H=x at*
    generalize pt _ l.N l.H=y at*
    cases ol<;>cases oh
    ·exact⟨_,_,rfl,rfl,z0⟩
    ·exact⟨_,_,rfl,rfl,(show(0:Int)≤0 by decide),⟨I.1,by show x≤_;omega⟩,⟨(show(0:Int)≤0 by decide),(show(0:Int)≤4503599627370496 by decide)⟩,by show y≤_;omega,Z.1,Ot U (by omega) (by show 0-x≤1;omega)⟩
    ·exact absurd (p rfl) (by decide)
    ·exact⟨_,_,rfl,rfl,I.1,⟨I.1,by show x≤_;omega⟩,⟨Z.1,by show y≤_;omega⟩,by show y≤_;omega,m,L⟩
   ·simp only[jD h5,iO,iW (show l.C=1 by omega),iN,W i b g u K (by omega),W i b g v (by omega) M,iM]
    generalize pt _ l.N l.H=x at*
    generalize pt _ l.N l.H=y at*
    exact⟨_,_,rfl,rfl,I.1,⟨I.1,by show x≤_;omega⟩,⟨Z.1,by show y≤_;omega⟩,by show y≤_;omega,m,L⟩
end Go.Proofs.YtibidnaedddfdaaGreat
