import Derived.Test.YtibidnaedddfdaaGreatEPureCurve
namespace Go.Proofs.YtibidnaedddfdaaGreat
set_option linter.all false
open Go.RowKit
def H4 (n:Int):Int:=max (-9223372036854775808) (min 9223372036854775807 n)
def TV (N:Nat) {a b:Int}(i:AA a) (j:AA b):Es N a b=some (H4 (a+b)):=by
 obtain⟨k,l⟩:=i;obtain⟨m,n⟩:=j;unfold Es H4;by_cases h:0<b
 ·have d:BR (9223372036854775807-b)=9223372036854775807-b:=CT (by omega) (by omega);rw[d,uK h,wW];by_cases c:9223372036854775807-b<a
  ·rw[uK c,uG];congr 1;omega
  ·rw[uM c,uH,uM (show ¬b<0 by omega),xJ,uH,CT (by omega) (by omega)];congr 1;omega
 ·rw[uM h,xJ,uH];by_cases g:b<0
  ·have d:BR (-9223372036854775808-b)= -9223372036854775808-b:=CT (by omega) (by omega);rw[d,uK g,wW];by_cases c:a< -9223372036854775808-b
   ·rw[uK c,uG];congr 1;omega
   ·rw[uM c,uH,CT (by omega) (by omega)];congr 1;omega
  ·rw[uM g,xJ,uH,CT (by omega) (by omega)];congr 1;omega
def sU (N:Nat) {a b:Int}(i:AA a) (j:AA b):Dq N a b=some (H4 (a-b)):=by
 obtain⟨k,l⟩:=i;obtain⟨m,n⟩:=j;unfold Dq H4;by_cases h:b<0
 ·have d:BR (9223372036854775807+b)=9223372036854775807+b:=CT (by omega) (by omega);rw[d,uK h,wW];by_cases c:9223372036854775807+b<a
  ·rw[uK c,uG];congr 1;omega
  ·rw[uM c,uH,uM (show ¬0<b by omega),xJ,uH,CT (by omega) (by omega)];congr 1;omega
 ·rw[uM h,xJ,uH];by_cases g:0<b
  ·have d:BR (-9223372036854775808+b)= -9223372036854775808+b:=CT (by omega) (by omega);rw[d,uK g,wW];by_cases c:a< -9223372036854775808+b
   ·rw[uK c,uG];congr 1;omega
   ·rw[uM c,uH,CT (by omega) (by omega)];congr 1;omega
  ·rw[uM g,xJ,uH,CT (by omega) (by omega)];congr 1;omega
def Ua (n:Int):AA (H4 n):=by unfold H4 AA;omega
def iT {n:Int}(h:AA n):H4 n=n:=by obtain⟨a,b⟩:=h;unfold H4;omega
def pt (v n d:Int):Int:=(cR v n d).1
def M3 {N:Nat}(a:18446744073709551616<N) (v n d:Int):IT N v n d=some (pt v n d):=by
 unfold IT pt;rw[K8 a,uF];unfold cR;split<;>rfl
def Sn {N:Nat}(a:18446744073709551616<N) (v n d:Int):Kl N v n d=some (pt v n d):=by
 unfold Kl pt;rw[K8 a,uF];unfold cR;split<;>rfl
def Ry {v n d:Int}(b:0≤v∧v≤1125899906842624) (c:0≤n) (a:n≤d) (hd:d≤1125899906842624):pt v n d=v*n/d:=by
 have:=QA (t:=v) (n:=n) (d:=d) (by omega) a b.1;unfold pt cR;by_cases h:1≤d
 ·rw[uJ ⟨b,⟨c,by omega⟩,⟨h,hd⟩,by omega⟩]
 ·have e:d=0:=by omega
  rw[uI (λg=>h g.2.2.1.1),e];simp
def MH (v n d:Int):0≤pt v n d∧pt v n d≤1125899906842624:=by
 unfold pt cR;split
 ·rename_i h;exact⟨OR (by omega) h.2.1.1 h.1.1,h.2.2.2⟩
 ·exact⟨by decide,by decide⟩
structure WN (n d s:Int):Prop where
 n0:0≤n
 nd:n≤d
 dm:d≤1125899906842624
 s0:0≤s
 sl:n*1099511627776≤s*d
def WN.lip {n d s:Int}(h:WN n d s) {u v:Int}(b:0≤u) (a:u≤v) (c:v≤1125899906842624):pt u n d≤pt v n d∧pt v n d≤v∧(pt v n d-pt u n d-1)*1099511627776≤s*(v-u):=by
 have h0:=h.n0;have g:=h.nd;rw[Ry ⟨b,by omega⟩ h.n0 h.nd h.dm,Ry ⟨by omega,c⟩ h.n0 h.nd h.dm];refine⟨Q3 (by omega) h0 a,QA (by omega) g (by omega),?_⟩;by_cases hd:0<d
 ·exact Wh hd h.sl a
 ·have:d=0:=by omega
  subst this;have:=yC h.s0 (show 0≤v-u by omega);simp;omega
def kC {y z p P:Int}(h0:0≤p) (b:p≤P) (d:y≤z):z*p/P≤y*p/P+(z-y):=by
 by_cases c:0<P
 ·have:z*p≤y*p+(z-y)*P:=by
   have:=xA b (show 0≤z-y by omega);grind
  have a:=Int.ediv_le_ediv c this;rw[Int.add_mul_ediv_right _ _ (by omega)] at a;exact a
 ·have:P=0:=by omega
  subst this;simp;omega
def TF {y p q P:Int}(h0:0≤y) (a:p≤q) (b:0≤P):y*p/P≤y*q/P:=by
 rcases Int.lt_or_eq_of_le b with h|h
 ·exact Int.ediv_le_ediv h (xA a h0)
 ·rw[←h];simp
structure VB (N:Nat) (l:AO) (s t:Int):Prop where
 s0:0≤s
 t0:0≤t
 gate:l.F=0→Cp l.Av∧Cp l.Ac.B∧Cp l.Ac.A∧Fe N l.Ac.B l.Av=some true∧Fe N l.Av l.Ac.A=some true∧(0≤l.Y∧l.Y≤64)∧(0≤l.Az∧l.Az≤1125899906842624)∧nL (J0 l.Ac.B) s∧(l.C≠ -1→WN l.Ak l.Af t)
 weir:l.F=1∨l.F=5→WN l.V l.Q s∧(0≤l.Au∧l.Au≤1125899906842624)
 pump:l.F=2→(0≤l.V∧l.V≤1125899906842624)∧(1≤l.Y∧l.Y≤64)
 siph:l.F=3→WN l.V l.Q s∧(0≤l.Ae∧l.Ae≤1125899906842624)∧(0≤l.Aa∧l.Aa≤1125899906842624)
 seep:l.F=4→WN l.V l.Q s∧WN l.Ak l.Af t∧l.C≠ -1
 spd:0≤l.An∧l.An≤l.Y∧l.Y≤64
structure Td (l:AO) (k:AH):Prop where
 pos:0≤k.U.B∧k.U.B≤k.U.A∧k.U.A≤l.Y
 tgt:0≤k.W∧k.W≤l.Y
 opn:(k.R=⟨0,0⟩)∨((l.F=5∨l.F=3)∧(k.R=⟨1,1⟩∨k.R=⟨0,1⟩))
def Lf (l:AO) (fr to:Int):Int:=if l.C= -1 then fr else max 0 (fr-pt to l.Ak l.Af)
def UB {N:Nat}(a:18446744073709551616<N) (l:AO) {fr to:Int}(b:0≤fr∧fr≤1125899906842624):MI N l fr to=some (Lf l fr to):=by
 unfold MI Lf;by_cases h:l.C= -1
 ·rw[uK h,uG,uJ h]
 ·have:=MH to l.Ak l.Af;rw[uM h,uH,uI h,M3 a,uF,KY N (by omega) (by omega) (by omega) (by omega),uF]
def Nt (l:AO) {fr:Int}(to:Int) (a:0≤fr∧fr≤1125899906842624):0≤Lf l fr to∧Lf l fr to≤1125899906842624:=by
 have:=MH to l.Ak l.Af;unfold Lf;split<;>omega
def Yr (l:AO) {u v to:Int}(h:u≤v):Lf l u to≤Lf l v to∧Lf l v to-Lf l u to≤v-u:=by
 unfold Lf;split<;>omega
def Vu {N:Nat}{l:AO}{s t:Int}(d:VB N l s t) (h0:l.F=0) {fr a b:Int}(g:0≤a) (c:a≤b) (i:b≤1125899906842624):Lf l fr b≤Lf l fr a:=by
 unfold Lf;by_cases h:l.C= -1
 ·rw[uJ h,uJ h];exact vZ _
 ·rw[uI h,uI h];have:=((d.gate h0).2.2.2.2.2.2.2.2 h).lip g c i;omega
def Xt {N:Nat}(g:18446744073709551616<N) {l:AO}(h0:l.F=0) {c:List AV}(i:Cp c) (s:0≤l.Y∧l.Y≤64) (u:0≤l.Az∧l.Az≤1125899906842624) {pos fr to:Int}(a:0≤pos∧pos≤l.Y) (o:Bool) (j:0≤fr∧fr≤1125899906842624):
  ∃k p q,UM (J0 c) (Lf l fr to) k p q∧JI N l pos o c fr to=some (H9 p q (Lf l fr to)*pos/l.Y+l.Az):=by
 obtain⟨k,p,q,m,e⟩:=PZ g i (Nt l to j);refine⟨k,p,q,m,?_⟩;have b:=PY i m;unfold JK at b;unfold JI Ko;rw[uK h0,uG,UB g l j,uF,e,uF,M3 g,Ry b a.1 a.2 (by omega),uF];have:=QA (t:=H9 p q (Lf l fr to)) (n:=pos) (d:=l.Y) (by omega) a.2 b.1;have:=OR (t:=H9 p q (Lf l fr to)) (n:=pos) (d:=l.Y) (by omega) a.1 b.1;rw[L9 N (by omega) (by omega) (by omega) (by omega),uF]
structure SA (s u v:Int) (a c:AB):Prop where
 lo:0≤a.B
 hi:0≤a.A∧a.A≤4503599627370496
 lo2:0≤c.B∧c.B≤4503599627370496
 hi2:c.A≤4503599627370496
 le:a.B≤c.A
 lip:(c.B-a.A-1)*1099511627776≤s*(v-u)
def dQ {l:AO}{k:AH}(h:Td l k):decide (1≤k.R.B)=true→decide (1≤k.R.A)=true:=by
 rcases h.opn with e|⟨_,e|e⟩<;>rw[e]<;>decide
def WA {N:Nat}(g:18446744073709551616<N) {l:AO}{s t:Int}(G:VB N l s t) (h0:l.F=0) {k:AH}(hk:Td l k) {to:AB}(o:0≤to.B∧to.B≤to.A∧to.A≤1125899906842624) {u v:Int}(hu:0≤u) (K:u≤v) (hv:v≤1125899906842624):
  ∃a c,E4 N l k ⟨u,u⟩ to=some a∧E4 N l k ⟨v,v⟩ to=some c∧SA s u v a c:=by
 obtain⟨p,j,m,u1,u2,x,H,hS,hB⟩:=G.gate h0;have hp:=hk.pos;have b:0≤k.U.B∧k.U.B≤l.Y:=by omega
 have d:0≤k.U.A∧k.U.A≤l.Y:=by omega
 obtain⟨_,p1,q1,s1,e1⟩:=Xt g h0 j x H b (decide (1≤k.R.B)) (to:=to.A) (show 0≤u∧u≤1125899906842624 by omega);obtain⟨_,p2,q2,s2,e2⟩:=Xt g h0 m x H d (decide (1≤k.R.A)) (to:=to.B) (show 0≤u∧u≤1125899906842624 by omega);obtain⟨_,p3,q3,s3,e3⟩:=Xt g h0 j x H b (decide (1≤k.R.B)) (to:=to.A) (show 0≤v∧v≤1125899906842624 by omega);obtain⟨_,p4,q4,s4,e4⟩:=Xt g h0 m x H d (decide (1≤k.R.A)) (to:=to.B) (show 0≤v∧v≤1125899906842624 by omega);refine⟨⟨_,_⟩,⟨_,_⟩,by unfold E4;rw[e1,uF,e2,uF],by unfold E4;rw[e3,uF,e4,uF],?_⟩;have M:=LN j;have i3:=LN m;have Q:=PY j s1;have V:=PY m s2;have W:=PY j s3;have X:=PY m s4;unfold JK at Q V W X;have z:=Nt l to.B (show 0≤u∧u≤1125899906842624 by omega);have Z:=Nt l to.B (show 0≤v∧v≤1125899906842624 by omega);obtain⟨_,p5,q5,I,_⟩:=PZ g j z;obtain⟨_,p6,q6,J,_⟩:=PZ g j Z;obtain⟨_,p7,q7,s7,_⟩:=PZ g p z;obtain⟨_,p8,q8,s8,_⟩:=PZ g p (Nt l to.A (show 0≤u∧u≤1125899906842624 by omega));obtain⟨_,p9,q9,s9,_⟩:=PZ g m (Nt l to.A (show 0≤u∧u≤1125899906842624 by omega));have b1:=Qk g j p u1 I s7;have b2:=Qk g p m u2 s7 s2;have b3:=Qk g j p u1 s1 s8;have b4:=Qk g p m u2 s8 s9;have hd:=Yr l (to:=to.B) K;have aa:=Vu G h0 (fr:=v) o.1 o.2.1 o.2.2;have ab:=Vu G h0 (fr:=u) o.1 o.2.1 o.2.2;have m1:=s3.mono M J aa;have m2:=I.mono M J hd.1;have m3:=s9.mono i3 s4 (by omega);have L:=I.lip M hS J hd.1;have v5:=PY j I;have v6:=PY j J;unfold JK at v5 v6;have hs:=xA hd.2 G.s0;generalize H9 p1 q1 _=C at*
 generalize H9 p2 q2 _=q at*
 generalize H9 p3 q3 _=w at*
 generalize H9 p4 q4 _=D at*
 generalize H9 p5 q5 _=y5 at*
 generalize H9 p6 q6 _=y6 at*
 generalize H9 p9 q9 _=y9 at*
 have i:=x.1;have r1:=QA (t:=C) (n:=k.U.B) i b.2 Q.1;have r2:=QA (t:=q) (n:=k.U.A) i d.2 V.1;have r3:=QA (t:=w) (n:=k.U.B) i b.2 W.1;have r4:=QA (t:=D) (n:=k.U.A) i d.2 X.1;have n1:=OR (t:=C) i b.1 Q.1;have n2:=OR (t:=q) i d.1 V.1;have n3:=OR (t:=w) i b.1 W.1;have w1:=Q3 (t:=w) (t':=y6) i b.1 m1;have w2:=TF (y:=y6) v6.1 hp.2.1 i;have w3:=kC d.1 d.2 m2;have w4:=Q3 (t:=y5) (t':=q) i d.1 (by omega);have w5:=Q3 (t:=C) (t':=D) i b.1 (by omega);have w6:=TF (y:=D) X.1 hp.2.1 i;refine⟨by show 0≤C*k.U.B/l.Y+l.Az;omega,⟨by show 0≤q*k.U.A/l.Y+l.Az;omega,by show q*k.U.A/l.Y+l.Az≤_;omega⟩,⟨by show 0≤w*k.U.B/l.Y+l.Az;omega,by show w*k.U.B/l.Y+l.Az≤_;omega⟩,by show D*k.U.A/l.Y+l.Az≤_;omega,by show C*k.U.B/l.Y+l.Az≤D*k.U.A/l.Y+l.Az;omega,?_⟩;show(w*k.U.B/l.Y+l.Az-(q*k.U.A/l.Y+l.Az)-1)*1099511627776≤s*(v-u)
 refine wT (vT (show _≤y6-y5-1 by omega) (by decide)) (wT L hs)
def XG {n d s:Int}(h:WN n d s) {u v x y:Int}(c:0≤x) (a:x≤y) (g:y≤1125899906842624) (hd:y-x≤v-u):pt x n d≤pt y n d∧(pt y n d-pt x n d-1)*1099511627776≤s*(v-u):=by
 have b:=h.lip c a g;exact⟨b.1,wT b.2.2 (xA hd h.s0)⟩
def SY {s D x:Int}(a:0≤s) (b:0≤D) (c:x≤1):(x-1)*1099511627776≤s*D:=by
 have:=yC a b;omega
def Yz {N:Nat}(I:18446744073709551616<N) {l:AO}{s t:Int}(z:VB N l s t) (ad:l.F=0∨l.F=1∨l.F=2∨l.F=3∨l.F=5) {k:AH}(Z:Td l k) {to:AB}(ht:0≤to.B∧to.B≤to.A∧to.A≤1125899906842624) {u v:Int}(J:0≤u) (C:u≤v) (K:v≤1125899906842624):
  ∃a c,E4 N l k ⟨u,u⟩ to=some a∧E4 N l k ⟨v,v⟩ to=some c∧SA s u v a c:=by
 have p:=dQ Z;have D:=Z.pos;have M:=z.s0;by_cases h0:l.F=0
 ·exact WA I z h0 Z ht J C K
 have g0:∀j o c fr G,JI N l j o c fr G=cond (decide (l.F=2)) (J7 N l j) (cond (decide (l.F=3)) (J8 N l o fr (IU N)) (cond (decide (l.F=5)) (J9 N o (GM N l fr)) (cond (decide (l.F=1)) (GM N l fr) (IU N)))):=by
  intro j o c fr G;unfold JI;rw[uM h0,uH]
 unfold E4;simp only[g0];by_cases h2:l.F=2
 ·obtain⟨q,p2⟩:=z.pump h2;simp only[uK h2,uG,J7,M3 I,uF];refine⟨_,_,rfl,rfl,?_⟩;rw[Ry q D.1 (by omega) (by omega),Ry q (by omega) D.2.2 (by omega)];have r1:=QA (t:=l.V) (n:=k.U.B) (d:=l.Y) (by omega) (by omega) q.1;have r2:=QA (t:=l.V) (n:=k.U.A) (d:=l.Y) (by omega) D.2.2 q.1;have n1:=OR (t:=l.V) (n:=k.U.B) (d:=l.Y) (by omega) D.1 q.1;have w:=TF (y:=l.V) (P:=l.Y) q.1 D.2.1 (by omega);generalize l.V*k.U.B/l.Y=y1 at*
  generalize l.V*k.U.A/l.Y=W at*
  exact⟨n1,⟨by show 0≤W;omega,by show W≤_;omega⟩,⟨n1,by show y1≤_;omega⟩,by show W≤_;omega,w,SY M (by omega) (by show y1-W≤1;omega)⟩
 ·simp only[uM h2,uH];have X:WN l.V l.Q s→0≤l.Au→l.Au≤1125899906842624→∀x,0≤x→x≤1125899906842624→GM N l x=some (pt (max 0 (x-l.Au)) l.V l.Q):=by
   intro i b g x ae af;unfold GM;rw[KY N (by omega) (by omega) (by omega) (by omega),uF,M3 I,uF]
  have H:=MH (max 0 (u-l.Au)) l.V l.Q;have i2:=MH (max 0 (v-l.Au)) l.V l.Q;have i3:=MH u l.V l.Q;have i4:=MH v l.V l.Q;have z0:SA s u v ⟨0,0⟩ ⟨0,0⟩:=⟨by decide,⟨by decide,by decide⟩,⟨by decide,by decide⟩,by decide,by decide,SY M (by omega) (by decide)⟩
  by_cases h3:l.F=3
  ·obtain⟨i,_,_⟩:=z.siph h3;obtain⟨m,L⟩:=XG i (u:=u) (v:=v) J C K (vZ _);simp only[uK h3,uG,J8,IU,M3 I,uF];generalize aa:decide (1≤k.R.B)=ol at p ⊢
   generalize ab:decide (1≤k.R.A)=oh at p ⊢
   generalize pt u l.V l.Q=x at*
   generalize pt v l.V l.Q=y at*
   cases ol<;>cases oh
   ·exact⟨_,_,rfl,rfl,z0⟩
   ·exact⟨_,_,rfl,rfl,(show(0:Int)≤0 by decide),⟨i3.1,by show x≤_;omega⟩,⟨(show(0:Int)≤0 by decide),(show(0:Int)≤4503599627370496 by decide)⟩,by show y≤_;omega,i4.1,SY M (by omega) (by show 0-x≤1;omega)⟩
   ·exact absurd (p rfl) (by decide)
   ·exact⟨_,_,rfl,rfl,i3.1,⟨i3.1,by show x≤_;omega⟩,⟨i4.1,by show y≤_;omega⟩,by show y≤_;omega,m,L⟩
  ·simp only[uM h3,uH];have ac:l.F=1∨l.F=5:=by omega
   obtain⟨i,b,g⟩:=z.weir ac;obtain⟨m,L⟩:=XG i (u:=u) (v:=v) (x:=max 0 (u-l.Au)) (y:=max 0 (v-l.Au)) (by omega) (by omega) (by omega) (by omega);by_cases h5:l.F=5
   ·simp only[uK h5,uG,J9,X i b g u J (by omega),X i b g v (by omega) K];generalize aa:decide (1≤k.R.B)=ol at p ⊢
    generalize ab:decide (1≤k.R.A)=oh at p ⊢
    generalize pt _ l.V l.Q=x at*
    generalize pt _ l.V l.Q=y at*
    cases ol<;>cases oh
    ·exact⟨_,_,rfl,rfl,z0⟩
    ·exact⟨_,_,rfl,rfl,(show(0:Int)≤0 by decide),⟨H.1,by show x≤_;omega⟩,⟨(show(0:Int)≤0 by decide),(show(0:Int)≤4503599627370496 by decide)⟩,by show y≤_;omega,i2.1,SY M (by omega) (by show 0-x≤1;omega)⟩
    ·exact absurd (p rfl) (by decide)
    ·exact⟨_,_,rfl,rfl,H.1,⟨H.1,by show x≤_;omega⟩,⟨i2.1,by show y≤_;omega⟩,by show y≤_;omega,m,L⟩
   ·simp only[uM h5,uH,uK (show l.F=1 by omega),uG,X i b g u J (by omega),X i b g v (by omega) K,uF];generalize pt _ l.V l.Q=x at*
    generalize pt _ l.V l.Q=y at*
    exact⟨_,_,rfl,rfl,H.1,⟨H.1,by show x≤_;omega⟩,⟨i2.1,by show y≤_;omega⟩,by show y≤_;omega,m,L⟩
def sl (N:Nat) (a b:Int):Int:=(E6 N a b).getD 0
def slN {b a q r:Nat}(hd:0<a) (g:b≤a) (c:q=b*1099511627776/a) (d:r=b*1099511627776%a):q≤1099511627776∧b*1099511627776=q*a+r∧r<a:=by
 refine⟨?_,by rw[c,d];exact V1 _ _,by rw[d];exact wR _ hd⟩;rw[c];exact Nat.div_le_of_le_mul (by rw[yH a];rw[yH b];exact Nat.mul_le_mul_left _ g)
def He {N:Nat}(m:18446744073709551616<N) {num den:Int}(h0:0≤num∧num≤1125899906842624) (c:0≤den∧den≤1125899906842624):
  E6 N num den=some (sl N num den)∧0≤sl N num den∧sl N num den≤1099511627777∧(sl N num den≤1099511627776→(den=0→num=0)→WN num den (sl N num den))∧(sl N num den≤1099511627776→den≠0→num*1099511627776≤sl N num den*den):=by
 suffices h:∃s,E6 N num den=some s∧0≤s∧s≤1099511627777∧(s≤1099511627776→(den=0→num=0)→WN num den s)∧(s≤1099511627776→den≠0→num*1099511627776≤s*den) by
  obtain⟨s,e,h⟩:=h;have:sl N num den=s:=by unfold sl;rw[e];rfl
  rw[this];exact⟨e,h⟩
 unfold E6;by_cases hd:den=0
 ·rw[uK hd,uG];exact⟨0,rfl,by decide,by decide,λ_ h=>⟨h0.1,by have:=h hd;omega,c.2,by decide,by rw[h hd,hd];decide⟩,λ_ h=>absurd hd h⟩
 ·rw[uM hd,uH];by_cases k:den<num
  ·rw[uK k,uG];exact⟨_,rfl,by decide,by decide,λh=>absurd h (by decide),λh=>absurd h (by decide)⟩
  ·rw[uM k,uH];obtain⟨a,rfl⟩:∃n:Nat,num=n:=⟨num.toNat,by omega⟩
   obtain⟨b,rfl⟩:∃n:Nat,den=n:=⟨den.toNat,by omega⟩
   have d:0<b:=by omega
   have g:a≤b:=by omega
   rw[FH a (by omega),FH b (by omega),show(1099511627776:Int)=((1099511627776:Nat):Int) from rfl,Qv N a 1099511627776 (by omega) (by omega),uF];have i:a*1099511627776/18446744073709551616<b:=by omega
   rw[V2 m _ _ _ (wR _ (by omega)) (by omega) i,←V1 (a*1099511627776) 18446744073709551616,uF];obtain⟨t,o,u⟩:=slN d g rfl rfl;generalize a*1099511627776/b=q at*
   generalize a*1099511627776%b=r at*
   have j:(a:Int)*1099511627776=q*b+r:=by rw[show (1099511627776:Int)=((1099511627776:Nat):Int) from rfl,←xV,o,Int.natCast_add,xV]
   by_cases p:r=0
   ·subst p;rw[show decide (((0:Nat):Int)≠0)=false from rfl,uH];unfold JO;rw[CT (by omega) (by omega)];refine⟨_,rfl,by omega,by omega,λ_ _=>⟨by omega,by omega,c.2,by omega,by rw[j];exact Int.le_of_eq (Int.add_zero _)⟩,λ_ _=>by show(a:Int)*1099511627776≤_;rw[j];exact Int.le_of_eq (Int.add_zero _)⟩
   ·rw[show decide ((r:Int)≠0)=true by simp;omega,uG];unfold JO;rw[show ((q:Int)+1)=((q+1:Nat):Int) from rfl,FH (q+1) (by omega),CT (by omega) (by omega)];have l:(a:Int)*1099511627776≤((q+1:Nat):Int)*b:=by
     rw[j,Int.natCast_add,Int.add_mul];omega
    exact⟨_,rfl,by omega,by omega,λ_ _=>⟨by omega,by omega,c.2,by omega,l⟩,λ_ _=>l⟩
def XX {u:Type}(L:Nat) (f:Nat→Int→Int→Option u) (c:Int→Option u) (I:Nat→Int→Prop) (a:∀n (k:Nat) s,L≤k→f (n+1) s (k:Int)=c s) (b:∀n (k:Nat) s,I k s→k<L→1≤k→∃s',I (k+1) s'∧f (n+1) s (k:Int)=f n s' ((k+1:Nat):Int)):
  ∀n (k:Nat) s,I k s→1≤k→L<n+k→k≤L→∃s',I L s'∧f n s (k:Int)=c s'
 |0,k,s,_,_,h,i=>by omega
 |n+1,k,s,g,j,h,i=>by
  rcases vG k L with d|d
  ·obtain⟨l,m,o⟩:=b n k s g d j;obtain⟨p,q,t⟩:=XX L f c I a b n (k+1) l m (by omega) (by omega) (by omega);exact⟨p,q,o.trans t⟩
  ·have:k=L:=by omega
   subst this;exact⟨s,g,a n k s d⟩
def WG (N:Nat) (c:List AV) (m:Nat) (s:Int):Prop:=∀k l r,k+1<m→c[k]? =some l→c[k+1]? =some r→sl N (r.L-l.L) (r.H-l.H)≤s
def WR {N:Nat}(v:18446744073709551616<N) {c:List AV}(b:Cp c) (g:Int→Option Int) (a:Int) (j:0≤a∧a≤1099511627777):∃s,(a≤s∧s≤1099511627777∧WG N c c.length s)∧Cm N c g N a 1=g s:=by
 have w:=b.1;have C:=b.2.1;refine XX c.length (Cm N c g) g (λk s=>a≤s∧s≤1099511627777∧WG N c k s) (λn k s d=>by
  simp only[Cm];rw[ES d];rfl) (λn k s p d D=>?_) N 1 a ⟨vZ _,j.2,λk l r h=>by omega⟩ (by omega) (by omega) w
 obtain⟨F,G,x⟩:=p;have m:c[k]? =some c[k]:=by simp [d]
 have o:c[k-1]? =some c[k-1]:=by simp
 have I:=b.step o (q:=c[k]) (by rw[show k-1+1=k by omega];exact m);have y:=b.vol m;have z:=b.vol o;unfold JK at y z;simp only[Cm];have A:BR ((k:Int)-1)=((k-1:Nat):Int):=by rw[CT (by omega) (by omega)];omega
 rw[Ei d,uG,A,A9 d,A9 (show k-1<c.length by omega)];simp only[uF,BE (show k<4611686018427387904 by omega)];rw[CT (n:=(c[k]).L-(c[k-1]).L) (by omega) (by omega),CT (n:=(c[k]).H-(c[k-1]).H) (by omega) (by omega)];obtain⟨B,J,K,_⟩:=He v (num:=(c[k]).L-(c[k-1]).L) (den:=(c[k]).H-(c[k-1]).H) (by omega) (by omega);rw[B];refine⟨_,⟨?_,?_,?_⟩,rfl⟩
 ·omega
 ·omega
 ·intro i l r p t u;by_cases e:i+1=k
  ·subst e;cases m.symm.trans u;have:l=c[i+1-1]:=by
    have:=o.symm.trans (show c[i+1-1]? =some l by rw[yW];exact t);exact(uX this).symm
   rw[this];omega
  ·have:=x i l r (by omega) t u;omega
def cQ (N:Nat) (l:AO):Int:=(Gp N [l.Av,l.Ac.B,l.Ac.A]).getD 0
def Sj {N:Nat}(b:18446744073709551616<N) {l:AO}(g:Cp l.Av) (i:Cp l.Ac.B) (j:Cp l.Ac.A):Gp N [l.Av,l.Ac.B,l.Ac.A]=some (cQ N l)∧0≤cQ N l∧cQ N l≤1099511627777∧WG N l.Ac.B l.Ac.B.length (cQ N l):=by
 suffices h:∃s,Gp N [l.Av,l.Ac.B,l.Ac.A]=some s∧0≤s∧s≤1099511627777∧WG N l.Ac.B l.Ac.B.length s by
  obtain⟨s,e,h⟩:=h;have:cQ N l=s:=by unfold cQ;rw[e];rfl
  rw[this];exact⟨e,h⟩
 unfold Gp;obtain⟨M,rfl⟩:∃M,N=M+4:=⟨N-4,by omega⟩
 obtain⟨c,⟨u,v,_⟩,m⟩:=WR b g (DJ (M+4) 0 (CM (M+4) [l.Av,l.Ac.B,l.Ac.A] (Cn (M+4)) (M+3))) 0 (by omega);obtain⟨d,⟨w,z,n⟩,o⟩:=WR b i (DJ (M+4) 1 (CM (M+4) [l.Av,l.Ac.B,l.Ac.A] (Cn (M+4)) (M+2))) c (by omega);obtain⟨a,⟨C,D,_⟩,p⟩:=WR b j (DJ (M+4) 2 (CM (M+4) [l.Av,l.Ac.B,l.Ac.A] (Cn (M+4)) (M+1))) d (by omega);refine⟨a,?_,by omega,by omega,λk x y h q t=>by have:=n k x y h q t;omega⟩;show Cm (M+4) l.Av (DJ (M+4) 0 (CM (M+4) [l.Av,l.Ac.B,l.Ac.A] (Cn (M+4)) (M+3))) (M+4) 0 1=some a
 rw[m];show Cm (M+4) l.Ac.B (DJ (M+4) 1 (CM (M+4) [l.Av,l.Ac.B,l.Ac.A] (Cn (M+4)) (M+2))) (M+4) c 1=some a
 rw[o];show Cm (M+4) l.Ac.A (DJ (M+4) 2 (CM (M+4) [l.Av,l.Ac.B,l.Ac.A] (Cn (M+4)) (M+1))) (M+4) d 1=some a
 rw[p];rfl
def dA {N:Nat}(o:18446744073709551616<N) {c:List AV}(b:Cp c) {s:Int}(h0:0≤s) (z:s≤1099511627776) (h:WG N c c.length s):nL (J0 c) s:=by
 intro k l r g a;have t:=LN b k l r g a;rcases Pm g with ⟨rfl,e⟩|⟨m,rfl,hm⟩|⟨rfl,e⟩
 ·have u:c[0]? =some r:=by rw[←Mh c (by have:=b.1;omega)];exact a
  have d:l.L=r.L:=by rw[e,←NU u]
  rw[d,Int.sub_self,Int.zero_mul];exact yC h0 (by omega)
 ·have v:=(uV.1 hm).1;by_cases d:m+1<c.length
  ·rw[Mh c d] at a;have w:=h m l r d hm a;have x:=b.vol hm;have y:=b.vol a;unfold JK at x y;obtain⟨_,_,_,_,q⟩:=He o (num:=r.L-l.L) (den:=r.H-l.H) (by omega) (by omega);have q:=q (by omega) (by omega);exact wT q (vT w (by omega))
  ·have i:m+1=c.length:=by omega
   rw[i,TH] at a;cases a;have j:=NS (c:=c) (p:=l) (by rw[←i,yW];exact hm);rw[j,Int.sub_self,Int.zero_mul];rw[j] at t;exact yC h0 (by omega)
 ·have n:(J0 c).length=c.length+2:=by simp [J0]
  have:=(uV.1 a).1;omega
structure rV (N:Nat) (b:AF) (l:AO):Prop where
 base:K7 b l
 gate:l.F=0→Fe N l.Ac.B l.Av=some true∧Fe N l.Av l.Ac.A=some true∧(0≤l.Y∧l.Y≤64)∧(0≤l.An∧l.An≤l.Y)∧(0≤l.Az∧l.Az≤1125899906842624)∧(l.Af=0→l.Ak=0)∧(l.C≠ -1∨l.Af=0)
 weir:l.F=1∨l.F=5→0≤l.Au∧l.Au≤1125899906842624
 pump:l.F=2→(0≤l.V∧l.V≤1125899906842624)∧(1≤l.Y∧l.Y≤64)∧(0≤l.An∧l.An≤l.Y)
 siph:l.F=3→(0≤l.Ae∧l.Ae≤1125899906842624)∧(0≤l.Aa∧l.Aa≤1125899906842624)∧l.Aa<l.Ae
 seep:l.F=4→(l.Af=0→l.Ak=0)
 none_:l.F≠0→l.F≠2→l.Y=0∧l.An=0
def Xi {a b:Int}(h:UC a b=true):b=0→a=0:=by
 intro c;simp only[UC,uL,uZ,uY] at h;exact h.2.resolve_left λh=>h c
def Wi {N:Nat}(t:18446744073709551616<N) {b:AF}{l:AO}(d:K7 b l) (h:Gy N l=some true) (a:Gx N l=some true):rV N b l:=by
 have J:=d.kind;have k:l.F≠0→l.F≠2→l.Y=0∧l.An=0:=by
  intro h0 g;unfold Gx at a;rw[uM h0,uK g] at a;simp only[Bool.not_false,wW] at a;cases n:(decide (0<(l.Av.length:Int))||decide (0<(l.Ac.B.length:Int))||decide (0<(l.Ac.A.length:Int))||decide (l.Az≠0)) with
  |true=>rw[n] at a;cases a
  |false=>
   rw[n,uH] at a;cases i:(decide (l.Y≠0)||decide (l.An≠0)) with
   |true=>rw[i] at a;cases a
   |false=>
    simp only[vH,vC] at i;exact⟨Decidable.not_not.1 i.1,Decidable.not_not.1 i.2⟩
 unfold Gy at h;by_cases k0:l.F=0
 ·obtain⟨n,i,C,K,M⟩:=d.gate k0;obtain⟨Q,u⟩:=Ql t l.Ac.B l.Av;obtain⟨U,v⟩:=Ql t l.Av l.Ac.A;rw[uK k0,uG,KN (by omega) n,KN (by omega) i,KN (by omega) C] at h;simp only[u,v,Ns,Mw,Q0,uF,Fb,Ri] at h;have h:=uX h;simp only[uL,uZ,uY] at h;obtain⟨⟨⟨⟨⟨⟨⟨⟨⟨_,_⟩,_⟩,o⟩,q⟩,D⟩,G⟩,H⟩,I⟩,s⟩:=h;subst o;subst q;exact⟨d,λ_=>⟨u,v,LW D,LW G,L5 H,Xi I,s⟩,λh=>by omega,λh=>by omega,λh=>by omega,λh=>by omega,k⟩
 ·rw[uM k0,uH] at h;have w:∀c:Bool,(c=true↔l.F=1∨l.F=5)→Eh N l c=some true→rV N b l:=by
   intro c x h;unfold Eh at h;simp only[Ns,Mw,Q0,uF,Fb,Ri] at h;cases c
   ·have V:¬(l.F=1∨l.F=5):=λh=>by have:=x.2 h;cases this
    rw[uH] at h;by_cases y:l.F=2
    ·rw[uK y,uG] at h;have h:=uX h;simp only[uL] at h;obtain⟨⟨m,g⟩,j⟩:=h;exact⟨d,λh=>by omega,λh=>by omega,λ_=>⟨L5 m,LW g,LW j⟩,λh=>by omega,λh=>by omega,k⟩
    ·rw[uM y,uH] at h;by_cases z:l.F=3
     ·rw[uK z,uG] at h;have h:=uX h;simp only[uL,uY] at h;obtain⟨⟨⟨⟨m,g⟩,j⟩,o⟩,q⟩:=h;exact⟨d,λh=>by omega,λh=>by omega,λh=>by omega,λ_=>⟨L5 j,L5 o,q⟩,λh=>by omega,k⟩
     ·rw[uM z,uH] at h;have h:=uX h;simp only[uL,uY] at h;obtain⟨⟨⟨m,g⟩,j⟩,o⟩:=h;exact⟨d,λh=>by omega,λh=>by omega,λh=>by omega,λh=>by omega,λ_=>Xi j,k⟩
   ·have W:=x.1 rfl;rw[uG] at h;have h:=uX h;simp only[uL] at h;obtain⟨⟨m,g⟩,j⟩:=h;exact⟨d,λh=>by omega,λ_=>L5 m,λh=>by omega,λh=>by omega,λh=>by omega,k⟩
  by_cases p:l.F=1
  ·rw[uK p,uG] at h;exact w true (by simp [p]) h
  ·rw[uM p,uH] at h;exact w _ (by simp [p]) h
def Yg {N:Nat}(c:18446744073709551616<N) {b:AF}(d:KE b) (p:∀l∈b.D,K7 b l) (h:GP N b=some true):∀l∈b.D,rV N b l:=by
 have v:=d.pl;have w:=d.li;unfold GP at h;rcases Hg b.D.length (DA N b (EJ N)) (EJ N) (λi=>∀l,b.D[i]? =some l→rV N b l) (λn k h=>by
  simp only[DA];rw[ES h];rfl) (λn k h=>by
  simp only[DA];obtain⟨x,g,y⟩:=UF c b.D[k];obtain⟨q,j⟩:=Tx N b.D[k];rw[Ei h,uG,A9 h];simp only[uF,Ns,Qy N _ (show b.E.length<4611686018427387904 by omega),RX N b _ _ (show b.E.length<4611686018427387904 by omega),g,j,Fb,Lk,BE (show k<4611686018427387904 by omega)];generalize m:(_|| !q)=B
  cases B
  ·simp only[vH,xD] at m;obtain⟨⟨_,s⟩,t⟩:=m;subst s;subst t;refine .inr ⟨λl a=>?_,rfl⟩;have:l=b.D[k]:=by simpa [h] using a.symm
   rw[this];exact Wi c (p _ (vA h)) g j
  ·exact .inl rfl) N 0 (by omega) (uO _) with u|⟨hp,_⟩
 ·rw[show DA N b (EJ N) N 0=some false from u] at h;cases h
 ·intro l a;obtain⟨i,o,rfl⟩:=xF.1 a;exact hp i (uO _) o _ (by simp [o])
def NL (N:Nat) (l:AO):Int:=if l.F=0 then cQ N l else if l.F=1∨l.F=5∨l.F=3 then sl N l.V l.Q else if l.F=4 then 2*sl N l.V l.Q else 0
def O5 (N:Nat) (l:AO):Int:=if l.F=0∧l.C≠ -1 then sl N l.Ak l.Af else if l.F=4 then 2*sl N l.Ak l.Af else 0
def PO (N:Nat) (l:AO) (i:Nat):Int:=(if l.P=(i:Int) then NL N l else 0)+(if l.C=(i:Int) then O5 N l else 0)
def Gg {n:Int}(h:JK n):0≤n∧n≤1125899906842624:=h
def So {N:Nat}(a:18446744073709551616<N) {b:AF}{l:AO}(d:K7 b l):(0≤NL N l∧NL N l≤2199023255554)∧(0≤O5 N l∧O5 N l≤2199023255554):=by
 unfold NL O5;by_cases k0:l.F=0
 ·obtain⟨k,m,n,o,p⟩:=d.gate k0;obtain⟨_,v,w,_⟩:=Sj a k m n;obtain⟨_,j,t2,_⟩:=He a (Gg o) (Gg p);rw[uJ k0];refine⟨by omega,?_⟩;split
  ·omega
  ·rw[uI (by omega)];omega
 ·rw[uI k0,uI (show ¬(l.F=0∧l.C≠ -1) from λh=>k0 h.1)];by_cases g:l.F=1∨l.F=5∨l.F=3
  ·obtain⟨i,q,s⟩:=d.part g;obtain⟨_,j,t2,_⟩:=He a (Gg i) (show 0≤l.Q∧l.Q≤_ by omega);rw[uJ g,uI (by omega)];omega
  ·rw[uI g];by_cases c:l.F=4
   ·obtain⟨i,q,s,t,u,_⟩:=d.seep c;obtain⟨_,j,t2,_⟩:=He a (Gg i) (show 0≤l.Q∧l.Q≤_ by omega);obtain⟨_,x,y,_⟩:=He a (Gg t) (Gg u);rw[uJ c,uJ c];omega
   ·rw[uI c,uI c];omega
def aA {N:Nat}(a:18446744073709551616<N) {b:AF}{l:AO}(c:K7 b l) (i:Nat):0≤PO N l i∧PO N l i≤4398046511108:=by
 obtain⟨d,g⟩:=So a c;unfold PO;split<;>split<;>omega
def Holds (n:Nat) (s:List Int) (a:Nat→Int):Prop:=s.length=n∧∀i,i<n→s[i]? =some (a i)
def Holds.ix {n:Nat}{s:List Int}{c:Nat→Int}(h:Holds n s c) {a:Int}(h0:0≤a) (b:a<n):ix s a=some (c a.toNat):=by
 unfold Go.Proofs.YtibidnaedddfdaaGreat.ix;rw[uI (by omega)];exact h.2 _ (by omega)
def Holds.upd {n:Nat}{s:List Int}{j:Nat→Int}(h:Holds n s j) {a:Int}(h0:0≤a) (c:a<n) (v:Int):Holds n (upd s a v) (λi=>if (i:Int)=a then v else j i):=by
 refine⟨by rw[MB,h.1],λi b=>?_⟩;unfold Go.Proofs.YtibidnaedddfdaaGreat.upd;rw[List.getElem?_set];have d:=h.1;show _=some (if (i:Int)=a then v else j i)
 by_cases e:(i:Int)=a
 ·rw[uJ (by omega),uJ (by omega),uJ e]
 ·rw[uI (by omega),uI e];exact h.2 i b
def Holds.congr {n:Nat}{s:List Int}{c a:Nat→Int}(h:Holds n s c) (e:∀i,i<n→c i=a i):Holds n s a:=⟨h.1,λi b=>(h.2 i b).trans (uP some (e i b))⟩
def W9 {N:Nat}(u:18446744073709551616<N) (b:AF) (J:KE b) (Z:∀l∈b.D,K7 b l) (w:List Int→Option Bool):∀(n k:Nat) (s:List Int) (g:Nat→Int),Holds b.E.length s g→(∀i,0≤g i∧g i≤(1+4*(k:Int))*1099511627777)→b.D.length<n+k→k≤b.D.length→
  ∃s',Holds b.E.length s' (λi=>g i+((b.D.drop k).map λl=>PO N l i).sum)∧BP N b w n (k:Int) s=w s'
 |0,k,s,g,q,_,h,hk=>by omega
 |n+1,k,s,g,q,hg,h,hk=>by
  have q3:=J.pl;have q4:=J.li;simp only[BP];rcases vG k b.D.length with p|p
  ·rw[Ei p,uG,A9 p];simp only[uF];have v:=Z b.D[k] (vA p);rw[yI p];generalize b.D[k]=l at v
   have sp:=So u v;have aa:=v.to;have j:=v.fr;have B:∀s:List Int,Holds b.E.length s (λi=>g i+PO N l i)→∃s',Holds b.E.length s' (λi=>g i+((l::b.D.drop (k+1)).map λl=>PO N l i).sum)∧CH N (k:Int) (BP N b w n) s=w s':=λs q=>by
    unfold CH;rw[BE (show k<4611686018427387904 by omega)];obtain⟨s',G,K⟩:=W9 u b J Z w n (k+1) s _ q (λi=>by have:=hg i;have:=aA u v i;omega) (by omega) (by omega);exact⟨s',G.congr λi _=>by simp only[wA,zA];omega,K⟩
   have m:∀i,0≤g i∧g i≤4503599627370496:=λi=>by have:=hg i;omega
   have M:=q.ix j.1 j.2;have gx:=m l.P.toNat;have U:∀c:Bool,(c=true↔l.F=1∨l.F=5∨l.F=3)→l.F≠0→∃s',Holds b.E.length s' (λi=>g i+((l::b.D.drop (k+1)).map λl=>PO N l i).sum)∧DX N s l (CH N (k:Int) (BP N b w n)) c=w s':=λc p k0=>by
    unfold DX;cases c
    ·have hn:¬(l.F=1∨l.F=5∨l.F=3):=λh=>by have:=p.2 h;cases this
     rw[uH];by_cases x:l.F=4
     ·rw[uK x,uG];obtain⟨G,K,h3,h4,h5,h6⟩:=v.seep x;obtain⟨H,v1,v2,_⟩:=He u (Gg G) (show 0≤l.Q∧l.Q≤_ by omega);obtain⟨y,v3,v4,_⟩:=He u (Gg h4) (Gg h5);have A:=q.upd j.1 j.2 (BR (g l.P.toNat+BR (2*sl N l.V l.Q)));have z:=A.ix (a:=l.C) (by omega) (by omega);simp only[M,H,z,y,uF];refine B _ ((A.upd (a:=l.C) (by omega) (by omega) _).congr λi W=>?_);have gi:=m i;have gt:=m l.C.toNat;unfold PO NL O5;rw[uI k0,uI hn,uJ x,uI (show ¬(l.F=0∧l.C≠ -1) from λh=>k0 h.1),uJ x];rw[CT (n:=2*sl N l.V l.Q) (by omega) (by omega),CT (n:=2*sl N l.Ak l.Af) (by omega) (by omega),CT (n:=g l.P.toNat+2*sl N l.V l.Q) (by omega) (by omega)];by_cases t:(i:Int)=l.C
      ·have et:l.C.toNat=i:=by omega
       rw[uJ t,uJ t.symm,et];by_cases d:(i:Int)=l.P
       ·have o:l.P.toNat=i:=by omega
        rw[uJ d,uJ d.symm,o,CT (by omega) (by omega)];omega
       ·rw[uI d,uI (show ¬l.P=(i:Int) from λh=>d h.symm),CT (by omega) (by omega)];omega
      ·rw[uI t,uI (show ¬l.C=(i:Int) from λh=>t h.symm)];by_cases d:(i:Int)=l.P
       ·have o:l.P.toNat=i:=by omega
        rw[uJ d,uJ d.symm,o];omega
       ·rw[uI d,uI (show ¬l.P=(i:Int) from λh=>d h.symm)];omega
     ·rw[uM x,uH];refine B s (q.congr λi _=>?_);unfold PO NL O5;rw[uI k0,uI hn,uI x,uI (show ¬(l.F=0∧l.C≠ -1) from λh=>k0 h.1),uI x];split<;>split<;>omega
    ·have hy:=p.1 rfl;rw[uG];obtain⟨G,K,h3⟩:=v.part hy;obtain⟨H,v1,v2,_⟩:=He u (Gg G) (show 0≤l.Q∧l.Q≤_ by omega);simp only[M,H,uF];refine B _ ((q.upd j.1 j.2 _).congr λi W=>?_);unfold PO NL O5;rw[uI k0,uJ hy,uI (show ¬(l.F=0∧l.C≠ -1) from λh=>k0 h.1),uI (show ¬l.F=4 by omega),CT (by omega) (by omega)];by_cases d:(i:Int)=l.P
     ·have o:l.P.toNat=i:=by omega
      rw[uJ d,uJ d.symm,o];split<;>omega
     ·rw[uI d,uI (show ¬l.P=(i:Int) from λh=>d h.symm)];split<;>omega
   by_cases k0:l.F=0
   ·rw[uK k0,uG];obtain⟨c1,c2,c3,c4,c5⟩:=v.gate k0;obtain⟨H,v1,v2,_⟩:=Sj u c1 c2 c3;obtain⟨y,v3,v4,_⟩:=He u (Gg c4) (Gg c5);have A:=q.upd j.1 j.2 (BR (g l.P.toNat+cQ N l));simp only[M,H,uF];by_cases I:l.C= -1
    ·rw[show decide (l.C≠ -1)=false by simp [I],uH];refine B _ (A.congr λi W=>?_);unfold PO NL O5;rw[uJ k0,uI (show ¬(l.F=0∧l.C≠ -1) from λh=>h.2 I),uI (show ¬l.F=4 by omega),CT (by omega) (by omega)];by_cases d:(i:Int)=l.P
     ·have o:l.P.toNat=i:=by omega
      rw[uJ d,uJ d.symm,o];split<;>omega
     ·rw[uI d,uI (show ¬l.P=(i:Int) from λh=>d h.symm)];split<;>omega
    ·rw[show decide (l.C≠ -1)=true by simp [I],uG];have z:=A.ix (a:=l.C) (by omega) (by omega);simp only[z,y,uF];refine B _ ((A.upd (a:=l.C) (by omega) (by omega) _).congr λi W=>?_);have gi:=m i;have gt:=m l.C.toNat;unfold PO NL O5;rw[uJ k0,uJ (show l.F=0∧l.C≠ -1 from⟨k0,I⟩),CT (n:=g l.P.toNat+cQ N l) (by omega) (by omega)];by_cases t:(i:Int)=l.C
     ·have et:l.C.toNat=i:=by omega
      rw[uJ t,uJ t.symm,et];by_cases d:(i:Int)=l.P
      ·have o:l.P.toNat=i:=by omega
       rw[uJ d,uJ d.symm,o,CT (by omega) (by omega)];omega
      ·rw[uI d,uI (show ¬l.P=(i:Int) from λh=>d h.symm),CT (by omega) (by omega)];omega
     ·rw[uI t,uI (show ¬l.C=(i:Int) from λh=>t h.symm)];by_cases d:(i:Int)=l.P
      ·have o:l.P.toNat=i:=by omega
       rw[uJ d,uJ d.symm,o];omega
      ·rw[uI d,uI (show ¬l.P=(i:Int) from λh=>d h.symm)];omega
   ·rw[uM k0,uH];by_cases X:l.F=1
    ·rw[uK X,uG];exact U true ⟨λ_=> .inl X,λ_=>rfl⟩ k0
    ·rw[uM X,uH];by_cases Y:l.F=5
     ·rw[uK Y,uG];exact U true ⟨λ_=> .inr (.inl Y),λ_=>rfl⟩ k0
     ·rw[uM Y,uH];exact U _ ⟨λh=> .inr (.inr (by simpa using h)),λh=>by simp;omega⟩ k0
  ·rw[ES p];refine⟨s,q.congr λi _=>?_,rfl⟩;rw[xU p];simp
def WT {N:Nat}(q:18446744073709551616<N) {b:AF}(t:KE b) (y:∀p∈b.E,Lq b p) (F:∀l∈b.D,K7 b l) (h:Fl N b=some true):
  ∀(i:Nat) p,b.E[i]? =some p→sl N p.V p.Q+(b.D.map λl=>PO N l i).sum≤1099511627776:=by
 have W:=t.pl;have X:=t.li;unfold Fl at h;rw[show Mn (b.E.length:Int) (b.E.length:Int) 8=true by simp [Mn];omega] at h;simp only[chk,uG] at h;obtain⟨u,G,H⟩:=Gi b.E.length (λn i s=>Cu N b (Cf N b) n i s) (Cf N b) (λk s=>Holds b.E.length s (λi=>if i<k then sl N ((b.E.getD i default).V) ((b.E.getD i default).Q) else 0)) (λn k s d=>by
  simp only[Cu];rw[ES d];rfl) (λn k s c d=>by
  have j:=y b.E[k] (vA d);obtain⟨z,I,J,_⟩:=He q (Gg j.num) (Gg j.den);have o:=c.ix (a:=(k:Int)) (by omega) (by omega);simp only[Cu];rw[Ei d,uG,A9 d];simp only[uF,z,o,BE (show k<4611686018427387904 by omega)];refine⟨_,(c.upd (a:=(k:Int)) (by omega) (by omega) (sl N b.E[k].V b.E[k].Q)).congr λi K=>?_,rfl⟩;by_cases e:i=k
  ·subst e;rw[uJ rfl,uJ (by omega),wD,uU d];rfl
  ·rw[uI (by omega)];by_cases A:i<k
   ·rw[uJ A,uJ (by omega)]
   ·rw[uI A,uI (by omega)]) N 0 (List.replicate ((b.E.length:Int):Int).toNat 0) ⟨by simp,λi c=>by simp [c]⟩ (by omega) (uO _)
 rw[show Cu N b (Cf N b) N 0 (List.replicate ((b.E.length:Int):Int).toNat 0)=Cf N b u from H] at h;unfold Cf at h;have v:∀i,0≤(if i<b.E.length then sl N ((b.E.getD i default).V) ((b.E.getD i default).Q) else 0)∧(if i<b.E.length then sl N ((b.E.getD i default).V) ((b.E.getD i default).Q) else 0)≤(1+4*((0:Nat):Int))*1099511627777:=by
  intro i;split
  ·rename_i c;have j:=y b.E[i] (vA c);obtain⟨z,I,J,_⟩:=He q (Gg j.num) (Gg j.den);rw[wD,uU c];simp only[vM];omega
  ·omega
 obtain⟨g,B,M⟩:=W9 q b t F (CI N) N 0 u _ G v (by omega) (uO _);rw[show BP N b (CI N) N 0 u=CI N g from M] at h;unfold CI at h;have U:=B.1;rcases Hg g.length (Ct N g (Dx N)) (Dx N) (λi=>∀x,g[i]? =some x→x≤1099511627776) (λn k h=>by
  simp only[Ct];rw[ES h];rfl) (λn k h=>by
  simp only[Ct];rw[Ei h,uG,A9 h];simp only[uF,BE (show k<4611686018427387904 by omega)];by_cases o:1099511627776<g[k]
  ·rw[uK o];exact .inl rfl
  ·rw[uM o];refine .inr ⟨λx e=>?_,rfl⟩;rw[uU h] at e;cases e;omega) N 0 (by omega) (uO _) with w|⟨w,_⟩
 ·rw[show Ct N g (Dx N) N 0=some false from w] at h;cases h
 ·intro i p m;have c:=(uV.1 m).1;have C:(if i<b.E.length then sl N (b.E.getD i default).V (b.E.getD i default).Q else 0)+((b.D.drop 0).map λl=>PO N l i).sum≤1099511627776:=w i (uO _) (by omega) _ (B.2 i c);rw[uJ c,wD,m] at C;exact C
structure L4 (N:Nat) (b:AF):Prop where
 head:KE b
 places:∀p∈b.E,Lq b p
 links:∀l∈b.D,K7 b l
 lk:∀l∈b.D,VB N l (NL N l) (O5 N l)
 ctr0:∀l∈b.D,∀i,0≤PO N l i
 rt:∀p∈b.E,p.Q≠0→WN p.V p.Q (sl N p.V p.Q)
 rt0:∀p∈b.E,0≤sl N p.V p.Q
 sums:∀(i:Nat) p,b.E[i]? =some p→sl N p.V p.Q+(b.D.map λl=>PO N l i).sum≤1099511627776
def tH {N:Nat}(a:18446744073709551616<N) {b:AF}{l:AO}(h:rV N b l) (c:NL N l≤1099511627776) (g:l.C≠ -1→O5 N l≤1099511627776):VB N l (NL N l) (O5 N l):=by
 have j:=h.base;have x:=So a j;have hk:=j.kind;refine⟨x.1.1,x.2.1,λk0=>?_,λU=>?_,λk=>⟨(h.pump k).1,(h.pump k).2.1⟩,λy=>?_,λp=>?_,?_⟩
 ·obtain⟨z,q,D,W,X⟩:=j.gate k0;obtain⟨t,u,v,Y,G,H,Z⟩:=h.gate k0;obtain⟨_,s1,s2,s3⟩:=Sj a z q D;have i:NL N l=cQ N l:=by unfold NL;rw[uJ k0]
  rw[i] at c ⊢;refine⟨z,q,D,t,u,v,G,dA a q s1 c s3,λI=>?_⟩;have w:O5 N l=sl N l.Ak l.Af:=by unfold O5;rw[uJ (show l.F=0∧l.C≠ -1 from⟨k0,I⟩)]
  have g:=g I;rw[w] at g ⊢;exact(He a (Gg W) (Gg X)).2.2.2.1 g H
 ·obtain⟨m,J,K⟩:=j.part (by omega);have i:NL N l=sl N l.V l.Q:=by unfold NL;rw[uI (show ¬l.F=0 by omega),uJ (show l.F=1∨l.F=5∨l.F=3 by omega)]
  rw[i] at c ⊢;exact⟨(He a (Gg m) (show 0≤l.Q∧l.Q≤_ by omega)).2.2.2.1 c (λh=>by omega),h.weir U⟩
 ·obtain⟨m,J,K⟩:=j.part (by omega);have i:NL N l=sl N l.V l.Q:=by unfold NL;rw[uI (show ¬l.F=0 by omega),uJ (show l.F=1∨l.F=5∨l.F=3 by omega)]
  rw[i] at c ⊢;exact⟨(He a (Gg m) (show 0≤l.Q∧l.Q≤_ by omega)).2.2.2.1 c (λh=>by omega),(h.siph y).1,(h.siph y).2.1⟩
 ·obtain⟨m,J,K,p4,p5,M⟩:=j.seep p;have i:NL N l=2*sl N l.V l.Q:=by unfold NL;rw[uI (show ¬l.F=0 by omega),uI (show ¬(l.F=1∨l.F=5∨l.F=3) by omega),uJ p]
  have w:O5 N l=2*sl N l.Ak l.Af:=by unfold O5;rw[uI (show ¬(l.F=0∧l.C≠ -1) by omega),uJ p]
  have g:=g M;rw[i] at c ⊢;rw[w] at g ⊢;obtain⟨_,a1,_,a2,_⟩:=He a (Gg m) (show 0≤l.Q∧l.Q≤_ by omega);obtain⟨_,b1,_,b2,_⟩:=He a (Gg p4) (Gg p5);have A:=a2 (by omega) (λh=>by omega);have B:=b2 (by omega) (h.seep p);have o:∀{n d s:Int},WN n d s→WN n d (2*s):=λ{n d s} h=>by
   have h0:=h.n0;have h1:=h.nd;have h2:=h.s0;refine⟨h0,h1,h.dm,by omega,wT h.sl (vT (by omega) (by omega))⟩
  exact⟨o A,o B,M⟩
 ·by_cases k0:l.F=0
  ·obtain⟨t,u,v,Y,G,H,Z⟩:=h.gate k0;omega
  ·by_cases k:l.F=2
   ·obtain⟨t,u,v⟩:=h.pump k;omega
   ·have:=h.none_ k0 k;omega
def mC {N:Nat}(j:18446744073709551616<N) {b:AF}(h:Jy N b=some true):L4 N b∧MC b:=by
 obtain⟨v,e,k⟩:=Vc j b;rw[h] at e;cases e;have k:=k rfl;have m:GP N b=some true∧Fl N b=some true:=by
  unfold Jy at h;obtain⟨y9,_,h⟩:=bd h;obtain⟨aa,ab,h⟩:=bd h;obtain⟨ac,ad,h⟩:=bd h;obtain⟨ae,A,h⟩:=bd h;obtain⟨af,B,h⟩:=bd h;obtain⟨ag,F,h⟩:=bd h;obtain⟨ah,G,h⟩:=bd h;obtain⟨ai,H,h⟩:=bd h;obtain⟨aj,I,h⟩:=bd h;have n:∀{c:Bool} {x:Option Bool} {d:Bool},cond c (x.bind λy=>some y) (some false)=some d→d=true→c=true∧x=some true:=by
   intro c x d J hd;subst hd;cases c
   ·cases J
   ·cases x with
    |none=>cases J
    |some y=>exact⟨rfl,J⟩
  have K:=uX h;have M:=n I K;have U:=n H M.1;have W:=n G U.1;have o:=n F W.1;have X:=n B o.1;have Y:=n A X.1;exact⟨Y.2,o.2⟩
 have lf:=Yg j k.head k.links m.1;have Z:=WT j k.head k.places k.links m.2;have u:∀l∈b.D,∀i,0≤PO N l i:=λl a i=>(aA j (k.links l a) i).1;have r0:∀p∈b.E,0≤sl N p.V p.Q:=λp q=>(He j (Gg (k.places p q).num) (Gg (k.places p q).den)).2.1;have s:∀l∈b.D,∀(i:Nat),i<b.E.length→PO N l i≤1099511627776:=λl a i w=>by
  have g:=Z i _ (uU w);have h2:=r0 _ (vA w);obtain⟨x,y,e⟩:=List.append_of_mem a;have hx:0≤(x.map λl=>PO N l i).sum:=Uh λz t=>u z (by rw[e];simp [t]) i;have hy:0≤(y.map λl=>PO N l i).sum:=Uh λz t=>u z (by rw[e];simp [t]) i;have e2:(b.D.map λl=>PO N l i).sum=(x.map λl=>PO N l i).sum+(PO N l i+(y.map λl=>PO N l i).sum):=by
   rw[e,xX,yZ,wA,zA]
  omega
 refine⟨⟨k.head,k.places,k.links,λl a=>?_,u,λp q hd=>?_,r0,Z⟩,k⟩
 ·have sp:=So j (k.links l a);have fr:=(k.links l a).fr;have to:=(k.links l a).to;refine tH j (lf l a) ?_ λht=>?_
  ·have g:=s l a l.P.toNat (by omega);unfold PO at g;rw[uJ (show l.P=((l.P.toNat:Nat):Int) by omega)] at g;split at g<;>omega
  ·have g:=s l a l.C.toNat (by omega);unfold PO at g;rw[uJ (show l.C=((l.C.toNat:Nat):Int) by omega)] at g;split at g<;>omega
 ·obtain⟨i,w,rfl⟩:=xF.1 q;have g:=Z i _ (uU w);have h2:0≤(b.D.map λl=>PO N l i).sum:=Uh λz t=>u z t i;have ok:=k.places _ q;exact(He j (Gg ok.num) (Gg ok.den)).2.2.2.1 (by omega) (λh=>absurd h hd)
end Go.Proofs.YtibidnaedddfdaaGreat
