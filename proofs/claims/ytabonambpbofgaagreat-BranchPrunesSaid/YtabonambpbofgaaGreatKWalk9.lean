import Derived.Test.YtabonambpbofgaaGreatKInst
import Derived.Test.YtabonambpbofgaaGreatKForms
import Derived.Test.YtabonambpbofgaaGreatKSort5
import Derived.Test.YtabonambpbofgaaGreatKSortD
import Derived.Test.YtabonambpbofgaaGreatKWalk1
import Derived.Test.YtabonambpbofgaaGreatKWalk6
import Derived.Test.YtabonambpbofgaaGreatKWalk7
namespace Go.Proofs.YtabonambpbofgaaGreat
set_option linter.all false
open Go.RowKit
open Go.Proofs.Tryz
set_option maxRecDepth 10000
set_option maxHeartbeats 20000000
variable {N:Nat}{S:Nat→Prop}{L:List HP}{h:AS}
def Pm (p:St S L h) {a:Value}{c:DQ}(b:Rd S h Ef a c) {r:Bool}(E:JS N c=some r):
 CM prog 85 #[a] S h (λv S' h'=>v= .bool r∧St S' (L) h'):=by
 refine CM.go 8 func85 O ntmps85 O λB=>?_;rw[JS] at E;refine AU ?_;refine Cg O b CE O p λw S2 x d y m=>AU ?_;refine CV (.inl O) d ?_;have q:=m.fl DQ.f_a;obtain⟨z,_,i⟩:=q.ll;have j:=m.fl DQ.f_b;obtain⟨s,_,k⟩:=j.ll;refine AU ?_;refine BC E O O O UQ O (λl g h' o=>FY (St.all h') (i.mono' (o.all d.1)) (k.mono' (o.all d.1)) g) λl E=>AU ?_;exact BZ (kp [2] O) λt n u=>RT
def Ii (H:St S L h) {b:Value}{d:(List G1)}(i:Sl S h C3 b d) {c:Value}{g:(List G1)}(j:Sl S h C3 c g) {r:Bool}(E:DY N d g=some r):
 CM prog 157 #[b,c] S h (λv S' h'=>v= .bool r∧St S' (L) h'):=by
 refine CM.go 26 func157 O ntmps157 O λB=>?_;rw[DY] at E;refine AU ?_;refine AH O E (λI E=>?_) (λI E=>?_)
 ·exact RT
 refine AU ?_;refine AQ (λa w=>IV B S h (26,[]) a w [] (L) λ_ _=>CX N=some r) ?_ ?_
 ·refine A8 (λF=>λa w=>∃(s:Int),IV B S h (26,[]) a w [(12,vI (↑d.length:Int)),(0,b),(1,c),(13,vI s)] (L) λ_ _=>AA s∧CF N d g (CX N) F s=some r) N ?_ ?_ ?_
  ·intro p q k l;exact⟨0,_,_,k.sub (kp [12,0,1,13] O),l,H,(C2.refl S h),(iq (n:=0) O),E⟩
  ·rintro p q ⟨_,_,_,_,_,_,_,_,E⟩;rw[CF] at E;cases E
  rintro F p q ⟨s,S9,J,k,l,o,m,r8,E⟩;refine AK ?_ k l;clear k l q p;rw[CF] at E;refine AU ?_;refine AH O E (λt E=>?_) (λt E=>?_)
  ·refine AU ?_;refine A5 (AU ?_);refine Hv (.inr ⟨mo,by kernel_rfl⟩) (AU ?_);have u:=i.mono' m;refine BI E O O u bR.1 O λK E M x=>?_;obtain⟨Q,_,y⟩:=x.lv;refine AU ?_;have z:=j.mono' m;refine BI E O O z bR.1 O λU E V A=>?_;obtain⟨W,_,C⟩:=A.lv;refine AU ?_;obtain⟨rfl,⟨X,Y⟩⟩:=C3.ex y;obtain⟨rfl,⟨Z,ab⟩⟩:=C3.ex C;refine TV O O qW O O O O (AU ?_);refine AH O E (λD E=>?_) (λD E=>?_)
   ·exact RT
   refine AU ?_;refine BJ (AU ?_);refine WF.nil (λp q k l=>?_);exact⟨(BQ (s+1)),_,_,k.sub (kp [12,0,1,13] O),l,o,m,(BW _),E⟩
  refine BL O (λp q k l=>?_);exact⟨_,_,k.sub Ri,l,o,m,E⟩
 rintro p q ⟨ac,ad,k,l,G,ae,E⟩;refine AK ?_ k l;clear k l q p;rw[CX] at E;exact RT
def LW (p:St S L h) {a:Value}{c:J0}(b:Rd S h Km a c) {r:Bool}(E:Ew N c=some r):
 CM prog 86 #[a] S h (λv S' h'=>v= .bool r∧St S' (L) h'):=by
 refine CM.go 8 func86 O ntmps86 O λB=>?_;rw[Ew] at E;refine AU ?_;refine Cg O b CE O p λw S2 x d y m=>AU ?_;refine CV (.inl O) d ?_;have q:=m.fl J0.f_a;obtain⟨z,_,i⟩:=q.ll;have j:=m.fl J0.f_b;obtain⟨s,_,k⟩:=j.ll;refine AU ?_;refine BC E O O O sF O (λl g h' o=>Ii (St.all h') (i.mono' (o.all d.1)) (k.mono' (o.all d.1)) g) λl E=>AU ?_;exact BZ (kp [2] O) λt n u=>RT
def JZ (H:St S L h) {b:Value}{d:(List LA)}(i:Sl S h FX b d) {c:Value}{g:(List LA)}(j:Sl S h FX c g) {r:Bool}(E:Dw N d g=some r):
 CM prog 158 #[b,c] S h (λv S' h'=>v= .bool r∧St S' (L) h'):=by
 refine CM.go 26 func158 O ntmps158 O λB=>?_;rw[Dw] at E;refine AU ?_;refine AH O E (λI E=>?_) (λI E=>?_)
 ·exact RT
 refine AU ?_;refine AQ (λa w=>IV B S h (26,[]) a w [] (L) λ_ _=>Cy N=some r) ?_ ?_
 ·refine A8 (λF=>λa w=>∃(s:Int),IV B S h (26,[]) a w [(12,vI (↑d.length:Int)),(0,b),(1,c),(13,vI s)] (L) λ_ _=>AA s∧CL N d g (Cy N) F s=some r) N ?_ ?_ ?_
  ·intro p q k l;exact⟨0,_,_,k.sub (kp [12,0,1,13] O),l,H,(C2.refl S h),(iq (n:=0) O),E⟩
  ·rintro p q ⟨_,_,_,_,_,_,_,_,E⟩;rw[CL] at E;cases E
  rintro F p q ⟨s,S9,J,k,l,o,m,r8,E⟩;refine AK ?_ k l;clear k l q p;rw[CL] at E;refine AU ?_;refine AH O E (λt E=>?_) (λt E=>?_)
  ·refine AU ?_;refine A5 (AU ?_);refine Hv (.inr ⟨mo,by kernel_rfl⟩) (AU ?_);have u:=i.mono' m;refine BI E O O u bQ.1 O λK E M x=>?_;obtain⟨Q,_,y⟩:=x.lv;refine AU ?_;have z:=j.mono' m;refine BI E O O z bQ.1 O λU E V A=>?_;obtain⟨W,_,C⟩:=A.lv;refine AU ?_;obtain⟨rfl,⟨X,Y⟩⟩:=FX.ex y;obtain⟨rfl,⟨Z,ab⟩⟩:=FX.ex C;refine TV O O qV O O O O (AU ?_);refine AH O E (λD E=>?_) (λD E=>?_)
   ·exact RT
   refine AU ?_;refine BJ (AU ?_);refine WF.nil (λp q k l=>?_);exact⟨(BQ (s+1)),_,_,k.sub (kp [12,0,1,13] O),l,o,m,(BW _),E⟩
  refine BL O (λp q k l=>?_);exact⟨_,_,k.sub Ri,l,o,m,E⟩
 rintro p q ⟨ac,ad,k,l,G,ae,E⟩;refine AK ?_ k l;clear k l q p;rw[Cy] at E;exact RT
def Lv (p:St S L h) {a:Value}{c:NF}(b:Rd S h NZ a c) {r:Bool}(E:FU N c=some r):
 CM prog 87 #[a] S h (λv S' h'=>v= .bool r∧St S' (L) h'):=by
 refine CM.go 8 func87 O ntmps87 O λB=>?_;rw[FU] at E;refine AU ?_;refine Cg O b CE O p λw S2 x d y m=>AU ?_;refine CV (.inl O) d ?_;have q:=m.fl NF.f_a;obtain⟨z,_,i⟩:=q.ll;have j:=m.fl NF.f_b;obtain⟨s,_,k⟩:=j.ll;refine AU ?_;refine BC E O O O sE O (λl g h' o=>JZ (St.all h') (i.mono' (o.all d.1)) (k.mono' (o.all d.1)) g) λl E=>AU ?_;exact BZ (kp [2] O) λt n u=>RT
def I7 (H:St S L h) {b:Value}{d:(List FM)}(i:Sl S h DU b d) {c:Value}{g:(List FM)}(j:Sl S h DU c g) {r:Bool}(E:Dg N d g=some r):
 CM prog 159 #[b,c] S h (λv S' h'=>v= .bool r∧St S' (L) h'):=by
 refine CM.go 26 func159 O ntmps159 O λB=>?_;rw[Dg] at E;refine AU ?_;refine AH O E (λI E=>?_) (λI E=>?_)
 ·exact RT
 refine AU ?_;refine AQ (λa w=>IV B S h (26,[]) a w [] (L) λ_ _=>Ch N=some r) ?_ ?_
 ·refine A8 (λF=>λa w=>∃(s:Int),IV B S h (26,[]) a w [(12,vI (↑d.length:Int)),(0,b),(1,c),(13,vI s)] (L) λ_ _=>AA s∧CI N d g (Ch N) F s=some r) N ?_ ?_ ?_
  ·intro p q k l;exact⟨0,_,_,k.sub (kp [12,0,1,13] O),l,H,(C2.refl S h),(iq (n:=0) O),E⟩
  ·rintro p q ⟨_,_,_,_,_,_,_,_,E⟩;rw[CI] at E;cases E
  rintro F p q ⟨s,S9,J,k,l,o,m,r8,E⟩;refine AK ?_ k l;clear k l q p;rw[CI] at E;refine AU ?_;refine AH O E (λt E=>?_) (λt E=>?_)
  ·refine AU ?_;refine A5 (AU ?_);refine Hv (.inr ⟨mo,by kernel_rfl⟩) (AU ?_);have u:=i.mono' m;refine BI E O O u bP.1 O λK E M x=>?_;obtain⟨Q,_,y⟩:=x.lv;refine AU ?_;have z:=j.mono' m;refine BI E O O z bP.1 O λU E V A=>?_;obtain⟨W,_,C⟩:=A.lv;refine AU ?_;obtain⟨rfl,⟨X,Y,Z,ab⟩⟩:=DU.ex y;obtain⟨rfl,⟨ac,ad,ae,af⟩⟩:=DU.ex C;refine TV O O qU O O O O (AU ?_);refine AH O E (λD E=>?_) (λD E=>?_)
   ·exact RT
   refine AU ?_;refine BJ (AU ?_);refine WF.nil (λp q k l=>?_);exact⟨(BQ (s+1)),_,_,k.sub (kp [12,0,1,13] O),l,o,m,(BW _),E⟩
  refine BL O (λp q k l=>?_);exact⟨_,_,k.sub Ri,l,o,m,E⟩
 rintro p q ⟨ag,ah,k,l,G,ai,E⟩;refine AK ?_ k l;clear k l q p;rw[Ch] at E;exact RT
def Lk (p:St S L h) {a:Value}{c:K8}(b:Rd S h L5 a c) {r:Bool}(E:E7 N c=some r):
 CM prog 88 #[a] S h (λv S' h'=>v= .bool r∧St S' (L) h'):=by
 refine CM.go 8 func88 O ntmps88 O λB=>?_;rw[E7] at E;refine AU ?_;refine Cg O b CE O p λw S2 x d y m=>AU ?_;refine CV (.inl O) d ?_;have q:=m.fl K8.f_a;obtain⟨z,_,i⟩:=q.ll;have j:=m.fl K8.f_b;obtain⟨s,_,k⟩:=j.ll;refine AU ?_;refine BC E O O O sD O (λl g h' o=>I7 (St.all h') (i.mono' (o.all d.1)) (k.mono' (o.all d.1)) g) λl E=>AU ?_;exact BZ (kp [2] O) λt n u=>RT
def I8 (H:St S L h) {b:Value}{d:(List Iw)}(i:Sl S h Du b d) {c:Value}{g:(List Iw)}(j:Sl S h Du c g) {r:Bool}(E:Dh N d g=some r):
 CM prog 160 #[b,c] S h (λv S' h'=>v= .bool r∧St S' (L) h'):=by
 refine CM.go 26 func160 O ntmps160 O λB=>?_;rw[Dh] at E;refine AU ?_;refine AH O E (λI E=>?_) (λI E=>?_)
 ·exact RT
 refine AU ?_;refine AQ (λa w=>IV B S h (26,[]) a w [] (L) λ_ _=>Ci N=some r) ?_ ?_
 ·refine A8 (λF=>λa w=>∃(s:Int),IV B S h (26,[]) a w [(12,vI (↑d.length:Int)),(0,b),(1,c),(13,vI s)] (L) λ_ _=>AA s∧CJ N d g (Ci N) F s=some r) N ?_ ?_ ?_
  ·intro p q k l;exact⟨0,_,_,k.sub (kp [12,0,1,13] O),l,H,(C2.refl S h),(iq (n:=0) O),E⟩
  ·rintro p q ⟨_,_,_,_,_,_,_,_,E⟩;rw[CJ] at E;cases E
  rintro F p q ⟨s,S9,J,k,l,o,m,r8,E⟩;refine AK ?_ k l;clear k l q p;rw[CJ] at E;refine AU ?_;refine AH O E (λt E=>?_) (λt E=>?_)
  ·refine AU ?_;refine A5 (AU ?_);refine Hv (.inr ⟨mo,by kernel_rfl⟩) (AU ?_);have u:=i.mono' m;refine BI E O O u bO.1 O λK E M x=>?_;obtain⟨Q,_,y⟩:=x.lv;refine AU ?_;have z:=j.mono' m;refine BI E O O z bO.1 O λU E V A=>?_;obtain⟨W,_,C⟩:=A.lv;refine AU ?_;obtain⟨rfl,⟨X,Y,Z,ab⟩⟩:=Du.ex y;obtain⟨rfl,⟨ac,ad,ae,af⟩⟩:=Du.ex C;refine TV O O qT O O O O (AU ?_);refine AH O E (λD E=>?_) (λD E=>?_)
   ·exact RT
   refine AU ?_;refine BJ (AU ?_);refine WF.nil (λp q k l=>?_);exact⟨(BQ (s+1)),_,_,k.sub (kp [12,0,1,13] O),l,o,m,(BW _),E⟩
  refine BL O (λp q k l=>?_);exact⟨_,_,k.sub Ri,l,o,m,E⟩
 rintro p q ⟨ag,ah,k,l,G,ai,E⟩;refine AK ?_ k l;clear k l q p;rw[Ci] at E;exact RT
def Ll (p:St S L h) {a:Value}{c:K9}(b:Rd S h L6 a c) {r:Bool}(E:E8 N c=some r):
 CM prog 89 #[a] S h (λv S' h'=>v= .bool r∧St S' (L) h'):=by
 refine CM.go 8 func89 O ntmps89 O λB=>?_;rw[E8] at E;refine AU ?_;refine Cg O b CE O p λw S2 x d y m=>AU ?_;refine CV (.inl O) d ?_;have q:=m.fl K9.f_a;obtain⟨z,_,i⟩:=q.ll;have j:=m.fl K9.f_b;obtain⟨s,_,k⟩:=j.ll;refine AU ?_;refine BC E O O O sC O (λl g h' o=>I8 (St.all h') (i.mono' (o.all d.1)) (k.mono' (o.all d.1)) g) λl E=>AU ?_;exact BZ (kp [2] O) λt n u=>RT
def O6 (hs:St S L h) {k:Value}{a:B3}(p:Rd S h Cf k a) {l:Value}{b:B3}(q:Rd S h Cf l b) {r:Bool}(E:Ip N a b=some r):
 CM prog 39 #[k,l] S h (λv S' h'=>v= .bool r∧St S' (L) h'):=by
 refine CM.go 43 func39 O ntmps39 O λB=>?_;rw[Ip] at E;refine AU ?_;refine Cg O p CE O hs λq1 S2 h3 aw e5 k6=>?_;have k7:=q.mono e5;refine Cg O k7 CE O aw λq8 S9 bg c ax m=>AU ?_;refine CV (.inl O) c ?_;have n:=k6.mono ax;have ay:=n.fl B3.f_Rain;obtain⟨bh,_,H⟩:=ay.ll;have az:=m.fl B3.f_Rain;obtain⟨bi,_,I⟩:=az.ll;refine AU ?_;obtain⟨J,s,rfl,bj⟩:=(H).len;obtain⟨K,t,rfl,bk⟩:=(I).len;refine Gz (cs:=[(.slice J a.T.length s),(.slice K b.T.length t)]) pL O O O ?_;obtain⟨a0,M,E⟩:=bd E;refine IW O O O xD O (λh' o=>Pm (St.all h') (Ef.mk (x:=(⟨a.T,b.T⟩:DQ)) (H.mono' (o.all c.1)) (I.mono' (o.all c.1))) M) (AU ?_);obtain⟨Q,d,E⟩:=bd E;refine AY 7 18 (.bool Q) ?_ ?_
 ·cases V:a0
  ·have d:=HV V d;cases d;exact BE O O
  have d:=HU V d;have a1:=n.fl Kv;obtain⟨bl,_,W⟩:=a1.ll;have a2:=m.fl Kv;obtain⟨bm,_,X⟩:=a2.ll;refine AU ?_;obtain⟨Y,u,rfl,bn⟩:=(W).len;obtain⟨Z,w,rfl,bo⟩:=(X).len;refine Gz (cs:=[(.slice Y a.Ab.length u),(.slice Z b.Ab.length w)]) pK O O O (AU ?_);obtain⟨bp,aa,d⟩:=bd d;refine IW O O O xC O (λh' o=>LW (St.all h') (Km.mk (x:=(⟨a.Ab,b.Ab⟩:J0)) (W.mono' (o.all c.1)) (X.mono' (o.all c.1))) aa) (AU ?_);cases d;exact AZ O
 refine AU ?_;obtain⟨ab,g,E⟩:=bd E;refine AY 7 26 (.bool ab) ?_ ?_
 ·cases ac:Q
  ·have g:=HV ac g;cases g;exact BE O O
  have g:=HU ac g;have a3:=n.fl L7;obtain⟨bq,_,ad⟩:=a3.ll;have a4:=m.fl L7;obtain⟨br,_,ae⟩:=a4.ll;refine AU ?_;obtain⟨af,y,rfl,bs⟩:=(ad).len;obtain⟨ag,z,rfl,bt⟩:=(ae).len;refine Gz (cs:=[(.slice af a.Ac.length y),(.slice ag b.Ac.length z)]) pJ O O O (AU ?_);obtain⟨bu,ah,g⟩:=bd g;refine IW O O O xB O (λh' o=>Lv (St.all h') (NZ.mk (x:=(⟨a.Ac,b.Ac⟩:NF)) (ad.mono' (o.all c.1)) (ae.mono' (o.all c.1))) ah) (AU ?_);cases g;exact AZ O
 refine AU ?_;obtain⟨ai,i,E⟩:=bd E;refine AY 7 34 (.bool ai) ?_ ?_
 ·cases aj:ab
  ·have i:=HV aj i;cases i;exact BE O O
  have i:=HU aj i;have a5:=n.fl Lc;obtain⟨bv,_,ak⟩:=a5.ll;have a6:=m.fl Lc;obtain⟨bw,_,al⟩:=a6.ll;refine AU ?_;obtain⟨am,A,rfl,bx⟩:=(ak).len;obtain⟨an,C,rfl,bz⟩:=(al).len;refine Gz (cs:=[(.slice am a.U.length A),(.slice an b.U.length C)]) pI O O O (AU ?_);obtain⟨b0,ao,i⟩:=bd i;refine IW O O O xA O (λh' o=>Lk (St.all h') (L5.mk (x:=(⟨a.U,b.U⟩:K8)) (ak.mono' (o.all c.1)) (al.mono' (o.all c.1))) ao) (AU ?_);cases i;exact AZ O
 refine AU ?_;obtain⟨a7,j,E⟩:=bd E;refine AY 7 42 (.bool a7) ?_ ?_
 ·cases ap:ai
  ·have j:=HV ap j;cases j;exact BE O O
  have j:=HU ap j;have a8:=n.fl Ld;obtain⟨b1,_,aq⟩:=a8.ll;have a9:=m.fl Ld;obtain⟨b2,_,ar⟩:=a9.ll;refine AU ?_;obtain⟨au,D,rfl,b3⟩:=(aq).len;obtain⟨av,F,rfl,bb⟩:=(ar).len;refine Gz (cs:=[(.slice au a.Ae.length D),(.slice av b.Ae.length F)]) pH O O O (AU ?_);obtain⟨bc,G,j⟩:=bd j;refine IW O O O wZ O (λh' o=>Ll (St.all h') (L6.mk (x:=(⟨a.Ae,b.Ae⟩:K9)) (aq.mono' (o.all c.1)) (ar.mono' (o.all c.1))) G) (AU ?_);cases j;exact AZ O
 refine AU ?_;exact BZ (kp [4] O) λbe ba bf=>RT
def Il (k:St S L h) {b:Value}{c:(List G1)}(a:Sl S h C3 b c) {r:(List G1)}(E:DZ N c=some r):
 CM prog 90 #[b] S h (λv S' h'=>St S' (OS C3 148 v r::L) h'):=by
 refine CM.go 8 func90 O ntmps90 O λB=>?_;rw[DZ] at E;rcases a.cases with ⟨rfl,rfl⟩|⟨n,m,rfl,a⟩
 ·have s:(some ([]:List G1))=some r:=by simpa [chk,Ha] using E
  refine AU ?_;refine JX O O O aB (AU ?_);refine KK O (AU ?_);have d:=k.nil C3 148;cases E;exact GF d O O EX
 refine AU ?_;refine KM O O O aB (AU ?_);refine KL O (AU ?_);refine KO (r:=C3) nE O O k λv1 t g o=>AU ?_;have p:=a.mono' o;obtain⟨i,E⟩:=Lp E;refine Gl (r:=C3) (l:=([]:List G1)) (xs:=c) O O nE O (Sl.src p) O i O g (λ_=> .head) λu w j q=>AU ?_;cases E;exact GF j O O EX
def Ja (k:St S L h) {b:Value}{c:(List LA)}(a:Sl S h FX b c) {r:(List LA)}(E:Dy N c=some r):
 CM prog 91 #[b] S h (λv S' h'=>St S' (OS FX 153 v r::L) h'):=by
 refine CM.go 8 func91 O ntmps91 O λB=>?_;rw[Dy] at E;rcases a.cases with ⟨rfl,rfl⟩|⟨n,m,rfl,a⟩
 ·have s:(some ([]:List LA))=some r:=by simpa [chk,Ha] using E
  refine AU ?_;refine JX O O O aA (AU ?_);refine KK O (AU ?_);have d:=k.nil FX 153;cases E;exact GF d O O EX
 refine AU ?_;refine KM O O O aA (AU ?_);refine KL O (AU ?_);refine KO (r:=FX) nD O O k λv1 t g o=>AU ?_;have p:=a.mono' o;obtain⟨i,E⟩:=Lp E;refine Gl (r:=FX) (l:=([]:List LA)) (xs:=c) O O nD O (Sl.src p) O i O g (λ_=> .head) λu w j q=>AU ?_;cases E;exact GF j O O EX
def JB (k:St S L h) {b:Value}{c:(List FM)}(a:Sl S h DU b c) {r:(List FM)}(E:Di N c=some r):
 CM prog 92 #[b] S h (λv S' h'=>St S' (OS DU 158 v r::L) h'):=by
 refine CM.go 8 func92 O ntmps92 O λB=>?_;rw[Di] at E;rcases a.cases with ⟨rfl,rfl⟩|⟨n,m,rfl,a⟩
 ·have s:(some ([]:List FM))=some r:=by simpa [chk,Ha] using E
  refine AU ?_;refine JX O O O Z9 (AU ?_);refine KK O (AU ?_);have d:=k.nil DU 158;cases E;exact GF d O O EX
 refine AU ?_;refine KM O O O Z9 (AU ?_);refine KL O (AU ?_);refine KO (r:=DU) nC O O k λv1 t g o=>AU ?_;have p:=a.mono' o;obtain⟨i,E⟩:=Lp E;refine Gl (r:=DU) (l:=([]:List FM)) (xs:=c) O O nC O (Sl.src p) O i O g (λ_=> .head) λu w j q=>AU ?_;cases E;exact GF j O O EX
def JC (k:St S L h) {b:Value}{c:(List Iw)}(a:Sl S h Du b c) {r:(List Iw)}(E:Dj N c=some r):
 CM prog 93 #[b] S h (λv S' h'=>St S' (OS Du 163 v r::L) h'):=by
 refine CM.go 8 func93 O ntmps93 O λB=>?_;rw[Dj] at E;rcases a.cases with ⟨rfl,rfl⟩|⟨n,m,rfl,a⟩
 ·have s:(some ([]:List Iw))=some r:=by simpa [chk,Ha] using E
  refine AU ?_;refine JX O O O Z8 (AU ?_);refine KK O (AU ?_);have d:=k.nil Du 163;cases E;exact GF d O O EX
 refine AU ?_;refine KM O O O Z8 (AU ?_);refine KL O (AU ?_);refine KO (r:=Du) nB O O k λv1 t g o=>AU ?_;have p:=a.mono' o;obtain⟨i,E⟩:=Lp E;refine Gl (r:=Du) (l:=([]:List Iw)) (xs:=c) O O nB O (Sl.src p) O i O g (λ_=> .head) λu w j q=>AU ?_;cases E;exact GF j O O EX
def O8 (hs:St S L h) {j:Value}{a:B3}(K:Rd S h Cf j a) {r:B3}(E:Ir N a=some r):
 CM prog 40 #[j] S h (λv S' h'=>Rd S' h' Cf v r∧St S' (L) h'):=by
 refine CM.go 19 func40 O ntmps40 O λB=>?_;rw[Ir] at E;refine AU ?_;refine Cg O K CE O hs λq1 S2 h3 c1 e5 k6=>D0 Zz O c1 λb7 M g ek=>AU ?_;refine RW (kp [2,1] O) ?_;obtain⟨w,bc,E⟩:=bd E;obtain⟨y,be,E⟩:=bd E;obtain⟨z,bf,E⟩:=bd E;obtain⟨A,bg,E⟩:=bd E;obtain⟨C,bh,E⟩:=bd E;refine NS (m:=[(2,vP b7 0),(1,q1)]) 16 (λi v d=>match i with|0=>Pt S2 d (A7.sl AB) v a.T|1=>Sl S2 d AB v a.T|2=>Sl (SN S2 M d) d AB v w|3=>Pt S2 d (A7.sl C3) v a.Ab|4=>Sl S2 d C3 v a.Ab|5=>Sl (SN S2 M d) d C3 v y|6=>Pt S2 d (A7.sl FX) v a.Ac|7=>Sl S2 d FX v a.Ac|8=>Sl (SN S2 M d) d FX v z|9=>Pt S2 d (A7.sl DU) v a.U|10=>Sl S2 d DU v a.U|11=>Sl (SN S2 M d) d DU v A|12=>Pt S2 d (A7.sl Du) v a.Ae|13=>Sl S2 d Du v a.Ae|14=>Sl (SN S2 M d) d Du v C|15=>Rd (SN S2 M d) d Cf v (⟨w,y,z,A,C⟩:B3)|_=>False) [[],[(0,3)],[(1,4)],[],[(3,6)],[(4,7)],[],[(6,9)],[(7,10)],[],[(9,12)],[(10,13)],[],[(12,15)],[(13,16)],[(2,5),(5,8),(8,11),(11,14),(14,17)]] [(15,18)] mo (by kernel_rfl) [2,1] O (by kernel_rfl) (by kernel_rfl) (by kernel_rfl) (kp [2,1] O) MO ?_ ?_
 ·refine A6.cons O ?_ ?_
  ·intro D d o;have c:=o.st g;have bi:=k6.nw;have bj:=bi.fl B3.f_Rain;refine AU ?_;exact B1 bj
  refine A6.cons O ?_ ?_
  ·intro D d o;intro bk Q;have c:=o.st g;have Q:Pt _ _ (A7.sl AB) bk a.T:=Q;obtain⟨c7,_,bl⟩:=Q.ll;refine AU ?_;exact B1 bl
  refine A6.cons O ?_ ?_
  ·intro D d o;intro bm l;have c:=SN.st g o;have l:=Sl.sn M l;have l:Sl _ _ AB bm a.T:=l;have b:=c.fz;refine Fv O O O M8 O b (B8 (St.all _) (l.mono b.ea.1 b.ea.2) bc) λc8 c9 da c2 db bn p=>?_;have av:=p;have V:=b.join bn av ⟨OS.flat (λ{_ _ _ _ _ _} k=>k),trivial⟩;simp only[Abx,Abz] at V;obtain⟨dc,aw,dd,bo⟩:=V.pubs .head;have W:=Fz.done o EX aw;exact BA W.1 (Sl.mono' bo W.2)
  refine A6.cons O ?_ ?_
  ·intro D d o;have c:=o.st g;have bp:=k6.nw;have bq:=bp.fl Kv;refine AU ?_;exact B1 bq
  refine A6.cons O ?_ ?_
  ·intro D d o;intro br X;have c:=o.st g;have X:Pt _ _ (A7.sl C3) br a.Ab:=X;obtain⟨de,_,bs⟩:=X.ll;refine AU ?_;exact B1 bs
  refine A6.cons O ?_ ?_
  ·intro D d o;intro bt n;have c:=SN.st g o;have n:=Sl.sn M n;have n:Sl _ _ C3 bt a.Ab:=n;have b:=c.fz;refine Fv O O O wY O b (Il (St.all _) (n.mono b.ea.1 b.ea.2) be) λdf dg dh c3 di bu p=>?_;have ax:=p;have Y:=b.join bu ax ⟨OS.flat (λ{_ _ _ _ _ _} k=>k),trivial⟩;simp only[Abx,Abz] at Y;obtain⟨dj,ay,dk,bv⟩:=Y.pubs .head;have Z:=Fz.done o EX ay;exact BA Z.1 (Sl.mono' bv Z.2)
  refine A6.cons O ?_ ?_
  ·intro D d o;have c:=o.st g;have bw:=k6.nw;have bx:=bw.fl L7;refine AU ?_;exact B1 bx
  refine A6.cons O ?_ ?_
  ·intro D d o;intro bz ab;have c:=o.st g;have ab:Pt _ _ (A7.sl FX) bz a.Ac:=ab;obtain⟨dl,_,b0⟩:=ab.ll;refine AU ?_;exact B1 b0
  refine A6.cons O ?_ ?_
  ·intro D d o;intro b1 q;have c:=SN.st g o;have q:=Sl.sn M q;have q:Sl _ _ FX b1 a.Ac:=q;have b:=c.fz;refine Fv O O O wX O b (Ja (St.all _) (q.mono b.ea.1 b.ea.2) bf) λdm dn dp c4 dq b2 p=>?_;have az:=p;have ac:=b.join b2 az ⟨OS.flat (λ{_ _ _ _ _ _} k=>k),trivial⟩;simp only[Abx,Abz] at ac;obtain⟨dr,a0,ds,b3⟩:=ac.pubs .head;have ad:=Fz.done o EX a0;exact BA ad.1 (Sl.mono' b3 ad.2)
  refine A6.cons O ?_ ?_
  ·intro D d o;have c:=o.st g;have b4:=k6.nw;have b5:=b4.fl Lc;refine AU ?_;exact B1 b5
  refine A6.cons O ?_ ?_
  ·intro D d o;intro b6 af;have c:=o.st g;have af:Pt _ _ (A7.sl DU) b6 a.U:=af;obtain⟨dt,_,b8⟩:=af.ll;refine AU ?_;exact B1 b8
  refine A6.cons O ?_ ?_
  ·intro D d o;intro b9 s;have c:=SN.st g o;have s:=Sl.sn M s;have s:Sl _ _ DU b9 a.U:=s;have b:=c.fz;refine Fv O O O wW O b (JB (St.all _) (s.mono b.ea.1 b.ea.2) bg) λdu dv dw c5 dx ca p=>?_;have a1:=p;have ag:=b.join ca a1 ⟨OS.flat (λ{_ _ _ _ _ _} k=>k),trivial⟩;simp only[Abx,Abz] at ag;obtain⟨dy,a2,dz,cb⟩:=ag.pubs .head;have ah:=Fz.done o EX a2;exact BA ah.1 (Sl.mono' cb ah.2)
  refine A6.cons O ?_ ?_
  ·intro D d o;have c:=o.st g;have cc:=k6.nw;have cd:=cc.fl Ld;refine AU ?_;exact B1 cd
  refine A6.cons O ?_ ?_
  ·intro D d o;intro ce ai;have c:=o.st g;have ai:Pt _ _ (A7.sl Du) ce a.Ae:=ai;obtain⟨d0,_,cf⟩:=ai.ll;refine AU ?_;exact B1 cf
  refine A6.cons O ?_ ?_
  ·intro D d o;intro cg t;have c:=SN.st g o;have t:=Sl.sn M t;have t:Sl _ _ Du cg a.Ae:=t;have b:=c.fz;refine Fv O O O wV O b (JC (St.all _) (t.mono b.ea.1 b.ea.2) bh) λd1 d2 d3 c6 d4 ch p=>?_;have a3:=p;have aj:=b.join ch a3 ⟨OS.flat (λ{_ _ _ _ _ _} k=>k),trivial⟩;simp only[Abx,Abz] at aj;obtain⟨d5,a4,d6,ci⟩:=aj.pubs .head;have ak:=Fz.done o EX a4;exact BA ak.1 (Sl.mono' ci ak.2)
  refine A6.cons O ?_ ?_
  ·intro D d o;intro cj F ck G cl H cm I cn J;have c:=SN.st g o;have F:Sl _ _ AB cj w:=F;have G:Sl _ _ C3 ck y:=G;have H:Sl _ _ FX cl z:=H;have I:Sl _ _ DU cm A:=I;have J:Sl _ _ Du cn C:=J;refine AU ?_;obtain⟨a5,ao,rfl,d7⟩:=(F).len;obtain⟨a6,ap,rfl,d8⟩:=(G).len;obtain⟨a7,aq,rfl,d9⟩:=(H).len;obtain⟨a8,ar,rfl,eb⟩:=(I).len;obtain⟨a9,au,rfl,ec⟩:=(J).len;refine Gz (cs:=[(.slice a5 w.length ao),(.slice a6 y.length ap),(.slice a7 z.length aq),(.slice a8 A.length ar),(.slice a9 C.length au)]) Rg O O O (AU ?_);exact B1 (Cf.mk (x:=(⟨w,y,z,A,C⟩:B3)) F G H I J)
  exact trivial
 intro ed co cp am;have ba:=SN.st g co;have am:Rd _ _ Cf cp (⟨w,y,z,A,C⟩:B3):=am;obtain⟨ee,ef,eg,eh,ei,rfl,cq,cr,ct,cu,cv⟩:=Cf.ex am;refine JI O O O ON Pr.1 O ba .head O λej an u=>AU ?_;refine CO (λaa ww hf hw=>?_);have cw:=cq.mono' u;have cx:=cr.mono' u;have cy:=ct.mono' u;have cz:=cu.mono' u;have c0:=cv.mono' u;have bb:=an.drop .head;cases E;exact LC hf O hw (I4 (W4 hf hw an O mh Pr.1 O) LB) O EX ⟨(Cf.mk (x:=(⟨w,y,z,A,C⟩:B3)) cw cx cy cz c0),bb⟩
def Rz (hs:St S L h) {z:Value}{b:AI}(ab:Rd S h BO z b) {r:AI}(E:Kh N b=some r):
 CM prog 57 #[z] S h (λv S' h'=>∃w1 w2 w3 w4 w5 w6:Value,v= .agg #[vI r.B,w1,w2,w3,w4,w5,w6]∧AA r.B∧Sl S' h' A0 w3 r.I∧St S' (OO AB 3 29 w1 r.G::OS AB 3 w2 r.N::OS BT 107 w4 r.P::OS AB 3 w5 r.L::OS AB 3 w6 r.O::L) h'):=by
 refine CM.go 43 func57 O ntmps57 O λB=>?_;rw[Kh] at E;refine AU ?_;obtain⟨v3,v5,v7,v9,M,K,rfl,r2,k4,k6,k8,bk,bl,bm⟩:=BO.ex ab;refine Nb O O O hs λac cn ax bn=>D0 Ng O ax λad co ay cp=>?_;have cq:=k4.nw;refine AU ?_;obtain⟨az,E⟩:=Lp E;refine lT AB 3 WV O O az O O ay λae ak a0 cr=>?_;have bo:=k4.nw;refine AU ?_;refine AQ (λa w=>∃(m:List (List Int)),IV B S ak (43,[]) a w [(3,ae),(2,vP ad 0),(1,vP ac 0)] (OO AB 3 29 ae m::Bx ad 36 [vI 0,vN,vN,vN,vN,vN,vN]::Bx ac 36 [vI b.B,v3,v5,v7,v9,M,K]::L) λ_ _=>GL N b m=some r) ?_ ?_
 ·refine A8 (λn1=>λa w=>∃(s:Int) (Q:List (List Int)),IV B S ak (43,[]) a w [(12,vI (↑b.G.length:Int)),(11,v3),(3,ae),(2,vP ad 0),(1,vP ac 0),(13,vI s)] (OO AB 3 29 ae Q::Bx ad 36 [vI 0,vN,vN,vN,vN,vN,vN]::Bx ac 36 [vI b.B,v3,v5,v7,v9,M,K]::L) λ_ _=>AA s∧GK N b (GL N b) n1 s Q=some r) N ?_ ?_ ?_
  ·intro aa ww A C;exact⟨0,(List.replicate ((↑b.G.length:Int):Int).toNat ([]:(List Int))),_,_,A.sub (kp [12,11,3,2,1,13] O),C,a0,(C2.refl S ak),(iq (n:=0) O),E⟩
  ·rintro aa ww ⟨_,_,_,_,_,_,_,_,_,E⟩;rw[GK] at E;cases E
  rintro n1 aa ww ⟨s,Q,cs,ct,A,C,o,a1,cu,E⟩;refine AK ?_ A C;clear A C ww aa;rw[GK] at E;refine AU ?_;refine AH O E (λbp E=>?_) (λbp E=>?_)
  ·refine AU ?_;refine A5 (AU ?_);have bq:=bo.mono' a1;refine BI E O O bq Jh.1 O λcv E cw br=>?_;obtain⟨cx,_,bs⟩:=br.ll;refine AU ?_;refine De (AU ?_);refine Dd E O O O M8 O o (λa2 a3=>B8 (St.all _) (bs.mono o.ea.1 o.ea.2) a3) λa2 E cy cz c0 b1 c1 bt p=>?_;have a4:=p;have U:=o.join bt a4 ⟨OS.flat (λ{_ _ _ _ _ _} k=>k),trivial⟩;simp only[Abx,Abz] at U;refine AU ?_;obtain⟨c2,a5,E⟩:=bd E;refine Q6 (r:=AB) U (mt mh) O O Jh.1 a5 O λc3 a6=>AU ?_;obtain⟨c4,a7,E⟩:=bd E;refine Y1 (r:=AB) (i:=s) O O a6 a7 GU.1 U λc5 a8 c6=>AU ?_;refine BJ (AU ?_);refine WF.nil (λaa ww A C=>?_);exact⟨(BQ (s+1)),(upd Q s a2),_,_,A.sub (kp [12,11,3,2,1,13] O),C,a8,EX,(BW _),E⟩
  refine BL O (λaa ww A C=>?_);exact⟨Q,_,_,A.sub (kp [3,2,1] O),C,o,a1,E⟩
 rintro aa ww ⟨m,c7,c8,A,C,ah,c9,E⟩;refine AK ?_ A C;clear A C ww aa;rw[GL] at E;refine AU ?_;obtain⟨q,c,rfl,da⟩:=ah.oolen mh;refine Ge (cs':=[vI b.B,(.slice q m.length c),v5,v7,v9,M,K]) O O O O Vk.1 O ah (.tail (.tail .head)) O O λdb D dc=>AU ?_;refine De (AU ?_);have bu:=k6.nw;refine Dd E O O O M8 O D (λV a9=>B8 (St.all _) (bu.mono D.ea.1 D.ea.2) a9) λV E dd de df b2 dg bv p=>?_;have ba:=p;have W:=D.join bv ba ⟨OS.flat (λ{_ _ _ _ _ _} k=>k),trivial⟩;simp only[Abx,Abz] at W;refine AU ?_;obtain⟨F,d,rfl,dh⟩:=W.oslen mh;refine Ge (cs':=[vI b.B,(.slice q m.length c),(.slice F V.length d),v7,v9,M,K]) O O O O GU.1 O W (.tail (.tail (.tail .head))) O O λdi H dj=>AU ?_;refine De (AU ?_);have bw:=bk.nw;refine Dd E O O O fL O H (λaf bb=>GV (St.all _) (bw.mono H.ea.1 H.ea.2) bb) λaf E dk dl b3 bx b4 bc p=>?_;have am:=p;have t:=H.join bc am ⟨OS.flat (λ{_ _ _ _ _ _} k=>k),trivial⟩;simp only[Abx,Abz] at t;refine AU ?_;obtain⟨u,g,rfl,b5⟩:=t.oslen mh;refine Ge (cs':=[vI b.B,(.slice q m.length c),(.slice F V.length d),v7,(.slice u af.length g),M,K]) O O O O mD.1 O t (.tail (.tail (.tail (.tail .head)))) O O λb6 j b7=>AU ?_;refine De (AU ?_);have be:=bl.nw;refine Dd E O O O M8 O j (λX an=>B8 (St.all _) (be.mono j.ea.1 j.ea.2) an) λX E b8 b9 ca bz cb bf p=>?_;have ao:=p;have x:=j.join bf ao ⟨OS.flat (λ{_ _ _ _ _ _} k=>k),trivial⟩;simp only[Abx,Abz] at x;refine AU ?_;obtain⟨Y,J,rfl,cc⟩:=x.oslen mh;refine Ge (cs':=[vI b.B,(.slice q m.length c),(.slice F V.length d),v7,(.slice u af.length g),(.slice Y X.length J),K]) O O O O GU.1 O x (.tail (.tail (.tail (.tail (.tail .head))))) O O λcd l ce=>AU ?_;refine De (AU ?_);have bg:=bm.nw;refine Dd E O O O M8 O l (λai ap=>B8 (St.all _) (bg.mono l.ea.1 l.ea.2) ap) λai E cf cg ch b0 ci bh p=>?_;have aq:=p;have y:=l.join bh aq ⟨OS.flat (λ{_ _ _ _ _ _} k=>k),trivial⟩;simp only[Abx,Abz] at y;refine AU ?_;obtain⟨ar,ag,rfl,cj⟩:=y.oslen mh;refine Ge (cs':=[vI b.B,(.slice q m.length c),(.slice F V.length d),v7,(.slice u af.length g),(.slice Y X.length J),(.slice ar ai.length ag)]) O O O O GU.1 O y (.tail (.tail (.tail (.tail (.tail (.tail .head)))))) O O λck au cl=>AU ?_;have bi:=k8.nw;refine JI O O O ON II.1 O au (.tail (.tail (.tail (.tail (.tail .head))))) O λcm av aj=>AU ?_;refine CO (λaa ww A C=>?_);have Z:=av.sel [4,3,2,1,0,0] 1 O;have bj:=bi.mono' aj;have aw:=Z.drop (.tail (.tail (.tail (.tail (.tail .head)))));cases E;exact LC A O C (I4 (W4 A C Z O (mt (mt (mt (mt (mt mh))))) II.1 O) LB) O ((((((bn.trans EX).trans EX).trans EX).trans EX).trans EX).trans aj) ⟨_,_,_,_,_,_,O,r2,bj,aw⟩
def TE (hs:St S L h) {i:Value}{l:BB}(p:Rd S h CD i l) {j:Value}{b:A4}(q:Rd S h BT j b) {c:Int}(y:AA c) {r:A4}(E:IS N l b c=some r):
 CM prog 114 #[i,j,vI c] S h (λv S' h'=>v= .agg #[vI r.Z,vI r.Aa,.bool r.Ay,.bool r.Am]∧A4.ok r∧St S' (L) h'):=by
 refine CM.go 24 func114 O ntmps114 O λB=>?_;rw[IS] at E;refine AU ?_;refine Cg O p CE O hs λq1 S2 h3 Q e5 k6=>?_;have k7:=q.mono e5;obtain⟨rfl,⟨r9,U⟩⟩:=BT.ex k7;refine Nb O O O Q λs ae D af=>D0 SS O D λt u k ag=>AU ?_;refine AQ (λa w=>∃(z:Bool) (A:Bool),IV B S2 u (24,[]) a w [(6,vP t 0),(4,vP s 0)] (Bx t 107 [vI 0,vI 0,.bool false,.bool false]::Bx s 107 [vI b.Z,vI b.Aa,.bool z,.bool A]::L) λ_ _=>G6 N b z A=some r) ?_ ?_
 ·refine AU ?_;refine AH O E (λV E=>?_) (λV E=>?_)
  ·refine AU ?_;refine Ge (cs':=[vI b.Z,vI b.Aa,.bool true,.bool b.Am]) O O O O Tg.1 O k (.tail .head) O O λah F W=>AU ?_;refine WF.nil (λm n d g=>?_);exact⟨true,b.Am,_,_,d.sub (kp [6,4] O),g,F,W,E⟩
  refine AU ?_;refine AH O E (λX E=>?_) (λX E=>?_)
  ·refine AU ?_;refine Ge (cs':=[vI b.Z,vI b.Aa,.bool false,.bool b.Am]) O O O O Tg.1 O k (.tail .head) O O λai G Y=>AU ?_;refine WF.nil (λm n d g=>?_);exact⟨false,b.Am,_,_,d.sub (kp [6,4] O),g,G,Y,E⟩
  refine AU ?_;refine JH (λa w=>∃(C:Bool),IV B S2 u (24,[]) a w [(6,vP t 0),(4,vP s 0),(3,q1),(2,vI c),(14,.bool C)] (Bx t 107 [vI 0,vI 0,.bool false,.bool false]::Bx s 107 [vI b.Z,vI b.Aa,.bool b.Ay,.bool b.Am]::L) λ_ _=>Hh N l b c (G6 N b) C=some r) ?_ ?_
  ·refine AH O E (λab E=>?_) (λab E=>?_)
   ·refine AU ?_;refine WF.nil (λm n d g=>?_);exact⟨(decide (c=2)),_,_,d.sub (kp [6,4,3,2,14] O),g,k,(C2.refl S2 u),E⟩
   refine AU ?_;refine WF.nil (λm n d g=>?_);exact⟨(decide (c=3)),_,_,d.sub (kp [6,4,3,2,14] O),g,k,(C2.refl S2 u),E⟩
  rintro m n ⟨C,aj,ak,d,g,o,H,E⟩;refine AK ?_ d g;clear d g n m;rw[Hh] at E;refine AH O E (λac E=>?_) (λac E=>?_)
  ·have am:=k6.nw;refine AU ?_;refine AH O E (λad E=>?_) (λad E=>?_)
   ·refine AU ?_;refine Ge (cs':=[vI b.Z,vI b.Aa,.bool b.Ay,.bool (decide (c=2))]) O O O O Tg.1 O o (.tail .head) O O λan I ao=>AU ?_;refine WF.nil (λm n d g=>?_);exact⟨b.Ay,(decide (c=2)),_,_,d.sub (kp [6,4] O),g,I,EX,E⟩
   refine AU ?_;refine WF.nil (λm n d g=>?_);exact⟨b.Ay,b.Am,_,_,d.sub (kp [6,4] O),g,o,H,E⟩
  refine AU ?_;refine WF.nil (λm n d g=>?_);exact⟨b.Ay,b.Am,_,_,d.sub (kp [6,4] O),g,o,H,E⟩
 rintro m n ⟨z,A,ap,aq,d,g,J,ar,E⟩;refine AK ?_ d g;clear d g n m;rw[G6] at E;refine AU ?_;refine FL O O O O I6.1 O J .head O λau K av=>AU ?_;refine CO (λm n d g=>?_);have x:=K.drop (.tail .head);have M:=x.drop .head;cases E;exact LC d O g (I4 (W4 d g x O mh I6.1 O) LB) O EX ⟨O,⟨r9,U⟩,M⟩
def Ks (l:St S L h) {c:Int}(i:AA c) {b:Int}(g:AA b) {a:Int}(d:AA a) {r:Int}(E:Ib N c b a=some r):
 CM prog 14 #[vI c,vI b,vI a] S h (λv S' h'=>v=vI r∧AA r∧St S' (L) h'):=by
 refine CM.go 16 func14 O ntmps14 O λB=>?_;rw[Ib] at E;refine AU ?_;refine AH O E (λj E=>?_) (λj E=>?_)
 ·exact RT
 refine AU ?_;refine AH O E (λk E=>?_) (λk E=>?_)
 ·exact RT
 exact RT
def Uy (hs:St S L h) {g:Value}{s:BB}(k:Rd S h CD g s) {j:Value}{b:A4}(l:Rd S h BT j b) {c:Int}(d:AA c) {r:A4}(E:Jx N s b c=some r):
 CM prog 115 #[g,j,vI c] S h (λv S' h'=>v= .agg #[vI r.Z,vI r.Aa,.bool r.Ay,.bool r.Am]∧A4.ok r∧St S' (L) h'):=by
 refine CM.go 16 func115 O ntmps115 O λB=>?_;rw[Jx] at E;refine AU ?_;refine Cg O k CE O hs λq1 S2 h3 Q e5 k6=>?_;have k7:=l.mono e5;obtain⟨rfl,⟨r9,U⟩⟩:=BT.ex k7;refine Nb O O O Q λy ae z af=>D0 SS O z λA C t ag=>?_;have V:=k6.nw;refine AU ?_;refine JH (λa w=>∃(m:Int),IV B S2 C (16,[]) a w [(6,vP A 0),(4,vP y 0)] (Bx A 107 [vI 0,vI 0,.bool false,.bool false]::Bx y 107 [vI b.Z,vI m,.bool b.Ay,.bool b.Am]::L) λ_ _=>AA m∧L3 N b m=some r) ?_ ?_
 ·refine AH O E (λW E=>?_) (λW E=>?_)
  ·refine De ?_;have X:=V.fl Gm;have Y:=X.i;refine AU ?_;refine Dd E O O O YV O t (λx D=>Ks (St.all _) d (iq (n:=0) O) Y D) λx E ah ai aj F ak am p=>?_;obtain⟨rfl,ab,ad⟩:=p;refine AU ?_;refine Ge (cs':=[vI b.Z,vI x,.bool b.Ay,.bool b.Am]) O O O O Fi.1 O F (.tail .head) O O λan G ao=>AU ?_;refine WF.nil (λK M o q=>?_);exact⟨x,_,_,o.sub (kp [6,4] O),q,G,EX,ab,E⟩
  refine AU ?_;refine WF.nil (λK M o q=>?_);exact⟨b.Aa,_,_,o.sub (kp [6,4] O),q,t,(C2.refl S2 C),U,E⟩
 rintro K M ⟨m,ap,aq,o,q,H,ar,ac,E⟩;refine AK ?_ o q;clear o q M K;rw[L3] at E;refine AU ?_;refine FL O O O O I6.1 O H .head O λau I av=>AU ?_;refine CO (λK M o q=>?_);have u:=I.drop (.tail .head);have J:=u.drop .head;cases E;exact LC o O q (I4 (W4 o q u O mh I6.1 O) LB) O EX ⟨O,⟨r9,ac⟩,J⟩
def Kk (j:St S L h) {a:Int}(c:AA a) {b:Int}(d:AA b) {r:Int}(E:Hi N a b=some r):
 CM prog 187 #[vI a,vI b] S h (λv S' h'=>v=vI r∧AA r∧St S' (L) h'):=by
 refine CM.go 24 func187 O ntmps187 O λB=>?_;rw[Hi] at E;refine AU ?_;refine AH O E (λg E=>?_) (λg E=>?_)
 ·exact RT
 refine AU ?_;refine AH O E (λi E=>?_) (λi E=>?_)
 ·exact RT
 exact RT
def Tr (hs:St S L h) {b:Value}{j:BB}(d:Rd S h CD b j) {c:Value}{a:A4}(g:Rd S h BT c a) {r:A4}(E:Ia N j a=some r):
 CM prog 116 #[b,c] S h (λv S' h'=>v= .agg #[vI r.Z,vI r.Aa,.bool r.Ay,.bool r.Am]∧A4.ok r∧St S' (L) h'):=by
 refine CM.go 26 func116 O ntmps116 O λB=>?_;rw[Ia] at E;refine AU ?_;refine Cg O d CE O hs λq1 S2 h3 M e5 k6=>?_;have k7:=g.mono e5;obtain⟨rfl,⟨Q,q⟩⟩:=BT.ex k7;refine Nb O O O M λan ao s ap=>D0 SS O s λaq ar k au=>AU ?_;refine AH O E (λU E=>?_) (λU E=>?_)
 ·refine AU ?_;refine FL O O O O I6.1 O k .head O λav t aw=>AU ?_;refine CO (λaa ww u w=>?_);have l:=t.drop (.tail .head);have x:=l.drop .head;cases E;exact LC u O w (I4 (W4 u w l O mh I6.1 O) LB) O EX ⟨O,⟨Q,q⟩,x⟩
 refine AU ?_;refine CV (.inr ⟨mo,by kernel_rfl⟩) k (AU ?_);refine DV E O O O TM O (λV y h' o=>Kk (St.all h') q Q y) λV E W=>?_;have X:=W;have z:=k6.nw;have Y:=z.fl Kp;have ab:=Y.i;refine AU ?_;refine DV E O O O TM O (λac A h' o=>Kk (St.all h') (iq (n:=0) O) ab A) λac E ad=>?_;have ae:=ad;have af:=z.fl Kp;have ag:=af.i;refine AU ?_;refine DV E O O O YV O (λah C h' o=>Ks (St.all h') X ae ag C) λah E ai=>?_;have aj:=ai;refine AU ?_;refine BZ (kp [5,4,3] O) λax D ay=>AU ?_;refine De (AU ?_);refine Dd E O O O Wb O D (λF G=>Kl (St.all _) Q aj G) λF E az a0 a1 H a2 a3 p=>?_;obtain⟨rfl,ak,am⟩:=p;refine AU ?_;refine Ge (cs':=[vI F,vI a.Aa,.bool a.Ay,.bool a.Am]) O O O O Fi.1 O H (.tail .head) O O λa4 I a5=>AU ?_;refine FL O O O O I6.1 O I .head O λa6 J a7=>AU ?_;refine CO (λaa ww u w=>?_);have m:=J.drop (.tail .head);have K:=m.drop .head;cases E;exact LC u O w (I4 (W4 u w m O mh I6.1 O) LB) O EX ⟨O,⟨ak,q⟩,K⟩
def Ph {y:Nat}{p0_w:AM}{V:Value}{W:Value}{Q:Value}{X:Value}{Y:Value}{Z:Value}{ab:Value}{ac:Value}{z:Value}{t:Value}{u:Value}{D:Value}{F:Value}{c:Value}{d:Value}{M:Value}{q:Value}{g:Value}{j:Value}{k:Value}{m:Value}{p:Value}(hs:St S (Bx y 112 [.string p0_w.b.E,V,vI p0_w.b.J,W,Q,X,Y,Z,ab,ac,vI p0_w.b.K,z,t,u,D,F,vI p0_w.s.B,c,d,M,q,g,j,k,m,p]::OO AB 3 29 c p0_w.s.G::OS AB 3 d p0_w.s.N::OS BT 107 q p0_w.s.P::OS AB 3 g p0_w.s.L::OS AB 3 j p0_w.s.O::OS CC 116 k p0_w.moves::OS AB 3 m p0_w.peaks::OS A0 103 p p0_w.sent::L) h) (b5:p0_w.b.E.size≤maxLen) (b6:Sl S h A7.str V p0_w.b.H) (b7:AA p0_w.b.J) (b8:Sl S h B4 W p0_w.b.A) (ad:Sl S h CD Q p0_w.b.C) (b9:Sl S h HN X p0_w.b.Af) (ca:Sl S h Ex Y p0_w.b.Ah) (cb:Sl S h G7 Z p0_w.b.Ai) (cc:Sl S h Dc ab p0_w.b.Ak) (cd:Sl S h AB ac p0_w.b.Aj) (a3:AA p0_w.b.K) (a4:Sl S h AB z p0_w.in_.T) (aj:Sl S h C3 t p0_w.in_.Ab) (ak:Sl S h FX u p0_w.in_.Ac) (a5:Sl S h DU D p0_w.in_.U) (a6:Sl S h Du F p0_w.in_.Ae) (a7:AA p0_w.s.B) (a8:Sl S h A0 M p0_w.s.I) {r:(List A4)}(E:HQ N p0_w=some r):
 CM prog 58 #[vP y 0] S h (λv S' h'=>∃ao:Value,v= .tuple #[]∧St S' (Bx y 112 [.string p0_w.b.E,V,vI p0_w.b.J,W,Q,X,Y,Z,ab,ac,vI p0_w.b.K,z,t,u,D,F,vI p0_w.s.B,c,d,M,ao,g,j,k,m,p]::OO AB 3 29 c p0_w.s.G::OS AB 3 d p0_w.s.N::OS BT 107 ao r::OS AB 3 g p0_w.s.L::OS AB 3 j p0_w.s.O::OS CC 116 k p0_w.moves::OS AB 3 m p0_w.peaks::OS A0 103 p p0_w.sent::L) h'):=by
 refine CM.go 135 func58 O ntmps58 O λB=>?_;rw[HQ] at E;refine AU ?_;refine AQ (λa w=>∃(l2:List A4),IV B S h (135,[]) a w [(0,vP y 0)] (Bx y 112 [.string p0_w.b.E,V,vI p0_w.b.J,W,Q,X,Y,Z,ab,ac,vI p0_w.b.K,z,t,u,D,F,vI p0_w.s.B,c,d,M,q,g,j,k,m,p]::OO AB 3 29 c p0_w.s.G::OS AB 3 d p0_w.s.N::OS BT 107 q l2::OS AB 3 g p0_w.s.L::OS AB 3 j p0_w.s.O::OS CC 116 k p0_w.moves::OS AB 3 m p0_w.peaks::OS A0 103 p p0_w.sent::L) λ_ _=>Dm N p0_w l2=some r) ?_ ?_
 ·refine A8 (λn1=>λa w=>∃(i6:Int) (l8:List A4),IV B S h (135,[]) a w [(13,vI (↑p0_w.in_.Ab.length:Int)),(12,t),(0,vP y 0),(14,vI i6)] (Bx y 112 [.string p0_w.b.E,V,vI p0_w.b.J,W,Q,X,Y,Z,ab,ac,vI p0_w.b.K,z,t,u,D,F,vI p0_w.s.B,c,d,M,q,g,j,k,m,p]::OO AB 3 29 c p0_w.s.G::OS AB 3 d p0_w.s.N::OS BT 107 q l8::OS AB 3 g p0_w.s.L::OS AB 3 j p0_w.s.O::OS CC 116 k p0_w.moves::OS AB 3 m p0_w.peaks::OS A0 103 p p0_w.sent::L) λ_ _=>AA i6∧DF N p0_w (Dm N p0_w) n1 i6 l8=some r) N ?_ ?_ ?_
  ·intro aa ww hf hw;exact⟨0,p0_w.s.P,_,_,hf.sub (kp [13,12,0,14] O),hw,hs,(C2.refl S h),(iq (n:=0) O),E⟩
  ·rintro aa ww ⟨_,_,_,_,_,_,_,_,_,E⟩;rw[DF] at E;cases E
  rintro n1 aa ww ⟨i6,l8,S9,dv,hf,hw,ax,ce,r7,E⟩;refine AK ?_ hf hw;clear hf hw ww aa;rw[DF] at E;refine AU ?_;refine AH O E (λdw E=>?_) (λdw E=>?_)
  ·refine AU ?_;refine AQ (λa w=>∃(au:List A4),IV B S9 dv (135,[]) a w [(13,vI (↑p0_w.in_.Ab.length:Int)),(12,t),(0,vP y 0),(14,vI i6)] (Bx y 112 [.string p0_w.b.E,V,vI p0_w.b.J,W,Q,X,Y,Z,ab,ac,vI p0_w.b.K,z,t,u,D,F,vI p0_w.s.B,c,d,M,q,g,j,k,m,p]::OO AB 3 29 c p0_w.s.G::OS AB 3 d p0_w.s.N::OS BT 107 q au::OS AB 3 g p0_w.s.L::OS AB 3 j p0_w.s.O::OS CC 116 k p0_w.moves::OS AB 3 m p0_w.peaks::OS A0 103 p p0_w.sent::L) λ_ _=>HC N i6 (DF N p0_w (Dm N p0_w) n1) au=some r) ?_ ?_
   ·refine AU ?_;have dx:=aj.mono' ce;refine BI E O O dx bR.1 O λcf E gi dy=>?_;obtain⟨gj,_,dz⟩:=dy.lv;refine AU ?_;refine D0 oK O ax λgl gm cg d0=>?_;have d1:=dz.mono d0;obtain⟨rfl,⟨d2,d3⟩⟩:=C3.ex d1;refine FL O O O O pC.1 O cg .head O λgn ch gp=>AU ?_;refine CV (.inr ⟨mo,by kernel_rfl⟩) ch ?_;have d4:=ad.nw;have d5:=d4.le;refine AU ?_;refine BC E O O O O5 O (λd6 ci h' o=>H0 (St.all h') d3 (Lj d5) ci) λd6 E=>BZ (kp [26,3,13,12,0,14] O) λgq ag gr=>AH O E (λd7 E=>?_) (λd7 E=>?_)
    ·refine OC 29 mo (by kernel_rfl) O ag (AU ?_);have d8:=ad.nw;refine BI E O O d8 OK.1 O λgs E gt d9=>?_;obtain⟨gu,_,ea⟩:=d9.lv;refine AU ?_;obtain⟨gv,cj,E⟩:=bd E;refine BR ag (mt (mt (mt (mt mh)))) O O OJ.1 cj O λgw ck=>?_;obtain⟨gx,cl,E⟩:=bd E;have eb:=ag.epAt (mt (mt (mt (mt mh)))) cl Fg.id ck;refine KZ OM (λ_ x=>x) O eb I6.1 CE O λgy ec=>AU ?_;refine DV E O O O tD O (λa9 cm h' o=>TE (St.all h') (ea.mono (o.all ag.1)) (ec.mono (o.all ag.1)) d2 cm) λa9 E ed=>?_;obtain⟨ee,ef⟩:=ed;obtain⟨gz,cn,E⟩:=bd E;refine BR ag (mt (mt (mt (mt mh)))) O O OJ.1 cn O λg0 co=>Ml λg1 cp g2=>?_;obtain⟨eg,cq,E⟩:=bd E;refine Ee (r:=BT) (l:=l8) (i:=cf.Ar) (x:=eg) O O (BT.mk (x:=a9) ⟨ee,ef⟩) co cq L4.id I6.1 CE cp (.tail (.tail (.tail (.tail .head)))) λg3 cr g4=>AU ?_;refine WF.nil (λaa ww hf hw=>?_);have cs:=cr.sel [1,1,1,1,1,1,1,1,1] 1 O;exact⟨(upd l8 cf.Ar a9),_,_,hf.sub (kp [13,12,0,14] O),hw,cs,EX,E⟩
    refine AU ?_;refine WF.nil (λaa ww hf hw=>?_);have ct:=ag.sel [1,1,1,1,1,1,1,1,1] 1 O;exact⟨l8,_,_,hf.sub (kp [13,12,0,14] O),hw,ct,EX,E⟩
   rintro aa ww ⟨au,g5,g6,hf,hw,cu,g7,E⟩;refine AK ?_ hf hw;clear hf hw ww aa;rw[HC] at E;refine AU ?_;refine WF.nil (λaa ww hf hw=>?_);exact⟨(BQ (i6+1)),au,_,_,hf.sub (kp [13,12,0,14] O),hw,cu,EX,(BW _),E⟩
  refine BL O (λaa ww hf hw=>?_);exact⟨l8,_,_,hf.sub (kp [0] O),hw,ax,ce,E⟩
 rintro aa ww ⟨l2,ba,bb,hf,hw,cv,eh,E⟩;refine AK ?_ hf hw;clear hf hw ww aa;rw[Dm] at E;have ei:=ak.mono' eh;refine AU ?_;refine AQ (λa w=>∃(av:List A4),IV B ba bb (135,[]) a w [(0,vP y 0)] (Bx y 112 [.string p0_w.b.E,V,vI p0_w.b.J,W,Q,X,Y,Z,ab,ac,vI p0_w.b.K,z,t,u,D,F,vI p0_w.s.B,c,d,M,q,g,j,k,m,p]::OO AB 3 29 c p0_w.s.G::OS AB 3 d p0_w.s.N::OS BT 107 q av::OS AB 3 g p0_w.s.L::OS AB 3 j p0_w.s.O::OS CC 116 k p0_w.moves::OS AB 3 m p0_w.peaks::OS A0 103 p p0_w.sent::L) λ_ _=>Dk N p0_w av=some r) ?_ ?_
 ·refine A8 (λn4=>λa w=>∃(am:Int) (an:List A4),IV B ba bb (135,[]) a w [(62,vI (↑p0_w.in_.Ac.length:Int)),(61,u),(0,vP y 0),(63,vI am)] (Bx y 112 [.string p0_w.b.E,V,vI p0_w.b.J,W,Q,X,Y,Z,ab,ac,vI p0_w.b.K,z,t,u,D,F,vI p0_w.s.B,c,d,M,q,g,j,k,m,p]::OO AB 3 29 c p0_w.s.G::OS AB 3 d p0_w.s.N::OS BT 107 q an::OS AB 3 g p0_w.s.L::OS AB 3 j p0_w.s.O::OS CC 116 k p0_w.moves::OS AB 3 m p0_w.peaks::OS A0 103 p p0_w.sent::L) λ_ _=>AA am∧DE N p0_w (Dk N p0_w) n4 am an=some r) N ?_ ?_ ?_
  ·intro aa ww hf hw;exact⟨0,l2,_,_,hf.sub (kp [62,61,0,63] O),hw,cv,(C2.refl ba bb),(iq (n:=0) O),E⟩
  ·rintro aa ww ⟨_,_,_,_,_,_,_,_,_,E⟩;rw[DE] at E;cases E
  rintro n4 aa ww ⟨am,an,ej,ek,hf,hw,ay,cw,g8,E⟩;refine AK ?_ hf hw;clear hf hw ww aa;rw[DE] at E;refine AU ?_;refine AH O E (λel E=>?_) (λel E=>?_)
  ·refine AU ?_;refine AQ (λa w=>∃(aw:List A4),IV B ej ek (135,[]) a w [(62,vI (↑p0_w.in_.Ac.length:Int)),(61,u),(0,vP y 0),(63,vI am)] (Bx y 112 [.string p0_w.b.E,V,vI p0_w.b.J,W,Q,X,Y,Z,ab,ac,vI p0_w.b.K,z,t,u,D,F,vI p0_w.s.B,c,d,M,q,g,j,k,m,p]::OO AB 3 29 c p0_w.s.G::OS AB 3 d p0_w.s.N::OS BT 107 q aw::OS AB 3 g p0_w.s.L::OS AB 3 j p0_w.s.O::OS CC 116 k p0_w.moves::OS AB 3 m p0_w.peaks::OS A0 103 p p0_w.sent::L) λ_ _=>HB N am (DE N p0_w (Dk N p0_w) n4) aw=some r) ?_ ?_
   ·refine AU ?_;have em:=ei.mono' cw;refine BI E O O em bQ.1 O λcx E g9 en=>?_;obtain⟨eo,_,cy⟩:=en.lv;refine AU ?_;refine D0 oJ O ay λep eq bc cz=>?_;have c0:=cy.mono cz;obtain⟨rfl,⟨c1,c2⟩⟩:=FX.ex c0;refine FL O O O O pB.1 O bc .head O λer be es=>AU ?_;refine CV (.inr ⟨mo,by kernel_rfl⟩) be ?_;have c3:=ad.nw;have c4:=c3.le;refine AU ?_;refine BC E O O O O5 O (λc5 bf h' o=>H0 (St.all h') c1 (Lj c4) bf) λc5 E=>BZ (kp [75,5,62,61,0,63] O) λeu ae ev=>AH O E (λc6 E=>?_) (λc6 E=>?_)
    ·refine OC 29 mo (by kernel_rfl) O ae (AU ?_);have c7:=ad.nw;refine BI E O O c7 OK.1 O λew E ey c8=>?_;obtain⟨ez,_,c9⟩:=c8.lv;refine AU ?_;obtain⟨e0,bg,E⟩:=bd E;refine BR ae (mt (mt (mt (mt mh)))) O O OJ.1 bg O λe1 bh=>?_;obtain⟨e2,bi,E⟩:=bd E;have da:=ae.epAt (mt (mt (mt (mt mh)))) bi Fg.id bh;refine KZ OM (λ_ x=>x) O da I6.1 CE O λe3 db=>AU ?_;refine DV E O O O tC O (λaq bj h' o=>Uy (St.all h') (c9.mono (o.all ae.1)) (db.mono (o.all ae.1)) c2 bj) λaq E dc=>?_;obtain⟨dd,de⟩:=dc;obtain⟨e4,bk,E⟩:=bd E;refine BR ae (mt (mt (mt (mt mh)))) O O OJ.1 bk O λe5 bl=>Ml λe6 bm e7=>?_;obtain⟨df,bn,E⟩:=bd E;refine Ee (r:=BT) (l:=an) (i:=cx.Ar) (x:=df) O O (BT.mk (x:=aq) ⟨dd,de⟩) bl bn L4.id I6.1 CE bm (.tail (.tail (.tail (.tail .head)))) λe8 bo e9=>AU ?_;refine WF.nil (λaa ww hf hw=>?_);have bp:=bo.sel [1,1,1,1,1,1,1,1,1] 1 O;exact⟨(upd an cx.Ar aq),_,_,hf.sub (kp [62,61,0,63] O),hw,bp,EX,E⟩
    refine AU ?_;refine WF.nil (λaa ww hf hw=>?_);have bq:=ae.sel [1,1,1,1,1,1,1,1,1] 1 O;exact⟨an,_,_,hf.sub (kp [62,61,0,63] O),hw,bq,EX,E⟩
   rintro aa ww ⟨aw,fa,fb,hf,hw,br,fc,E⟩;refine AK ?_ hf hw;clear hf hw ww aa;rw[HB] at E;refine AU ?_;refine WF.nil (λaa ww hf hw=>?_);exact⟨(BQ (am+1)),aw,_,_,hf.sub (kp [62,61,0,63] O),hw,br,EX,(BW _),E⟩
  refine BL O (λaa ww hf hw=>?_);exact⟨an,_,_,hf.sub (kp [0] O),hw,ay,cw,E⟩
 rintro aa ww ⟨av,az,a0,hf,hw,bs,fd,E⟩;refine AK ?_ hf hw;clear hf hw ww aa;rw[Dk] at E;have dg:=ad.nw;refine AU ?_;refine A5 (A8 (λn6=>λa w=>∃(ah:Int) (ai:List A4),IV B az a0 (135,[]) a w [(111,vI (↑p0_w.b.C.length:Int)),(110,Q),(0,vP y 0),(112,vI ah)] (Bx y 112 [.string p0_w.b.E,V,vI p0_w.b.J,W,Q,X,Y,Z,ab,ac,vI p0_w.b.K,z,t,u,D,F,vI p0_w.s.B,c,d,M,q,g,j,k,m,p]::OO AB 3 29 c p0_w.s.G::OS AB 3 d p0_w.s.N::OS BT 107 q ai::OS AB 3 g p0_w.s.L::OS AB 3 j p0_w.s.O::OS CC 116 k p0_w.moves::OS AB 3 m p0_w.peaks::OS A0 103 p p0_w.sent::L) λ_ _=>AA ah∧D9 N p0_w n6 ah ai=some r) N ?_ ?_ ?_)
 ·intro aa ww hf hw;exact⟨0,av,_,_,hf.sub (kp [111,110,0,112] O),hw,bs,(C2.refl az a0),(iq (n:=0) O),E⟩
 ·rintro aa ww ⟨_,_,_,_,_,_,_,_,_,E⟩;rw[D9] at E;cases E
 rintro n6 aa ww ⟨ah,ai,fe,ff,hf,hw,ar,dh,fg,E⟩;refine AK ?_ hf hw;clear hf hw ww aa;rw[D9] at E;refine AU ?_;refine AH O E (λdi E=>?_) (λdi E=>?_)
 ·refine AU ?_;refine A5 (AU ?_);have dj:=dg.mono' dh;refine BI E O O dj OK.1 O λfh E fi dk=>?_;obtain⟨fj,_,dl⟩:=dk.lv;refine AU ?_;refine D0 Og O ar λfk fl bt dm=>AU ?_;have a1:=dl.mono dm;obtain⟨fm,fn,fo,rfl,fp,fq,fr,fs,ft,fu,fv,fw,fx,fy,fz,f0,f1,f2,f3,f4,f5,f6⟩:=CD.ex a1;refine JI O O O ON Ok.1 O bt .head O λf7 af dn=>AU ?_;refine OC 17 mo (by kernel_rfl) O af (AU ?_);obtain⟨f8,bu,E⟩:=bd E;refine BR af (mt (mt (mt (mt mh)))) O O OJ.1 bu O λf9 bv=>?_;obtain⟨ga,bw,E⟩:=bd E;have dp:=af.epAt (mt (mt (mt (mt mh)))) bw Fg.id bv;refine KZ OM (λ_ x=>x) O dp I6.1 CE O λgb dq=>?_;have ap:=a1.mono dn;obtain⟨a2,bx,E⟩:=bd E;refine VO O O O tB O (λh' o=>Tr (St.all h') (ap.mono (o.all af.1)) (dq.mono (o.all af.1)) bx) λdr=>?_;obtain⟨ds,dt⟩:=dr;obtain⟨gc,bz,E⟩:=bd E;refine BR af (mt (mt (mt (mt mh)))) O O OJ.1 bz O λgd b0=>Ml λge b1 gf=>?_;obtain⟨du,b2,E⟩:=bd E;refine Ee (r:=BT) (l:=ai) (i:=ah) (x:=du) O O (BT.mk (x:=a2) ⟨ds,dt⟩) b0 b2 L4.id I6.1 CE b1 (.tail (.tail (.tail (.tail .head)))) λgg b3 gh=>AU ?_;refine BJ (AU ?_);refine WF.nil (λaa ww hf hw=>?_);have b4:=b3.sel [1,1,1,1,1,1,1,1,1] 1 O;exact⟨(BQ (ah+1)),(upd ai ah a2),_,_,hf.sub (kp [111,110,0,112] O),hw,b4,EX,(BW _),E⟩
 refine IQ O (WF.nil (λaa ww hf hw=>?_));cases E;exact LC hf O hw LB O EX ⟨_,O,ar⟩
def Qi (s:St S L h) {c:Value}{g:(List Int)}(d:Sl S h AB c g) {a:Int}(j:AA a) {r:Int}(E:K0 N g a=some r):
 CM prog 188 #[c,vI a] S h (λv S' h'=>v=vI r∧AA r∧St S' (L) h'):=by
 refine CM.go 24 func188 O ntmps188 O λB=>?_;rw[K0] at E;refine AU ?_;obtain⟨m,b,E⟩:=bd E;refine AY 6 19 (.bool m) ?_ ?_
 ·cases l:((decide (a<0))||(decide ((↑g.length:Int)≤a)))
  ·have b:=HV l b;refine AU ?_;refine BI b O O d CY.1 O λt b u w=>AU ?_;cases b;exact AZ O
  have b:=HU l b;cases b;exact BE O O
 refine AU ?_;refine AH O E (λn E=>?_) (λn E=>?_)
 ·exact RT
 refine AU ?_;refine BI E O O d CY.1 O λo E p k=>?_;have q:=k.i;exact RT
def Tk (hs:St S L h) {n:Value}{c:(List Int)}(j:Sl S h AB n c) {b:Int}(m:AA b) {d:Int}(F:AA d) {g:Int}(s:AA g) {r:(List Int)}(E:MK N c b d g=some r):
 CM prog 117 #[n,vI b,vI d,vI g] S h (λv S' h'=>St S' (OS AB 3 v r::L) h'):=by
 refine CM.go 56 func117 O ntmps117 O λB=>?_;rw[MK] at E;refine AU ?_;obtain⟨ag,E⟩:=Lp E;refine K6 (r:=AB) (zx:=0) JU O ⟨O,by unfold AA;omega⟩ O O ag O O hs λv3 h4 ah e6=>AU ?_;have k7:=j.mono' e6;refine VS (r:=AB) (l:=(List.replicate ((↑c.length:Int):Int).toNat (0:Int))) (xs:=c) O O CY.1 (Sl.src k7) O ah .head λh8 G av=>AU ?_;refine CV (.inl O) G (AU ?_);have ai:=j.nw;refine DV E O O O fH O (λt H h' o=>Qi (St.all h') (ai.mono' (o.all G.1)) m H) λt E aj=>?_;have ak:=aj;refine XW O O O (AU ?_);refine BZ (kp [10,9,0,1,2] O) λI k aw=>?_;have ax:=j.nw;refine AU ?_;refine JH (λa w=>∃(y:List Int),IV B S I (56,[]) a w [(9,v3)] (OS AB 3 v3 y::L) λ_ _=>LQ N y=some r) ?_ ?_
 ·refine AH O E (λal E=>?_) (λal E=>?_)
  ·refine AU ?_;obtain⟨ay,J,E⟩:=bd E;refine BR k mh O O CY.1 J O λaz K=>?_;obtain⟨z,M,E⟩:=bd E;have am:=k.epAt mh M Fg.id K;refine Eh Hj (λ_ x=>x) O am Fi.1 O λa0=>AU ?_;obtain⟨a1,Q,E⟩:=bd E;refine BR k mh O O CY.1 Q O λa2 U=>AU ?_;obtain⟨an,V,E⟩:=bd E;refine Ee (r:=AB) (l:=(Pb (List.replicate ((↑c.length:Int):Int).toNat (0:Int)) c)) (i:=b) (x:=an) O O (⟨_,O,O,(BW _)⟩:Rd _ _ AB _ (BQ (z-(min g t)))) U V L4.id Fi.1 (λ_=>rfl) k .head λa3 q a4=>AU ?_;refine De (AU ?_);obtain⟨a5,W,E⟩:=bd E;refine BR q mh O O CY.1 W O λa6 X=>?_;obtain⟨a7,Y,E⟩:=bd E;have ao:=q.epAt mh Y Fg.id X;refine Eh Hj (λ_ x=>x) O ao Fi.1 O λap=>AU ?_;refine Dd E O O O Wb O q (λA Z=>Kl (St.all _) ap (Ns s ak) Z) λA E a8 a9 ba u bb bc p=>?_;obtain⟨rfl,aq,au⟩:=p;refine AU ?_;obtain⟨be,ab,E⟩:=bd E;refine BR u mh O O CY.1 ab O λbf ac=>AU ?_;obtain⟨ar,ad,E⟩:=bd E;refine Ee (r:=AB) (l:=(upd (Pb (List.replicate ((↑c.length:Int):Int).toNat (0:Int)) c) b (BQ (z-(min g t))))) (i:=d) (x:=ar) O O (⟨_,O,O,aq⟩:Rd _ _ AB _ A) ac ad L4.id Fi.1 (λ_=>rfl) u .head λbg ae bh=>AU ?_;refine WF.nil (λaa ww C D=>?_);exact⟨(upd (upd (Pb (List.replicate ((↑c.length:Int):Int).toNat (0:Int)) c) b (BQ (z-(min g t)))) d A),_,_,C.sub (kp [9] O),D,ae,EX,E⟩
  refine AU ?_;refine WF.nil (λaa ww C D=>?_);exact⟨(Pb (List.replicate ((↑c.length:Int):Int).toNat (0:Int)) c),_,_,C.sub (kp [9] O),D,k,(C2.refl S I),E⟩
 rintro aa ww ⟨y,bi,bj,C,D,af,bk,E⟩;refine AK ?_ C D;clear C D ww aa;rw[LQ] at E;refine AU ?_;cases E;exact GF af O O EX
end Go.Proofs.YtabonambpbofgaaGreat
