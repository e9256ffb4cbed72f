import Derived.Test.YtabonambpbofgaaGreatNInst
import Derived.Test.YtabonambpbofgaaGreatNForms
import Derived.Test.YtabonambpbofgaaGreatNSort5
import Derived.Test.YtabonambpbofgaaGreatNSortD
import Derived.Test.YtabonambpbofgaaGreatNWalk1
import Derived.Test.YtabonambpbofgaaGreatNWalk6
import Derived.Test.YtabonambpbofgaaGreatNWalk7
namespace Go.Proofs.YtabonambpbofgaaGreat
set_option linter.all false
open Go.RowKit
open Go.Proofs.Tryz
set_option maxRecDepth 10000
set_option maxHeartbeats 20000000
variable {N:Nat}{S:Nat→Prop}{L:List HP}{h:AS}
def P4 (p:St S L h) {a:Value}{c:DI}(b:Rd S h EZ a c) {r:Bool}(E:JR N c=some r):
 CL prog 85 #[a] S h (λv S' h'=>v= .bool r∧St S' (L) h'):=by
 refine CL.go 8 func85 O ntmps85 O λB=>?_;rw[JR] at E;refine AU ?_;refine CZ O b CE O p λw S2 x d y m=>AU ?_;refine CX (.inl O) d ?_;have q:=m.fl DI.f_a;obtain⟨z,_,i⟩:=q.ll;have j:=m.fl DI.f_b;obtain⟨s,_,k⟩:=j.ll;refine AU ?_;refine BE E O O O Uj O (λl g h' o=>Fb (St.all h') (i.mono' (o.all d.1)) (k.mono' (o.all d.1)) g) λl E=>AU ?_;exact By (kp [2] O) λt n u=>RT
def Ik (H:St S L h) {b:Value}{d:(List Gz)}(i:Sl S h Cv b d) {c:Value}{g:(List Gz)}(j:Sl S h Cv c g) {r:Bool}(E:DT N d g=some r):
 CL prog 157 #[b,c] S h (λv S' h'=>v= .bool r∧St S' (L) h'):=by
 refine CL.go 26 func157 O ntmps157 O λB=>?_;rw[DT] at E;refine AU ?_;refine AH O E (λI E=>?_) (λI E=>?_)
 ·exact RT
 refine AU ?_;refine AV (λa w=>IV B S h (26,[]) a w [] (L) λ_ _=>CW N=some r) ?_ ?_
 ·refine A9 (λF=>λa w=>∃(s:Int),IV B S h (26,[]) a w [(12,vI (↑d.length:Int)),(0,b),(1,c),(13,vI s)] (L) λ_ _=>AA s∧CC N d g (CW N) F s=some r) N ?_ ?_ ?_
  ·intro p q k l;exact⟨0,_,_,k.sub (kp [12,0,1,13] O),l,H,(CJ.refl S h),(iq (n:=0) O),E⟩
  ·rintro p q ⟨_,_,_,_,_,_,_,_,E⟩;rw[CC] at E;cases E
  rintro F p q ⟨s,S9,J,k,l,o,m,r8,E⟩;refine AK ?_ k l;clear k l q p;rw[CC] at E;refine AU ?_;refine AH O E (λt E=>?_) (λt E=>?_)
  ·refine AU ?_;refine A6 (AU ?_);refine ID (.inr ⟨mo,by kernel_rfl⟩) (AU ?_);have u:=i.mono' m;refine BK E O O u cE.1 O λK E M x=>?_;obtain⟨Q,_,y⟩:=x.lv;refine AU ?_;have z:=j.mono' m;refine BK E O O z cE.1 O λU E V A=>?_;obtain⟨W,_,C⟩:=A.lv;refine AU ?_;obtain⟨rfl,⟨X,Y⟩⟩:=Cv.ex y;obtain⟨rfl,⟨Z,ab⟩⟩:=Cv.ex C;refine Tn O O rV O O O O (AU ?_);refine AH O E (λD E=>?_) (λD E=>?_)
   ·exact RT
   refine AU ?_;refine BP (AU ?_);refine WF.nil (λp q k l=>?_);exact⟨(BT (s+1)),_,_,k.sub (kp [12,0,1,13] O),l,o,m,(BV _),E⟩
  refine BM O (λp q k l=>?_);exact⟨_,_,k.sub R5,l,o,m,E⟩
 rintro p q ⟨ac,ad,k,l,G,ae,E⟩;refine AK ?_ k l;clear k l q p;rw[CW] at E;exact RT
def Lc (p:St S L h) {a:Value}{c:J6}(b:Rd S h Kt a c) {r:Bool}(E:Es N c=some r):
 CL prog 86 #[a] S h (λv S' h'=>v= .bool r∧St S' (L) h'):=by
 refine CL.go 8 func86 O ntmps86 O λB=>?_;rw[Es] at E;refine AU ?_;refine CZ O b CE O p λw S2 x d y m=>AU ?_;refine CX (.inl O) d ?_;have q:=m.fl J6.f_a;obtain⟨z,_,i⟩:=q.ll;have j:=m.fl J6.f_b;obtain⟨s,_,k⟩:=j.ll;refine AU ?_;refine BE E O O O tD O (λl g h' o=>Ik (St.all h') (i.mono' (o.all d.1)) (k.mono' (o.all d.1)) g) λl E=>AU ?_;exact By (kp [2] O) λt n u=>RT
def Jb (H:St S L h) {b:Value}{d:(List LK)}(i:Sl S h FY b d) {c:Value}{g:(List LK)}(j:Sl S h FY c g) {r:Bool}(E:Dk N d g=some r):
 CL prog 158 #[b,c] S h (λv S' h'=>v= .bool r∧St S' (L) h'):=by
 refine CL.go 26 func158 O ntmps158 O λB=>?_;rw[Dk] at E;refine AU ?_;refine AH O E (λI E=>?_) (λI E=>?_)
 ·exact RT
 refine AU ?_;refine AV (λa w=>IV B S h (26,[]) a w [] (L) λ_ _=>Cs N=some r) ?_ ?_
 ·refine A9 (λF=>λa w=>∃(s:Int),IV B S h (26,[]) a w [(12,vI (↑d.length:Int)),(0,b),(1,c),(13,vI s)] (L) λ_ _=>AA s∧CM N d g (Cs N) F s=some r) N ?_ ?_ ?_
  ·intro p q k l;exact⟨0,_,_,k.sub (kp [12,0,1,13] O),l,H,(CJ.refl S h),(iq (n:=0) O),E⟩
  ·rintro p q ⟨_,_,_,_,_,_,_,_,E⟩;rw[CM] at E;cases E
  rintro F p q ⟨s,S9,J,k,l,o,m,r8,E⟩;refine AK ?_ k l;clear k l q p;rw[CM] at E;refine AU ?_;refine AH O E (λt E=>?_) (λt E=>?_)
  ·refine AU ?_;refine A6 (AU ?_);refine ID (.inr ⟨mo,by kernel_rfl⟩) (AU ?_);have u:=i.mono' m;refine BK E O O u cD.1 O λK E M x=>?_;obtain⟨Q,_,y⟩:=x.lv;refine AU ?_;have z:=j.mono' m;refine BK E O O z cD.1 O λU E V A=>?_;obtain⟨W,_,C⟩:=A.lv;refine AU ?_;obtain⟨rfl,⟨X,Y⟩⟩:=FY.ex y;obtain⟨rfl,⟨Z,ab⟩⟩:=FY.ex C;refine Tn O O rU O O O O (AU ?_);refine AH O E (λD E=>?_) (λD E=>?_)
   ·exact RT
   refine AU ?_;refine BP (AU ?_);refine WF.nil (λp q k l=>?_);exact⟨(BT (s+1)),_,_,k.sub (kp [12,0,1,13] O),l,o,m,(BV _),E⟩
  refine BM O (λp q k l=>?_);exact⟨_,_,k.sub R5,l,o,m,E⟩
 rintro p q ⟨ac,ad,k,l,G,ae,E⟩;refine AK ?_ k l;clear k l q p;rw[Cs] at E;exact RT
def L4 (p:St S L h) {a:Value}{c:NU}(b:Rd S h Nm a c) {r:Bool}(E:FU N c=some r):
 CL prog 87 #[a] S h (λv S' h'=>v= .bool r∧St S' (L) h'):=by
 refine CL.go 8 func87 O ntmps87 O λB=>?_;rw[FU] at E;refine AU ?_;refine CZ O b CE O p λw S2 x d y m=>AU ?_;refine CX (.inl O) d ?_;have q:=m.fl NU.f_a;obtain⟨z,_,i⟩:=q.ll;have j:=m.fl NU.f_b;obtain⟨s,_,k⟩:=j.ll;refine AU ?_;refine BE E O O O tC O (λl g h' o=>Jb (St.all h') (i.mono' (o.all d.1)) (k.mono' (o.all d.1)) g) λl E=>AU ?_;exact By (kp [2] O) λt n u=>RT
def I7 (H:St S L h) {b:Value}{d:(List FL)}(i:Sl S h DK b d) {c:Value}{g:(List FL)}(j:Sl S h DK c g) {r:Bool}(E:DY N d g=some r):
 CL prog 159 #[b,c] S h (λv S' h'=>v= .bool r∧St S' (L) h'):=by
 refine CL.go 26 func159 O ntmps159 O λB=>?_;rw[DY] at E;refine AU ?_;refine AH O E (λI E=>?_) (λI E=>?_)
 ·exact RT
 refine AU ?_;refine AV (λa w=>IV B S h (26,[]) a w [] (L) λ_ _=>Cd N=some r) ?_ ?_
 ·refine A9 (λF=>λa w=>∃(s:Int),IV B S h (26,[]) a w [(12,vI (↑d.length:Int)),(0,b),(1,c),(13,vI s)] (L) λ_ _=>AA s∧CH N d g (Cd N) F s=some r) N ?_ ?_ ?_
  ·intro p q k l;exact⟨0,_,_,k.sub (kp [12,0,1,13] O),l,H,(CJ.refl S h),(iq (n:=0) O),E⟩
  ·rintro p q ⟨_,_,_,_,_,_,_,_,E⟩;rw[CH] at E;cases E
  rintro F p q ⟨s,S9,J,k,l,o,m,r8,E⟩;refine AK ?_ k l;clear k l q p;rw[CH] at E;refine AU ?_;refine AH O E (λt E=>?_) (λt E=>?_)
  ·refine AU ?_;refine A6 (AU ?_);refine ID (.inr ⟨mo,by kernel_rfl⟩) (AU ?_);have u:=i.mono' m;refine BK E O O u cC.1 O λK E M x=>?_;obtain⟨Q,_,y⟩:=x.lv;refine AU ?_;have z:=j.mono' m;refine BK E O O z cC.1 O λU E V A=>?_;obtain⟨W,_,C⟩:=A.lv;refine AU ?_;obtain⟨rfl,⟨X,Y,Z,ab⟩⟩:=DK.ex y;obtain⟨rfl,⟨ac,ad,ae,af⟩⟩:=DK.ex C;refine Tn O O rS O O O O (AU ?_);refine AH O E (λD E=>?_) (λD E=>?_)
   ·exact RT
   refine AU ?_;refine BP (AU ?_);refine WF.nil (λp q k l=>?_);exact⟨(BT (s+1)),_,_,k.sub (kp [12,0,1,13] O),l,o,m,(BV _),E⟩
  refine BM O (λp q k l=>?_);exact⟨_,_,k.sub R5,l,o,m,E⟩
 rintro p q ⟨ag,ah,k,l,G,ai,E⟩;refine AK ?_ k l;clear k l q p;rw[Cd] at E;exact RT
def Lu (p:St S L h) {a:Value}{c:LH}(b:Rd S h MA a c) {r:Bool}(E:Ez N c=some r):
 CL prog 88 #[a] S h (λv S' h'=>v= .bool r∧St S' (L) h'):=by
 refine CL.go 8 func88 O ntmps88 O λB=>?_;rw[Ez] at E;refine AU ?_;refine CZ O b CE O p λw S2 x d y m=>AU ?_;refine CX (.inl O) d ?_;have q:=m.fl LH.f_a;obtain⟨z,_,i⟩:=q.ll;have j:=m.fl LH.f_b;obtain⟨s,_,k⟩:=j.ll;refine AU ?_;refine BE E O O O tB O (λl g h' o=>I7 (St.all h') (i.mono' (o.all d.1)) (k.mono' (o.all d.1)) g) λl E=>AU ?_;exact By (kp [2] O) λt n u=>RT
def I8 (H:St S L h) {b:Value}{d:(List Ix)}(i:Sl S h Dj b d) {c:Value}{g:(List Ix)}(j:Sl S h Dj c g) {r:Bool}(E:DZ N d g=some r):
 CL prog 160 #[b,c] S h (λv S' h'=>v= .bool r∧St S' (L) h'):=by
 refine CL.go 26 func160 O ntmps160 O λB=>?_;rw[DZ] at E;refine AU ?_;refine AH O E (λI E=>?_) (λI E=>?_)
 ·exact RT
 refine AU ?_;refine AV (λa w=>IV B S h (26,[]) a w [] (L) λ_ _=>Ce N=some r) ?_ ?_
 ·refine A9 (λF=>λa w=>∃(s:Int),IV B S h (26,[]) a w [(12,vI (↑d.length:Int)),(0,b),(1,c),(13,vI s)] (L) λ_ _=>AA s∧CI N d g (Ce N) F s=some r) N ?_ ?_ ?_
  ·intro p q k l;exact⟨0,_,_,k.sub (kp [12,0,1,13] O),l,H,(CJ.refl S h),(iq (n:=0) O),E⟩
  ·rintro p q ⟨_,_,_,_,_,_,_,_,E⟩;rw[CI] at E;cases E
  rintro F p q ⟨s,S9,J,k,l,o,m,r8,E⟩;refine AK ?_ k l;clear k l q p;rw[CI] at E;refine AU ?_;refine AH O E (λt E=>?_) (λt E=>?_)
  ·refine AU ?_;refine A6 (AU ?_);refine ID (.inr ⟨mo,by kernel_rfl⟩) (AU ?_);have u:=i.mono' m;refine BK E O O u cB.1 O λK E M x=>?_;obtain⟨Q,_,y⟩:=x.lv;refine AU ?_;have z:=j.mono' m;refine BK E O O z cB.1 O λU E V A=>?_;obtain⟨W,_,C⟩:=A.lv;refine AU ?_;obtain⟨rfl,⟨X,Y,Z,ab⟩⟩:=Dj.ex y;obtain⟨rfl,⟨ac,ad,ae,af⟩⟩:=Dj.ex C;refine Tn O O rR O O O O (AU ?_);refine AH O E (λD E=>?_) (λD E=>?_)
   ·exact RT
   refine AU ?_;refine BP (AU ?_);refine WF.nil (λp q k l=>?_);exact⟨(BT (s+1)),_,_,k.sub (kp [12,0,1,13] O),l,o,m,(BV _),E⟩
  refine BM O (λp q k l=>?_);exact⟨_,_,k.sub R5,l,o,m,E⟩
 rintro p q ⟨ag,ah,k,l,G,ai,E⟩;refine AK ?_ k l;clear k l q p;rw[Ce] at E;exact RT
def Lv (p:St S L h) {a:Value}{c:LI}(b:Rd S h MB a c) {r:Bool}(E:E4 N c=some r):
 CL prog 89 #[a] S h (λv S' h'=>v= .bool r∧St S' (L) h'):=by
 refine CL.go 8 func89 O ntmps89 O λB=>?_;rw[E4] at E;refine AU ?_;refine CZ O b CE O p λw S2 x d y m=>AU ?_;refine CX (.inl O) d ?_;have q:=m.fl LI.f_a;obtain⟨z,_,i⟩:=q.ll;have j:=m.fl LI.f_b;obtain⟨s,_,k⟩:=j.ll;refine AU ?_;refine BE E O O O tA O (λl g h' o=>I8 (St.all h') (i.mono' (o.all d.1)) (k.mono' (o.all d.1)) g) λl E=>AU ?_;exact By (kp [2] O) λt n u=>RT
def PK (hs:St S L h) {k:Value}{a:AN}(p:Rd S h BD k a) {l:Value}{b:AN}(q:Rd S h BD l b) {r:Bool}(E:Ir N a b=some r):
 CL prog 39 #[k,l] S h (λv S' h'=>v= .bool r∧St S' (L) h'):=by
 refine CL.go 43 func39 O ntmps39 O λB=>?_;rw[Ir] at E;refine AU ?_;refine CZ O p CE O hs λq1 S2 h3 ay e5 k6=>?_;have k7:=q.mono e5;refine CZ O k7 CE O ay λq8 S9 bi c az m=>AU ?_;refine CX (.inl O) c ?_;have n:=k6.mono az;have a0:=n.fl AN.f_Rain;obtain⟨bj,_,H⟩:=a0.ll;have a1:=m.fl AN.f_Rain;obtain⟨bk,_,I⟩:=a1.ll;refine AU ?_;obtain⟨J,s,rfl,bl⟩:=(H).len;obtain⟨K,t,rfl,bm⟩:=(I).len;refine HO (cs:=[(.slice J a.S.length s),(.slice K b.S.length t)]) qJ O O O ?_;obtain⟨a2,M,E⟩:=bd E;refine JH O O O yE O (λh' o=>P4 (St.all h') (EZ.mk (x:=(⟨a.S,b.S⟩:DI)) (H.mono' (o.all c.1)) (I.mono' (o.all c.1))) M) (AU ?_);obtain⟨Q,d,E⟩:=bd E;refine AZ 7 18 (.bool Q) ?_ ?_
 ·cases V:a2
  ·have d:=HX V d;cases d;exact BI O O
  have d:=HW V d;have a3:=n.fl K1;obtain⟨bn,_,W⟩:=a3.ll;have a4:=m.fl K1;obtain⟨bo,_,Z⟩:=a4.ll;refine AU ?_;obtain⟨aa,u,rfl,bp⟩:=(W).len;obtain⟨ab,w,rfl,bq⟩:=(Z).len;refine HO (cs:=[(.slice aa a.X.length u),(.slice ab b.X.length w)]) qI O O O (AU ?_);obtain⟨br,ac,d⟩:=bd d;refine JH O O O yD O (λh' o=>Lc (St.all h') (Kt.mk (x:=(⟨a.X,b.X⟩:J6)) (W.mono' (o.all c.1)) (Z.mono' (o.all c.1))) ac) (AU ?_);cases d;exact A0 O
 refine AU ?_;obtain⟨ad,g,E⟩:=bd E;refine AZ 7 26 (.bool ad) ?_ ?_
 ·cases ae:Q
  ·have g:=HX ae g;cases g;exact BI O O
  have g:=HW ae g;have a5:=n.fl MC;obtain⟨bs,_,af⟩:=a5.ll;have a6:=m.fl MC;obtain⟨bt,_,ag⟩:=a6.ll;refine AU ?_;obtain⟨ah,y,rfl,bu⟩:=(af).len;obtain⟨ai,z,rfl,bv⟩:=(ag).len;refine HO (cs:=[(.slice ah a.Y.length y),(.slice ai b.Y.length z)]) qH O O O (AU ?_);obtain⟨bw,aj,g⟩:=bd g;refine JH O O O yC O (λh' o=>L4 (St.all h') (Nm.mk (x:=(⟨a.Y,b.Y⟩:NU)) (af.mono' (o.all c.1)) (ag.mono' (o.all c.1))) aj) (AU ?_);cases g;exact A0 O
 refine AU ?_;obtain⟨ak,i,E⟩:=bd E;refine AZ 7 34 (.bool ak) ?_ ?_
 ·cases al:ad
  ·have i:=HX al i;cases i;exact BI O O
  have i:=HW al i;have a7:=n.fl Lk;obtain⟨bx,_,am⟩:=a7.ll;have a8:=m.fl Lk;obtain⟨bz,_,an⟩:=a8.ll;refine AU ?_;obtain⟨ao,A,rfl,b0⟩:=(am).len;obtain⟨ap,C,rfl,b1⟩:=(an).len;refine HO (cs:=[(.slice ao a.U.length A),(.slice ap b.U.length C)]) qG O O O (AU ?_);obtain⟨b2,aq,i⟩:=bd i;refine JH O O O yB O (λh' o=>Lu (St.all h') (MA.mk (x:=(⟨a.U,b.U⟩:LH)) (am.mono' (o.all c.1)) (an.mono' (o.all c.1))) aq) (AU ?_);cases i;exact A0 O
 refine AU ?_;obtain⟨a9,j,E⟩:=bd E;refine AZ 7 42 (.bool a9) ?_ ?_
 ·cases ar:ak
  ·have j:=HX ar j;cases j;exact BI O O
  have j:=HW ar j;have ba:=n.fl Ll;obtain⟨b3,_,au⟩:=ba.ll;have bb:=m.fl Ll;obtain⟨b4,_,av⟩:=bb.ll;refine AU ?_;obtain⟨aw,D,rfl,b5⟩:=(au).len;obtain⟨ax,F,rfl,be⟩:=(av).len;refine HO (cs:=[(.slice aw a.Ad.length D),(.slice ax b.Ad.length F)]) qF O O O (AU ?_);obtain⟨bf,G,j⟩:=bd j;refine JH O O O yA O (λh' o=>Lv (St.all h') (MB.mk (x:=(⟨a.Ad,b.Ad⟩:LI)) (au.mono' (o.all c.1)) (av.mono' (o.all c.1))) G) (AU ?_);cases j;exact A0 O
 refine AU ?_;exact By (kp [4] O) λbg bc bh=>RT
def In (k:St S L h) {b:Value}{c:(List Gz)}(a:Sl S h Cv b c) {r:(List Gz)}(E:DU N c=some r):
 CL prog 90 #[b] S h (λv S' h'=>St S' (OS Cv 148 v r::L) h'):=by
 refine CL.go 8 func90 O ntmps90 O λB=>?_;rw[DU] at E;rcases a.cases with ⟨rfl,rfl⟩|⟨n,m,rfl,a⟩
 ·have s:(some ([]:List Gz))=some r:=by simpa [chk,HQ] using E
  refine AU ?_;refine JY O O O aO (AU ?_);refine KV O (AU ?_);have d:=k.nil Cv 148;cases E;exact GE d O O EX
 refine AU ?_;refine KX O O O aO (AU ?_);refine KW O (AU ?_);refine JI (r:=Cv) oC O O k λv1 t g o=>AU ?_;have p:=a.mono' o;obtain⟨i,E⟩:=Lt E;refine Eb (r:=Cv) (l:=([]:List Gz)) (xs:=c) O O oC O (Sl.src p) O i O g (λ_=> .head) λu w j q=>AU ?_;cases E;exact GE j O O EX
def Jc (k:St S L h) {b:Value}{c:(List LK)}(a:Sl S h FY b c) {r:(List LK)}(E:Dn N c=some r):
 CL prog 91 #[b] S h (λv S' h'=>St S' (OS FY 153 v r::L) h'):=by
 refine CL.go 8 func91 O ntmps91 O λB=>?_;rw[Dn] at E;rcases a.cases with ⟨rfl,rfl⟩|⟨n,m,rfl,a⟩
 ·have s:(some ([]:List LK))=some r:=by simpa [chk,HQ] using E
  refine AU ?_;refine JY O O O aN (AU ?_);refine KV O (AU ?_);have d:=k.nil FY 153;cases E;exact GE d O O EX
 refine AU ?_;refine KX O O O aN (AU ?_);refine KW O (AU ?_);refine JI (r:=FY) oA O O k λv1 t g o=>AU ?_;have p:=a.mono' o;obtain⟨i,E⟩:=Lt E;refine Eb (r:=FY) (l:=([]:List LK)) (xs:=c) O O oA O (Sl.src p) O i O g (λ_=> .head) λu w j q=>AU ?_;cases E;exact GE j O O EX
def JB (k:St S L h) {b:Value}{c:(List FL)}(a:Sl S h DK b c) {r:(List FL)}(E:Da N c=some r):
 CL prog 92 #[b] S h (λv S' h'=>St S' (OS DK 158 v r::L) h'):=by
 refine CL.go 8 func92 O ntmps92 O λB=>?_;rw[Da] at E;rcases a.cases with ⟨rfl,rfl⟩|⟨n,m,rfl,a⟩
 ·have s:(some ([]:List FL))=some r:=by simpa [chk,HQ] using E
  refine AU ?_;refine JY O O O aM (AU ?_);refine KV O (AU ?_);have d:=k.nil DK 158;cases E;exact GE d O O EX
 refine AU ?_;refine KX O O O aM (AU ?_);refine KW O (AU ?_);refine JI (r:=DK) nZ O O k λv1 t g o=>AU ?_;have p:=a.mono' o;obtain⟨i,E⟩:=Lt E;refine Eb (r:=DK) (l:=([]:List FL)) (xs:=c) O O nZ O (Sl.src p) O i O g (λ_=> .head) λu w j q=>AU ?_;cases E;exact GE j O O EX
def JC (k:St S L h) {b:Value}{c:(List Ix)}(a:Sl S h Dj b c) {r:(List Ix)}(E:Db N c=some r):
 CL prog 93 #[b] S h (λv S' h'=>St S' (OS Dj 163 v r::L) h'):=by
 refine CL.go 8 func93 O ntmps93 O λB=>?_;rw[Db] at E;rcases a.cases with ⟨rfl,rfl⟩|⟨n,m,rfl,a⟩
 ·have s:(some ([]:List Ix))=some r:=by simpa [chk,HQ] using E
  refine AU ?_;refine JY O O O aL (AU ?_);refine KV O (AU ?_);have d:=k.nil Dj 163;cases E;exact GE d O O EX
 refine AU ?_;refine KX O O O aL (AU ?_);refine KW O (AU ?_);refine JI (r:=Dj) nY O O k λv1 t g o=>AU ?_;have p:=a.mono' o;obtain⟨i,E⟩:=Lt E;refine Eb (r:=Dj) (l:=([]:List Ix)) (xs:=c) O O nY O (Sl.src p) O i O g (λ_=> .head) λu w j q=>AU ?_;cases E;exact GE j O O EX
def PM (hs:St S L h) {j:Value}{a:AN}(K:Rd S h BD j a) {r:AN}(E:It N a=some r):
 CL prog 40 #[j] S h (λv S' h'=>Rd S' h' BD v r∧St S' (L) h'):=by
 refine CL.go 19 func40 O ntmps40 O λB=>?_;rw[It] at E;refine AU ?_;refine CZ O K CE O hs λq1 S2 h3 c3 e5 k6=>Dp Xx O c3 λb7 M g em=>AU ?_;refine Rp (kp [2,1] O) ?_;obtain⟨w,bf,E⟩:=bd E;obtain⟨y,bg,E⟩:=bd E;obtain⟨z,bh,E⟩:=bd E;obtain⟨A,bi,E⟩:=bd E;obtain⟨C,bj,E⟩:=bd E;refine Nd (m:=[(2,vP b7 0),(1,q1)]) 16 (λi v d=>match i with|0=>Pt S2 d (A5.sl AB) v a.S|1=>Sl S2 d AB v a.S|2=>Sl (SN S2 M d) d AB v w|3=>Pt S2 d (A5.sl Cv) v a.X|4=>Sl S2 d Cv v a.X|5=>Sl (SN S2 M d) d Cv v y|6=>Pt S2 d (A5.sl FY) v a.Y|7=>Sl S2 d FY v a.Y|8=>Sl (SN S2 M d) d FY v z|9=>Pt S2 d (A5.sl DK) v a.U|10=>Sl S2 d DK v a.U|11=>Sl (SN S2 M d) d DK v A|12=>Pt S2 d (A5.sl Dj) v a.Ad|13=>Sl S2 d Dj v a.Ad|14=>Sl (SN S2 M d) d Dj v C|15=>Rd (SN S2 M d) d BD v (⟨w,y,z,A,C⟩:AN)|_=>False) [[],[(0,3)],[(1,4)],[],[(3,6)],[(4,7)],[],[(6,9)],[(7,10)],[],[(9,12)],[(10,13)],[],[(12,15)],[(13,16)],[(2,5),(5,8),(8,11),(11,14),(14,17)]] [(15,18)] mo (by kernel_rfl) [2,1] O (by kernel_rfl) (by kernel_rfl) (by kernel_rfl) (kp [2,1] O) MO ?_ ?_
 ·refine A7.cons O ?_ ?_
  ·intro D d o;have c:=o.st g;have bk:=k6.nw;have bl:=bk.fl AN.f_Rain;refine AU ?_;exact B0 bl
  refine A7.cons O ?_ ?_
  ·intro D d o;intro bm Q;have c:=o.st g;have Q:Pt _ _ (A5.sl AB) bm a.S:=Q;obtain⟨c9,_,bn⟩:=Q.ll;refine AU ?_;exact B0 bn
  refine A7.cons O ?_ ?_
  ·intro D d o;intro bo l;have c:=SN.st g o;have l:=Sl.sn M l;have l:Sl _ _ AB bo a.S:=l;have b:=c.fz;refine E9 O O O NN O b (B7 (St.all _) (l.mono b.ea.1 b.ea.2) bf) λda db dc c4 dd bp p=>?_;have ax:=p;have V:=b.join bp ax ⟨OS.flat (λ{_ _ _ _ _ _} k=>k),trivial⟩;simp only[Acu,Acs] at V;obtain⟨de,ay,df,bq⟩:=V.pubs .head;have W:=Fz.done o EX ay;exact BB W.1 (Sl.mono' bq W.2)
  refine A7.cons O ?_ ?_
  ·intro D d o;have c:=o.st g;have br:=k6.nw;have bs:=br.fl K1;refine AU ?_;exact B0 bs
  refine A7.cons O ?_ ?_
  ·intro D d o;intro bt Z;have c:=o.st g;have Z:Pt _ _ (A5.sl Cv) bt a.X:=Z;obtain⟨dg,_,bu⟩:=Z.ll;refine AU ?_;exact B0 bu
  refine A7.cons O ?_ ?_
  ·intro D d o;intro bv n;have c:=SN.st g o;have n:=Sl.sn M n;have n:Sl _ _ Cv bv a.X:=n;have b:=c.fz;refine E9 O O O xZ O b (In (St.all _) (n.mono b.ea.1 b.ea.2) bg) λdh di dj c5 dk bw p=>?_;have az:=p;have ab:=b.join bw az ⟨OS.flat (λ{_ _ _ _ _ _} k=>k),trivial⟩;simp only[Acu,Acs] at ab;obtain⟨dl,a0,dm,bx⟩:=ab.pubs .head;have ac:=Fz.done o EX a0;exact BB ac.1 (Sl.mono' bx ac.2)
  refine A7.cons O ?_ ?_
  ·intro D d o;have c:=o.st g;have bz:=k6.nw;have b0:=bz.fl MC;refine AU ?_;exact B0 b0
  refine A7.cons O ?_ ?_
  ·intro D d o;intro b1 ad;have c:=o.st g;have ad:Pt _ _ (A5.sl FY) b1 a.Y:=ad;obtain⟨dn,_,b2⟩:=ad.ll;refine AU ?_;exact B0 b2
  refine A7.cons O ?_ ?_
  ·intro D d o;intro b3 q;have c:=SN.st g o;have q:=Sl.sn M q;have q:Sl _ _ FY b3 a.Y:=q;have b:=c.fz;refine E9 O O O xY O b (Jc (St.all _) (q.mono b.ea.1 b.ea.2) bh) λdp dq dr c6 ds b4 p=>?_;have a1:=p;have af:=b.join b4 a1 ⟨OS.flat (λ{_ _ _ _ _ _} k=>k),trivial⟩;simp only[Acu,Acs] at af;obtain⟨dt,a2,du,b5⟩:=af.pubs .head;have ag:=Fz.done o EX a2;exact BB ag.1 (Sl.mono' b5 ag.2)
  refine A7.cons O ?_ ?_
  ·intro D d o;have c:=o.st g;have b6:=k6.nw;have b8:=b6.fl Lk;refine AU ?_;exact B0 b8
  refine A7.cons O ?_ ?_
  ·intro D d o;intro b9 ah;have c:=o.st g;have ah:Pt _ _ (A5.sl DK) b9 a.U:=ah;obtain⟨dv,_,ca⟩:=ah.ll;refine AU ?_;exact B0 ca
  refine A7.cons O ?_ ?_
  ·intro D d o;intro cb s;have c:=SN.st g o;have s:=Sl.sn M s;have s:Sl _ _ DK cb a.U:=s;have b:=c.fz;refine E9 O O O xX O b (JB (St.all _) (s.mono b.ea.1 b.ea.2) bi) λdw dx dy c7 dz cc p=>?_;have a3:=p;have ai:=b.join cc a3 ⟨OS.flat (λ{_ _ _ _ _ _} k=>k),trivial⟩;simp only[Acu,Acs] at ai;obtain⟨d0,a4,d1,cd⟩:=ai.pubs .head;have aj:=Fz.done o EX a4;exact BB aj.1 (Sl.mono' cd aj.2)
  refine A7.cons O ?_ ?_
  ·intro D d o;have c:=o.st g;have ce:=k6.nw;have cf:=ce.fl Ll;refine AU ?_;exact B0 cf
  refine A7.cons O ?_ ?_
  ·intro D d o;intro cg ak;have c:=o.st g;have ak:Pt _ _ (A5.sl Dj) cg a.Ad:=ak;obtain⟨d2,_,ch⟩:=ak.ll;refine AU ?_;exact B0 ch
  refine A7.cons O ?_ ?_
  ·intro D d o;intro ci t;have c:=SN.st g o;have t:=Sl.sn M t;have t:Sl _ _ Dj ci a.Ad:=t;have b:=c.fz;refine E9 O O O xW O b (JC (St.all _) (t.mono b.ea.1 b.ea.2) bj) λd3 d4 d5 c8 d6 cj p=>?_;have a5:=p;have am:=b.join cj a5 ⟨OS.flat (λ{_ _ _ _ _ _} k=>k),trivial⟩;simp only[Acu,Acs] at am;obtain⟨d7,a6,d8,ck⟩:=am.pubs .head;have an:=Fz.done o EX a6;exact BB an.1 (Sl.mono' ck an.2)
  refine A7.cons O ?_ ?_
  ·intro D d o;intro cl F cm G cn H co I cp J;have c:=SN.st g o;have F:Sl _ _ AB cl w:=F;have G:Sl _ _ Cv cm y:=G;have H:Sl _ _ FY cn z:=H;have I:Sl _ _ DK co A:=I;have J:Sl _ _ Dj cp C:=J;refine AU ?_;obtain⟨a7,aq,rfl,d9⟩:=(F).len;obtain⟨a8,ar,rfl,eb⟩:=(G).len;obtain⟨a9,au,rfl,ec⟩:=(H).len;obtain⟨ba,av,rfl,ed⟩:=(I).len;obtain⟨bb,aw,rfl,ee⟩:=(J).len;refine HO (cs:=[(.slice a7 w.length aq),(.slice a8 y.length ar),(.slice a9 z.length au),(.slice ba A.length av),(.slice bb C.length aw)]) UI O O O (AU ?_);exact B0 (BD.mk (x:=(⟨w,y,z,A,C⟩:AN)) F G H I J)
  exact trivial
 intro ef cq cr ao;have bc:=SN.st g cq;have ao:Rd _ _ BD cr (⟨w,y,z,A,C⟩:AN):=ao;obtain⟨eg,eh,ei,ej,ek,rfl,ct,cu,cv,cw,cx⟩:=BD.ex ao;refine IH O O O ON OZ.1 O bc .head O λel ap u=>AU ?_;refine CO (λaa ww hf hw=>?_);have cy:=ct.mono' u;have cz:=cu.mono' u;have c0:=cv.mono' u;have c1:=cw.mono' u;have c2:=cx.mono' u;have be:=ap.drop .head;cases E;exact K6 hf O hw (Iy (W5 hf hw ap O mh OZ.1 O) K5) O EX ⟨(BD.mk (x:=(⟨w,y,z,A,C⟩:AN)) cy cz c0 c1 c2),be⟩
def SO (hs:St S L h) {z:Value}{b:AI}(ac:Rd S h BU z b) {r:AI}(E:Kn N b=some r):
 CL prog 57 #[z] S h (λv S' h'=>∃w1 w2 w3 w4 w5 w6:Value,v= .agg #[vI r.B,w1,w2,w3,w4,w5,w6]∧AA r.B∧Sl S' h' AY w3 r.I∧St S' (OO AB 3 29 w1 r.H::OS AB 3 w2 r.N::OS BQ 107 w4 r.P::OS AB 3 w5 r.D::OS AB 3 w6 r.O::L) h'):=by
 refine CL.go 43 func57 O ntmps57 O λB=>?_;rw[Kn] at E;refine AU ?_;obtain⟨v3,v5,v7,v9,Q,M,rfl,r2,k4,k6,k8,bl,bm,bn⟩:=BU.ex ac;refine NQ O O O hs λad co ay bo=>Dp Ou O ay λae cp az cq=>?_;have cr:=k4.nw;refine AU ?_;obtain⟨a0,E⟩:=Lt E;refine mM AB 3 Wk O O a0 O O az λaf am a1 cs=>?_;have bp:=k4.nw;refine AU ?_;refine AV (λa w=>∃(m:List (List Int)),IV B S am (43,[]) a w [(3,af),(2,vP ae 0),(1,vP ad 0)] (OO AB 3 29 af m::Bx ae 36 [vI 0,vN,vN,vN,vN,vN,vN]::Bx ad 36 [vI b.B,v3,v5,v7,v9,Q,M]::L) λ_ _=>GO N b m=some r) ?_ ?_
 ·refine A9 (λn1=>λa w=>∃(s:Int) (U:List (List Int)),IV B S am (43,[]) a w [(12,vI (↑b.H.length:Int)),(11,v3),(3,af),(2,vP ae 0),(1,vP ad 0),(13,vI s)] (OO AB 3 29 af U::Bx ae 36 [vI 0,vN,vN,vN,vN,vN,vN]::Bx ad 36 [vI b.B,v3,v5,v7,v9,Q,M]::L) λ_ _=>AA s∧GN N b (GO N b) n1 s U=some r) N ?_ ?_ ?_
  ·intro aa ww A C;exact⟨0,(List.replicate ((↑b.H.length:Int):Int).toNat ([]:(List Int))),_,_,A.sub (kp [12,11,3,2,1,13] O),C,a1,(CJ.refl S am),(iq (n:=0) O),E⟩
  ·rintro aa ww ⟨_,_,_,_,_,_,_,_,_,E⟩;rw[GN] at E;cases E
  rintro n1 aa ww ⟨s,U,ct,cu,A,C,o,a2,cv,E⟩;refine AK ?_ A C;clear A C ww aa;rw[GN] at E;refine AU ?_;refine AH O E (λbq E=>?_) (λbq E=>?_)
  ·refine AU ?_;refine A6 (AU ?_);have br:=bp.mono' a2;refine BK E O O br Jl.1 O λcw E cx bs=>?_;obtain⟨cy,_,bt⟩:=bs.ll;refine AU ?_;refine DQ (AU ?_);refine DX E O O O NN O o (λa3 a4=>B7 (St.all _) (bt.mono o.ea.1 o.ea.2) a4) λa3 E cz c0 c1 b2 c2 bu p=>?_;have a5:=p;have V:=o.join bu a5 ⟨OS.flat (λ{_ _ _ _ _ _} k=>k),trivial⟩;simp only[Acu,Acs] at V;refine AU ?_;obtain⟨c3,a6,E⟩:=bd E;refine RP (r:=AB) V (mt mh) O O Jl.1 a6 O λc4 a7=>AU ?_;obtain⟨c5,a8,E⟩:=bd E;refine ZJ (r:=AB) (i:=s) O O a7 a8 GH.1 V λc6 a9 c7=>AU ?_;refine BP (AU ?_);refine WF.nil (λaa ww A C=>?_);exact⟨(BT (s+1)),(upd U s a3),_,_,A.sub (kp [12,11,3,2,1,13] O),C,a9,EX,(BV _),E⟩
  refine BM O (λaa ww A C=>?_);exact⟨U,_,_,A.sub (kp [3,2,1] O),C,o,a2,E⟩
 rintro aa ww ⟨m,c8,c9,A,C,ai,da,E⟩;refine AK ?_ A C;clear A C ww aa;rw[GO] at E;refine AU ?_;obtain⟨q,c,rfl,db⟩:=ai.oolen mh;refine Ge (cs':=[vI b.B,(.slice q m.length c),v5,v7,v9,Q,M]) O O O O V1.1 O ai (.tail (.tail .head)) O O λdc F dd=>AU ?_;refine DQ (AU ?_);have bv:=k6.nw;refine DX E O O O NN O F (λW ba=>B7 (St.all _) (bv.mono F.ea.1 F.ea.2) ba) λW E de df dg b3 dh bw p=>?_;have bb:=p;have X:=F.join bw bb ⟨OS.flat (λ{_ _ _ _ _ _} k=>k),trivial⟩;simp only[Acu,Acs] at X;refine AU ?_;obtain⟨G,d,rfl,di⟩:=X.oslen mh;refine Ge (cs':=[vI b.B,(.slice q m.length c),(.slice G W.length d),v7,v9,Q,M]) O O O O GH.1 O X (.tail (.tail (.tail .head))) O O λdj J dk=>AU ?_;refine DQ (AU ?_);have bx:=bl.nw;refine DX E O O O gJ O J (λag bc=>GW (St.all _) (bx.mono J.ea.1 J.ea.2) bc) λag E dl dm b4 bz b5 be p=>?_;have an:=p;have t:=J.join be an ⟨OS.flat (λ{_ _ _ _ _ _} k=>k),trivial⟩;simp only[Acu,Acs] at t;refine AU ?_;obtain⟨u,g,rfl,b6⟩:=t.oslen mh;refine Ge (cs':=[vI b.B,(.slice q m.length c),(.slice G W.length d),v7,(.slice u ag.length g),Q,M]) O O O O nA.1 O t (.tail (.tail (.tail (.tail .head)))) O O λb7 j b8=>AU ?_;refine DQ (AU ?_);have bf:=bm.nw;refine DX E O O O NN O j (λY ao=>B7 (St.all _) (bf.mono j.ea.1 j.ea.2) ao) λY E b9 ca cb b0 cc bg p=>?_;have ap:=p;have x:=j.join bg ap ⟨OS.flat (λ{_ _ _ _ _ _} k=>k),trivial⟩;simp only[Acu,Acs] at x;refine AU ?_;obtain⟨Z,K,rfl,cd⟩:=x.oslen mh;refine Ge (cs':=[vI b.B,(.slice q m.length c),(.slice G W.length d),v7,(.slice u ag.length g),(.slice Z Y.length K),M]) O O O O GH.1 O x (.tail (.tail (.tail (.tail (.tail .head))))) O O λce l cf=>AU ?_;refine DQ (AU ?_);have bh:=bn.nw;refine DX E O O O NN O l (λaj aq=>B7 (St.all _) (bh.mono l.ea.1 l.ea.2) aq) λaj E cg ch ci b1 cj bi p=>?_;have ar:=p;have y:=l.join bi ar ⟨OS.flat (λ{_ _ _ _ _ _} k=>k),trivial⟩;simp only[Acu,Acs] at y;refine AU ?_;obtain⟨au,ah,rfl,ck⟩:=y.oslen mh;refine Ge (cs':=[vI b.B,(.slice q m.length c),(.slice G W.length d),v7,(.slice u ag.length g),(.slice Z Y.length K),(.slice au aj.length ah)]) O O O O GH.1 O y (.tail (.tail (.tail (.tail (.tail (.tail .head)))))) O O λcl av cm=>AU ?_;have bj:=k8.nw;refine IH O O O ON Ij.1 O av (.tail (.tail (.tail (.tail (.tail .head))))) O λcn aw ak=>AU ?_;refine CO (λaa ww A C=>?_);have ab:=aw.sel [4,3,2,1,0,0] 1 O;have bk:=bj.mono' ak;have ax:=ab.drop (.tail (.tail (.tail (.tail (.tail .head)))));cases E;exact K6 A O C (Iy (W5 A C ab O (mt (mt (mt (mt (mt mh))))) Ij.1 O) K5) O ((((((bo.trans EX).trans EX).trans EX).trans EX).trans EX).trans ak) ⟨_,_,_,_,_,_,O,r2,bk,ax⟩
def TW (hs:St S L h) {i:Value}{l:BC}(p:Rd S h CB i l) {j:Value}{b:A3}(q:Rd S h BQ j b) {c:Int}(y:AA c) {r:A3}(E:IS N l b c=some r):
 CL prog 114 #[i,j,vI c] S h (λv S' h'=>v= .agg #[vI r.Ab,vI r.Ac,.bool r.Ay,.bool r.Am]∧A3.ok r∧St S' (L) h'):=by
 refine CL.go 24 func114 O ntmps114 O λB=>?_;rw[IS] at E;refine AU ?_;refine CZ O p CE O hs λq1 S2 h3 Q e5 k6=>?_;have k7:=q.mono e5;obtain⟨rfl,⟨r9,U⟩⟩:=BQ.ex k7;refine NQ O O O Q λs ad D ae=>Dp Sm O D λt u k af=>AU ?_;refine AV (λa w=>∃(z:Bool) (A:Bool),IV B S2 u (24,[]) a w [(6,vP t 0),(4,vP s 0)] (Bx t 107 [vI 0,vI 0,.bool false,.bool false]::Bx s 107 [vI b.Ab,vI b.Ac,.bool z,.bool A]::L) λ_ _=>G4 N b z A=some r) ?_ ?_
 ·refine AU ?_;refine AH O E (λV E=>?_) (λV E=>?_)
  ·refine AU ?_;refine Ge (cs':=[vI b.Ab,vI b.Ac,.bool true,.bool b.Am]) O O O O XD.1 O k (.tail .head) O O λag F W=>AU ?_;refine WF.nil (λm n d g=>?_);exact⟨true,b.Am,_,_,d.sub (kp [6,4] O),g,F,W,E⟩
  refine AU ?_;refine AH O E (λX E=>?_) (λX E=>?_)
  ·refine AU ?_;refine Ge (cs':=[vI b.Ab,vI b.Ac,.bool false,.bool b.Am]) O O O O XD.1 O k (.tail .head) O O λah G Y=>AU ?_;refine WF.nil (λm n d g=>?_);exact⟨false,b.Am,_,_,d.sub (kp [6,4] O),g,G,Y,E⟩
  refine AU ?_;refine H6 (λa w=>∃(C:Bool),IV B S2 u (24,[]) a w [(6,vP t 0),(4,vP s 0),(3,q1),(2,vI c),(14,.bool C)] (Bx t 107 [vI 0,vI 0,.bool false,.bool false]::Bx s 107 [vI b.Ab,vI b.Ac,.bool b.Ay,.bool b.Am]::L) λ_ _=>Hj N l b c (G4 N b) C=some r) ?_ ?_
  ·refine AH O E (λZ E=>?_) (λZ E=>?_)
   ·refine AU ?_;refine WF.nil (λm n d g=>?_);exact⟨(decide (c=2)),_,_,d.sub (kp [6,4,3,2,14] O),g,k,(CJ.refl S2 u),E⟩
   refine AU ?_;refine WF.nil (λm n d g=>?_);exact⟨(decide (c=3)),_,_,d.sub (kp [6,4,3,2,14] O),g,k,(CJ.refl S2 u),E⟩
  rintro m n ⟨C,ai,aj,d,g,o,H,E⟩;refine AK ?_ d g;clear d g n m;rw[Hj] at E;refine AH O E (λab E=>?_) (λab E=>?_)
  ·have ak:=k6.nw;refine AU ?_;refine AH O E (λac E=>?_) (λac E=>?_)
   ·refine AU ?_;refine Ge (cs':=[vI b.Ab,vI b.Ac,.bool b.Ay,.bool (decide (c=2))]) O O O O XD.1 O o (.tail .head) O O λam I an=>AU ?_;refine WF.nil (λm n d g=>?_);exact⟨b.Ay,(decide (c=2)),_,_,d.sub (kp [6,4] O),g,I,EX,E⟩
   refine AU ?_;refine WF.nil (λm n d g=>?_);exact⟨b.Ay,b.Am,_,_,d.sub (kp [6,4] O),g,o,H,E⟩
  refine AU ?_;refine WF.nil (λm n d g=>?_);exact⟨b.Ay,b.Am,_,_,d.sub (kp [6,4] O),g,o,H,E⟩
 rintro m n ⟨z,A,ao,ap,d,g,J,aq,E⟩;refine AK ?_ d g;clear d g n m;rw[G4] at E;refine AU ?_;refine FK O O O O I6.1 O J .head O λar K au=>AU ?_;refine CO (λm n d g=>?_);have x:=K.drop (.tail .head);have M:=x.drop .head;cases E;exact K6 d O g (Iy (W5 d g x O mh I6.1 O) K5) O EX ⟨O,⟨r9,U⟩,M⟩
def Kz (l:St S L h) {c:Int}(i:AA c) {b:Int}(g:AA b) {a:Int}(d:AA a) {r:Int}(E:Ic N c b a=some r):
 CL prog 14 #[vI c,vI b,vI a] S h (λv S' h'=>v=vI r∧AA r∧St S' (L) h'):=by
 refine CL.go 16 func14 O ntmps14 O λB=>?_;rw[Ic] at E;refine AU ?_;refine AH O E (λj E=>?_) (λj E=>?_)
 ·exact RT
 refine AU ?_;refine AH O E (λk E=>?_) (λk E=>?_)
 ·exact RT
 exact RT
def VE (hs:St S L h) {g:Value}{s:BC}(k:Rd S h CB g s) {j:Value}{b:A3}(l:Rd S h BQ j b) {c:Int}(d:AA c) {r:A3}(E:J2 N s b c=some r):
 CL prog 115 #[g,j,vI c] S h (λv S' h'=>v= .agg #[vI r.Ab,vI r.Ac,.bool r.Ay,.bool r.Am]∧A3.ok r∧St S' (L) h'):=by
 refine CL.go 16 func115 O ntmps115 O λB=>?_;rw[J2] at E;refine AU ?_;refine CZ O k CE O hs λq1 S2 h3 Q e5 k6=>?_;have k7:=l.mono e5;obtain⟨rfl,⟨r9,U⟩⟩:=BQ.ex k7;refine NQ O O O Q λy ad z ae=>Dp Sm O z λA C t af=>?_;have V:=k6.nw;refine AU ?_;refine H6 (λa w=>∃(m:Int),IV B S2 C (16,[]) a w [(6,vP A 0),(4,vP y 0)] (Bx A 107 [vI 0,vI 0,.bool false,.bool false]::Bx y 107 [vI b.Ab,vI m,.bool b.Ay,.bool b.Am]::L) λ_ _=>AA m∧L9 N b m=some r) ?_ ?_
 ·refine AH O E (λW E=>?_) (λW E=>?_)
  ·refine DQ ?_;have X:=V.fl Gk;have Y:=X.i;refine AU ?_;refine DX E O O O Yr O t (λx D=>Kz (St.all _) d (iq (n:=0) O) Y D) λx E ag ah ai F aj ak p=>?_;obtain⟨rfl,Z,ac⟩:=p;refine AU ?_;refine Ge (cs':=[vI b.Ab,vI x,.bool b.Ay,.bool b.Am]) O O O O Fa.1 O F (.tail .head) O O λam G an=>AU ?_;refine WF.nil (λK M o q=>?_);exact⟨x,_,_,o.sub (kp [6,4] O),q,G,EX,Z,E⟩
  refine AU ?_;refine WF.nil (λK M o q=>?_);exact⟨b.Ac,_,_,o.sub (kp [6,4] O),q,t,(CJ.refl S2 C),U,E⟩
 rintro K M ⟨m,ao,ap,o,q,H,aq,ab,E⟩;refine AK ?_ o q;clear o q M K;rw[L9] at E;refine AU ?_;refine FK O O O O I6.1 O H .head O λar I au=>AU ?_;refine CO (λK M o q=>?_);have u:=I.drop (.tail .head);have J:=u.drop .head;cases E;exact K6 o O q (Iy (W5 o q u O mh I6.1 O) K5) O EX ⟨O,⟨r9,ab⟩,J⟩
def Kr (j:St S L h) {a:Int}(c:AA a) {b:Int}(d:AA b) {r:Int}(E:Hk N a b=some r):
 CL prog 187 #[vI a,vI b] S h (λv S' h'=>v=vI r∧AA r∧St S' (L) h'):=by
 refine CL.go 24 func187 O ntmps187 O λB=>?_;rw[Hk] at E;refine AU ?_;refine AH O E (λg E=>?_) (λg E=>?_)
 ·exact RT
 refine AU ?_;refine AH O E (λi E=>?_) (λi E=>?_)
 ·exact RT
 exact RT
def T8 (hs:St S L h) {b:Value}{j:BC}(d:Rd S h CB b j) {c:Value}{a:A3}(g:Rd S h BQ c a) {r:A3}(E:Ib N j a=some r):
 CL prog 116 #[b,c] S h (λv S' h'=>v= .agg #[vI r.Ab,vI r.Ac,.bool r.Ay,.bool r.Am]∧A3.ok r∧St S' (L) h'):=by
 refine CL.go 26 func116 O ntmps116 O λB=>?_;rw[Ib] at E;refine AU ?_;refine CZ O d CE O hs λq1 S2 h3 M e5 k6=>?_;have k7:=g.mono e5;obtain⟨rfl,⟨Q,q⟩⟩:=BQ.ex k7;refine NQ O O O M λam an s ao=>Dp Sm O s λap aq k ar=>AU ?_;refine AH O E (λU E=>?_) (λU E=>?_)
 ·refine AU ?_;refine FK O O O O I6.1 O k .head O λau t av=>AU ?_;refine CO (λaa ww u w=>?_);have l:=t.drop (.tail .head);have x:=l.drop .head;cases E;exact K6 u O w (Iy (W5 u w l O mh I6.1 O) K5) O EX ⟨O,⟨Q,q⟩,x⟩
 refine AU ?_;refine CX (.inr ⟨mo,by kernel_rfl⟩) k (AU ?_);refine DM E O O O Te O (λV y h' o=>Kr (St.all h') q Q y) λV E W=>?_;have X:=W;have z:=k6.nw;have Y:=z.fl Kw;have Z:=Y.i;refine AU ?_;refine DM E O O O Te O (λab A h' o=>Kr (St.all h') (iq (n:=0) O) Z A) λab E ac=>?_;have ad:=ac;have ae:=z.fl Kw;have af:=ae.i;refine AU ?_;refine DM E O O O Yr O (λag C h' o=>Kz (St.all h') X ad af C) λag E ah=>?_;have ai:=ah;refine AU ?_;refine By (kp [5,4,3] O) λaw D ax=>AU ?_;refine DQ (AU ?_);refine DX E O O O Wq O D (λF G=>Ks (St.all _) Q ai G) λF E ay az a0 H a1 a2 p=>?_;obtain⟨rfl,aj,ak⟩:=p;refine AU ?_;refine Ge (cs':=[vI F,vI a.Ac,.bool a.Ay,.bool a.Am]) O O O O Fa.1 O H (.tail .head) O O λa3 I a4=>AU ?_;refine FK O O O O I6.1 O I .head O λa5 J a6=>AU ?_;refine CO (λaa ww u w=>?_);have m:=J.drop (.tail .head);have K:=m.drop .head;cases E;exact K6 u O w (Iy (W5 u w m O mh I6.1 O) K5) O EX ⟨O,⟨aj,q⟩,K⟩
def Pz {y:Nat}{p0_w:AM}{W:Value}{Z:Value}{V:Value}{ab:Value}{ac:Value}{ad:Value}{ae:Value}{af:Value}{z:Value}{t:Value}{u:Value}{G:Value}{M:Value}{c:Value}{d:Value}{Q:Value}{q:Value}{g:Value}{j:Value}{k:Value}{m:Value}{p:Value}(hs:St S (Bx y 112 [.string p0_w.b.F,W,vI p0_w.b.K,Z,V,ab,ac,ad,ae,af,vI p0_w.b.L,z,t,u,G,M,vI p0_w.s.B,c,d,Q,q,g,j,k,m,p]::OO AB 3 29 c p0_w.s.H::OS AB 3 d p0_w.s.N::OS BQ 107 q p0_w.s.P::OS AB 3 g p0_w.s.D::OS AB 3 j p0_w.s.O::OS CA 116 k p0_w.moves::OS AB 3 m p0_w.peaks::OS AY 103 p p0_w.sent::L) h) (b8:p0_w.b.F.size≤maxLen) (b9:Sl S h A5.str W p0_w.b.J) (ca:AA p0_w.b.K) (cb:Sl S h B1 Z p0_w.b.A) (ag:Sl S h CB V p0_w.b.C) (cc:Sl S h HN ab p0_w.b.Af) (cd:Sl S h Et ac p0_w.b.Ah) (ce:Sl S h G5 ad p0_w.b.Ai) (cf:Sl S h DW ae p0_w.b.Ak) (cg:Sl S h AB af p0_w.b.Aj) (a6:AA p0_w.b.L) (a7:Sl S h AB z p0_w.in_.S) (an:Sl S h Cv t p0_w.in_.X) (ao:Sl S h FY u p0_w.in_.Y) (a8:Sl S h DK G p0_w.in_.U) (a9:Sl S h Dj M p0_w.in_.Ad) (ba:AA p0_w.s.B) (bb:Sl S h AY Q p0_w.s.I) {r:(List A3)}(E:HS N p0_w=some r):
 CL prog 58 #[vP y 0] S h (λv S' h'=>∃ar:Value,v= .tuple #[]∧St S' (Bx y 112 [.string p0_w.b.F,W,vI p0_w.b.K,Z,V,ab,ac,ad,ae,af,vI p0_w.b.L,z,t,u,G,M,vI p0_w.s.B,c,d,Q,ar,g,j,k,m,p]::OO AB 3 29 c p0_w.s.H::OS AB 3 d p0_w.s.N::OS BQ 107 ar r::OS AB 3 g p0_w.s.D::OS AB 3 j p0_w.s.O::OS CA 116 k p0_w.moves::OS AB 3 m p0_w.peaks::OS AY 103 p p0_w.sent::L) h'):=by
 refine CL.go 135 func58 O ntmps58 O λB=>?_;rw[HS] at E;refine AU ?_;refine AV (λa w=>∃(l2:List A3),IV B S h (135,[]) a w [(0,vP y 0)] (Bx y 112 [.string p0_w.b.F,W,vI p0_w.b.K,Z,V,ab,ac,ad,ae,af,vI p0_w.b.L,z,t,u,G,M,vI p0_w.s.B,c,d,Q,q,g,j,k,m,p]::OO AB 3 29 c p0_w.s.H::OS AB 3 d p0_w.s.N::OS BQ 107 q l2::OS AB 3 g p0_w.s.D::OS AB 3 j p0_w.s.O::OS CA 116 k p0_w.moves::OS AB 3 m p0_w.peaks::OS AY 103 p p0_w.sent::L) λ_ _=>Dd N p0_w l2=some r) ?_ ?_
 ·refine A9 (λn1=>λa w=>∃(i6:Int) (l8:List A3),IV B S h (135,[]) a w [(13,vI (↑p0_w.in_.X.length:Int)),(12,t),(0,vP y 0),(14,vI i6)] (Bx y 112 [.string p0_w.b.F,W,vI p0_w.b.K,Z,V,ab,ac,ad,ae,af,vI p0_w.b.L,z,t,u,G,M,vI p0_w.s.B,c,d,Q,q,g,j,k,m,p]::OO AB 3 29 c p0_w.s.H::OS AB 3 d p0_w.s.N::OS BQ 107 q l8::OS AB 3 g p0_w.s.D::OS AB 3 j p0_w.s.O::OS CA 116 k p0_w.moves::OS AB 3 m p0_w.peaks::OS AY 103 p p0_w.sent::L) λ_ _=>AA i6∧C9 N p0_w (Dd N p0_w) n1 i6 l8=some r) N ?_ ?_ ?_
  ·intro aa ww hf hw;exact⟨0,p0_w.s.P,_,_,hf.sub (kp [13,12,0,14] O),hw,hs,(CJ.refl S h),(iq (n:=0) O),E⟩
  ·rintro aa ww ⟨_,_,_,_,_,_,_,_,_,E⟩;rw[C9] at E;cases E
  rintro n1 aa ww ⟨i6,l8,S9,dy,hf,hw,a0,ch,r7,E⟩;refine AK ?_ hf hw;clear hf hw ww aa;rw[C9] at E;refine AU ?_;refine AH O E (λdz E=>?_) (λdz E=>?_)
  ·refine AU ?_;refine AV (λa w=>∃(ax:List A3),IV B S9 dy (135,[]) a w [(13,vI (↑p0_w.in_.X.length:Int)),(12,t),(0,vP y 0),(14,vI i6)] (Bx y 112 [.string p0_w.b.F,W,vI p0_w.b.K,Z,V,ab,ac,ad,ae,af,vI p0_w.b.L,z,t,u,G,M,vI p0_w.s.B,c,d,Q,q,g,j,k,m,p]::OO AB 3 29 c p0_w.s.H::OS AB 3 d p0_w.s.N::OS BQ 107 q ax::OS AB 3 g p0_w.s.D::OS AB 3 j p0_w.s.O::OS CA 116 k p0_w.moves::OS AB 3 m p0_w.peaks::OS AY 103 p p0_w.sent::L) λ_ _=>HB N i6 (C9 N p0_w (Dd N p0_w) n1) ax=some r) ?_ ?_
   ·refine AU ?_;have d0:=an.mono' ch;refine BK E O O d0 cE.1 O λci E gn d1=>?_;obtain⟨gp,_,d2⟩:=d1.lv;refine AU ?_;refine Dp pJ O a0 λgq gr cj d3=>?_;have d4:=d2.mono d3;obtain⟨rfl,⟨d5,d6⟩⟩:=Cv.ex d4;refine FK O O O O pZ.1 O cj .head O λgs ck gu=>AU ?_;refine CX (.inr ⟨mo,by kernel_rfl⟩) ck ?_;have d7:=ag.nw;have d8:=d7.le;refine AU ?_;refine BE E O O O PJ O (λd9 cl h' o=>H1 (St.all h') d6 (Ls d8) cl) λd9 E=>By (kp [26,3,13,12,0,14] O) λgv aj gw=>AH O E (λea E=>?_) (λea E=>?_)
    ·refine OM 29 mo (by kernel_rfl) O aj (AU ?_);have eb:=ag.nw;refine BK E O O eb Ob.1 O λgx E gy ec=>?_;obtain⟨gz,_,ed⟩:=ec.lv;refine AU ?_;obtain⟨g0,cm,E⟩:=bd E;refine BY aj (mt (mt (mt (mt mh)))) O O Oa.1 cm O λg1 cn=>?_;obtain⟨g2,co,E⟩:=bd E;have ee:=aj.epAt (mt (mt (mt (mt mh)))) co FZ.id cn;refine Le P3 (λ_ x=>x) O ee I6.1 CE O λg3 ef=>AU ?_;refine DM E O O O uB O (λbc cp h' o=>TW (St.all h') (ed.mono (o.all aj.1)) (ef.mono (o.all aj.1)) d5 cp) λbc E eg=>?_;obtain⟨eh,ei⟩:=eg;obtain⟨g4,cq,E⟩:=bd E;refine BY aj (mt (mt (mt (mt mh)))) O O Oa.1 cq O λg5 cr=>Mz λg6 cs g7=>?_;obtain⟨ej,ct,E⟩:=bd E;refine Ed (r:=BQ) (l:=l8) (i:=ci.Ar) (x:=ej) O O (BQ.mk (x:=bc) ⟨eh,ei⟩) cr ct Mh.id I6.1 CE cs (.tail (.tail (.tail (.tail .head)))) λg8 cu g9=>AU ?_;refine WF.nil (λaa ww hf hw=>?_);have cv:=cu.sel [1,1,1,1,1,1,1,1,1] 1 O;exact⟨(upd l8 ci.Ar bc),_,_,hf.sub (kp [13,12,0,14] O),hw,cv,EX,E⟩
    refine AU ?_;refine WF.nil (λaa ww hf hw=>?_);have cw:=aj.sel [1,1,1,1,1,1,1,1,1] 1 O;exact⟨l8,_,_,hf.sub (kp [13,12,0,14] O),hw,cw,EX,E⟩
   rintro aa ww ⟨ax,ha,hb,hf,hw,cx,hc,E⟩;refine AK ?_ hf hw;clear hf hw ww aa;rw[HB] at E;refine AU ?_;refine WF.nil (λaa ww hf hw=>?_);exact⟨(BT (i6+1)),ax,_,_,hf.sub (kp [13,12,0,14] O),hw,cx,EX,(BV _),E⟩
  refine BM O (λaa ww hf hw=>?_);exact⟨l8,_,_,hf.sub (kp [0] O),hw,a0,ch,E⟩
 rintro aa ww ⟨l2,be,bf,hf,hw,cy,ek,E⟩;refine AK ?_ hf hw;clear hf hw ww aa;rw[Dd] at E;have el:=ao.mono' ek;refine AU ?_;refine AV (λa w=>∃(ay:List A3),IV B be bf (135,[]) a w [(0,vP y 0)] (Bx y 112 [.string p0_w.b.F,W,vI p0_w.b.K,Z,V,ab,ac,ad,ae,af,vI p0_w.b.L,z,t,u,G,M,vI p0_w.s.B,c,d,Q,q,g,j,k,m,p]::OO AB 3 29 c p0_w.s.H::OS AB 3 d p0_w.s.N::OS BQ 107 q ay::OS AB 3 g p0_w.s.D::OS AB 3 j p0_w.s.O::OS CA 116 k p0_w.moves::OS AB 3 m p0_w.peaks::OS AY 103 p p0_w.sent::L) λ_ _=>Dc N p0_w ay=some r) ?_ ?_
 ·refine A9 (λn4=>λa w=>∃(ap:Int) (aq:List A3),IV B be bf (135,[]) a w [(62,vI (↑p0_w.in_.Y.length:Int)),(61,u),(0,vP y 0),(63,vI ap)] (Bx y 112 [.string p0_w.b.F,W,vI p0_w.b.K,Z,V,ab,ac,ad,ae,af,vI p0_w.b.L,z,t,u,G,M,vI p0_w.s.B,c,d,Q,q,g,j,k,m,p]::OO AB 3 29 c p0_w.s.H::OS AB 3 d p0_w.s.N::OS BQ 107 q aq::OS AB 3 g p0_w.s.D::OS AB 3 j p0_w.s.O::OS CA 116 k p0_w.moves::OS AB 3 m p0_w.peaks::OS AY 103 p p0_w.sent::L) λ_ _=>AA ap∧C8 N p0_w (Dc N p0_w) n4 ap aq=some r) N ?_ ?_ ?_
  ·intro aa ww hf hw;exact⟨0,l2,_,_,hf.sub (kp [62,61,0,63] O),hw,cy,(CJ.refl be bf),(iq (n:=0) O),E⟩
  ·rintro aa ww ⟨_,_,_,_,_,_,_,_,_,E⟩;rw[C8] at E;cases E
  rintro n4 aa ww ⟨ap,aq,em,en,hf,hw,a1,cz,hd,E⟩;refine AK ?_ hf hw;clear hf hw ww aa;rw[C8] at E;refine AU ?_;refine AH O E (λeo E=>?_) (λeo E=>?_)
  ·refine AU ?_;refine AV (λa w=>∃(az:List A3),IV B em en (135,[]) a w [(62,vI (↑p0_w.in_.Y.length:Int)),(61,u),(0,vP y 0),(63,vI ap)] (Bx y 112 [.string p0_w.b.F,W,vI p0_w.b.K,Z,V,ab,ac,ad,ae,af,vI p0_w.b.L,z,t,u,G,M,vI p0_w.s.B,c,d,Q,q,g,j,k,m,p]::OO AB 3 29 c p0_w.s.H::OS AB 3 d p0_w.s.N::OS BQ 107 q az::OS AB 3 g p0_w.s.D::OS AB 3 j p0_w.s.O::OS CA 116 k p0_w.moves::OS AB 3 m p0_w.peaks::OS AY 103 p p0_w.sent::L) λ_ _=>HA N ap (C8 N p0_w (Dc N p0_w) n4) az=some r) ?_ ?_
   ·refine AU ?_;have ep:=el.mono' cz;refine BK E O O ep cD.1 O λc0 E he eq=>?_;obtain⟨er,_,c1⟩:=eq.lv;refine AU ?_;refine Dp pI O a1 λes eu bg c2=>?_;have c3:=c1.mono c2;obtain⟨rfl,⟨c4,c5⟩⟩:=FY.ex c3;refine FK O O O O pY.1 O bg .head O λev bh ew=>AU ?_;refine CX (.inr ⟨mo,by kernel_rfl⟩) bh ?_;have c6:=ag.nw;have c7:=c6.le;refine AU ?_;refine BE E O O O PJ O (λc8 bi h' o=>H1 (St.all h') c4 (Ls c7) bi) λc8 E=>By (kp [75,5,62,61,0,63] O) λey ah ez=>AH O E (λc9 E=>?_) (λc9 E=>?_)
    ·refine OM 29 mo (by kernel_rfl) O ah (AU ?_);have da:=ag.nw;refine BK E O O da Ob.1 O λe0 E e1 db=>?_;obtain⟨e2,_,dc⟩:=db.lv;refine AU ?_;obtain⟨e3,bj,E⟩:=bd E;refine BY ah (mt (mt (mt (mt mh)))) O O Oa.1 bj O λe4 bk=>?_;obtain⟨e5,bl,E⟩:=bd E;have dd:=ah.epAt (mt (mt (mt (mt mh)))) bl FZ.id bk;refine Le P3 (λ_ x=>x) O dd I6.1 CE O λe6 de=>AU ?_;refine DM E O O O uA O (λav bm h' o=>VE (St.all h') (dc.mono (o.all ah.1)) (de.mono (o.all ah.1)) c5 bm) λav E df=>?_;obtain⟨dg,dh⟩:=df;obtain⟨e7,bn,E⟩:=bd E;refine BY ah (mt (mt (mt (mt mh)))) O O Oa.1 bn O λe8 bo=>Mz λe9 bp fa=>?_;obtain⟨di,bq,E⟩:=bd E;refine Ed (r:=BQ) (l:=aq) (i:=c0.Ar) (x:=di) O O (BQ.mk (x:=av) ⟨dg,dh⟩) bo bq Mh.id I6.1 CE bp (.tail (.tail (.tail (.tail .head)))) λfb br fc=>AU ?_;refine WF.nil (λaa ww hf hw=>?_);have bs:=br.sel [1,1,1,1,1,1,1,1,1] 1 O;exact⟨(upd aq c0.Ar av),_,_,hf.sub (kp [62,61,0,63] O),hw,bs,EX,E⟩
    refine AU ?_;refine WF.nil (λaa ww hf hw=>?_);have bt:=ah.sel [1,1,1,1,1,1,1,1,1] 1 O;exact⟨aq,_,_,hf.sub (kp [62,61,0,63] O),hw,bt,EX,E⟩
   rintro aa ww ⟨az,fd,fe,hf,hw,bu,ff,E⟩;refine AK ?_ hf hw;clear hf hw ww aa;rw[HA] at E;refine AU ?_;refine WF.nil (λaa ww hf hw=>?_);exact⟨(BT (ap+1)),az,_,_,hf.sub (kp [62,61,0,63] O),hw,bu,EX,(BV _),E⟩
  refine BM O (λaa ww hf hw=>?_);exact⟨aq,_,_,hf.sub (kp [0] O),hw,a1,cz,E⟩
 rintro aa ww ⟨ay,a2,a3,hf,hw,bv,fg,E⟩;refine AK ?_ hf hw;clear hf hw ww aa;rw[Dc] at E;have dj:=ag.nw;refine AU ?_;refine A6 (A9 (λn6=>λa w=>∃(ak:Int) (am:List A3),IV B a2 a3 (135,[]) a w [(111,vI (↑p0_w.b.C.length:Int)),(110,V),(0,vP y 0),(112,vI ak)] (Bx y 112 [.string p0_w.b.F,W,vI p0_w.b.K,Z,V,ab,ac,ad,ae,af,vI p0_w.b.L,z,t,u,G,M,vI p0_w.s.B,c,d,Q,q,g,j,k,m,p]::OO AB 3 29 c p0_w.s.H::OS AB 3 d p0_w.s.N::OS BQ 107 q am::OS AB 3 g p0_w.s.D::OS AB 3 j p0_w.s.O::OS CA 116 k p0_w.moves::OS AB 3 m p0_w.peaks::OS AY 103 p p0_w.sent::L) λ_ _=>AA ak∧D1 N p0_w n6 ak am=some r) N ?_ ?_ ?_)
 ·intro aa ww hf hw;exact⟨0,ay,_,_,hf.sub (kp [111,110,0,112] O),hw,bv,(CJ.refl a2 a3),(iq (n:=0) O),E⟩
 ·rintro aa ww ⟨_,_,_,_,_,_,_,_,_,E⟩;rw[D1] at E;cases E
 rintro n6 aa ww ⟨ak,am,fh,fi,hf,hw,aw,dk,fj,E⟩;refine AK ?_ hf hw;clear hf hw ww aa;rw[D1] at E;refine AU ?_;refine AH O E (λdl E=>?_) (λdl E=>?_)
 ·refine AU ?_;refine A6 (AU ?_);have dm:=dj.mono' dk;refine BK E O O dm Ob.1 O λfk E fl dn=>?_;obtain⟨fm,_,dp⟩:=dn.lv;refine AU ?_;refine Dp Ov O aw λfn fo bw dq=>AU ?_;have a4:=dp.mono dq;obtain⟨fp,fq,fr,rfl,fs,ft,fu,fv,fw,fx,fy,fz,f0,f1,f2,f3,f4,f5,f6,f7,f8,f9⟩:=CB.ex a4;refine IH O O O ON Oy.1 O bw .head O λga ai dr=>AU ?_;refine OM 17 mo (by kernel_rfl) O ai (AU ?_);obtain⟨gb,bx,E⟩:=bd E;refine BY ai (mt (mt (mt (mt mh)))) O O Oa.1 bx O λgc bz=>?_;obtain⟨ge,b0,E⟩:=bd E;have ds:=ai.epAt (mt (mt (mt (mt mh)))) b0 FZ.id bz;refine Le P3 (λ_ x=>x) O ds I6.1 CE O λgf dt=>?_;have au:=a4.mono dr;obtain⟨a5,b1,E⟩:=bd E;refine Vd O O O tZ O (λh' o=>T8 (St.all h') (au.mono (o.all ai.1)) (dt.mono (o.all ai.1)) b1) λdu=>?_;obtain⟨dv,dw⟩:=du;obtain⟨gg,b2,E⟩:=bd E;refine BY ai (mt (mt (mt (mt mh)))) O O Oa.1 b2 O λgh b3=>Mz λgi b4 gj=>?_;obtain⟨dx,b5,E⟩:=bd E;refine Ed (r:=BQ) (l:=am) (i:=ak) (x:=dx) O O (BQ.mk (x:=a5) ⟨dv,dw⟩) b3 b5 Mh.id I6.1 CE b4 (.tail (.tail (.tail (.tail .head)))) λgl b6 gm=>AU ?_;refine BP (AU ?_);refine WF.nil (λaa ww hf hw=>?_);have b7:=b6.sel [1,1,1,1,1,1,1,1,1] 1 O;exact⟨(BT (ak+1)),(upd am ak a5),_,_,hf.sub (kp [111,110,0,112] O),hw,b7,EX,(BV _),E⟩
 refine JV O (WF.nil (λaa ww hf hw=>?_));cases E;exact K6 hf O hw K5 O EX ⟨_,O,aw⟩
def Qz (s:St S L h) {c:Value}{g:(List Int)}(d:Sl S h AB c g) {a:Int}(j:AA a) {r:Int}(E:K7 N g a=some r):
 CL prog 188 #[c,vI a] S h (λv S' h'=>v=vI r∧AA r∧St S' (L) h'):=by
 refine CL.go 24 func188 O ntmps188 O λB=>?_;rw[K7] at E;refine AU ?_;obtain⟨m,b,E⟩:=bd E;refine AZ 6 19 (.bool m) ?_ ?_
 ·cases l:((decide (a<0))||(decide ((↑g.length:Int)≤a)))
  ·have b:=HX l b;refine AU ?_;refine BK b O O d Ck.1 O λt b u w=>AU ?_;cases b;exact A0 O
  have b:=HW l b;cases b;exact BI O O
 refine AU ?_;refine AH O E (λn E=>?_) (λn E=>?_)
 ·exact RT
 refine AU ?_;refine BK E O O d Ck.1 O λo E p k=>?_;have q:=k.i;exact RT
def T0 (hs:St S L h) {n:Value}{c:(List Int)}(j:Sl S h AB n c) {b:Int}(m:AA b) {d:Int}(F:AA d) {g:Int}(s:AA g) {r:(List Int)}(E:MW N c b d g=some r):
 CL prog 117 #[n,vI b,vI d,vI g] S h (λv S' h'=>St S' (OS AB 3 v r::L) h'):=by
 refine CL.go 56 func117 O ntmps117 O λB=>?_;rw[MW] at E;refine AU ?_;obtain⟨ag,E⟩:=Lt E;refine Lf (r:=AB) (zx:=0) JU O ⟨O,by unfold AA;omega⟩ O O ag O O hs λv3 h4 ah e6=>AU ?_;have k7:=j.mono' e6;refine Vi (r:=AB) (l:=(List.replicate ((↑c.length:Int):Int).toNat (0:Int))) (xs:=c) O O Ck.1 (Sl.src k7) O ah .head λh8 G av=>AU ?_;refine CX (.inl O) G (AU ?_);have ai:=j.nw;refine DM E O O O gC O (λt H h' o=>Qz (St.all h') (ai.mono' (o.all G.1)) m H) λt E aj=>?_;have ak:=aj;refine Xn O O O (AU ?_);refine By (kp [10,9,0,1,2] O) λI k aw=>?_;have ax:=j.nw;refine AU ?_;refine H6 (λa w=>∃(y:List Int),IV B S I (56,[]) a w [(9,v3)] (OS AB 3 v3 y::L) λ_ _=>LX N y=some r) ?_ ?_
 ·refine AH O E (λal E=>?_) (λal E=>?_)
  ·refine AU ?_;obtain⟨ay,J,E⟩:=bd E;refine BY k mh O O Ck.1 J O λaz K=>?_;obtain⟨z,M,E⟩:=bd E;have am:=k.epAt mh M FZ.id K;refine Fs Hc (λ_ x=>x) O am Fa.1 O λa0=>AU ?_;obtain⟨a1,Q,E⟩:=bd E;refine BY k mh O O Ck.1 Q O λa2 U=>AU ?_;obtain⟨an,V,E⟩:=bd E;refine Ed (r:=AB) (l:=(Pr (List.replicate ((↑c.length:Int):Int).toNat (0:Int)) c)) (i:=b) (x:=an) O O (⟨_,O,O,(BV _)⟩:Rd _ _ AB _ (BT (z-(min g t)))) U V Mh.id Fa.1 (λ_=>rfl) k .head λa3 q a4=>AU ?_;refine DQ (AU ?_);obtain⟨a5,W,E⟩:=bd E;refine BY q mh O O Ck.1 W O λa6 X=>?_;obtain⟨a7,Y,E⟩:=bd E;have ao:=q.epAt mh Y FZ.id X;refine Fs Hc (λ_ x=>x) O ao Fa.1 O λap=>AU ?_;refine DX E O O O Wq O q (λA Z=>Ks (St.all _) ap (N2 s ak) Z) λA E a8 a9 ba u bb bc p=>?_;obtain⟨rfl,aq,au⟩:=p;refine AU ?_;obtain⟨be,ab,E⟩:=bd E;refine BY u mh O O Ck.1 ab O λbf ac=>AU ?_;obtain⟨ar,ad,E⟩:=bd E;refine Ed (r:=AB) (l:=(upd (Pr (List.replicate ((↑c.length:Int):Int).toNat (0:Int)) c) b (BT (z-(min g t))))) (i:=d) (x:=ar) O O (⟨_,O,O,aq⟩:Rd _ _ AB _ A) ac ad Mh.id Fa.1 (λ_=>rfl) u .head λbg ae bh=>AU ?_;refine WF.nil (λaa ww C D=>?_);exact⟨(upd (upd (Pr (List.replicate ((↑c.length:Int):Int).toNat (0:Int)) c) b (BT (z-(min g t)))) d A),_,_,C.sub (kp [9] O),D,ae,EX,E⟩
  refine AU ?_;refine WF.nil (λaa ww C D=>?_);exact⟨(Pr (List.replicate ((↑c.length:Int):Int).toNat (0:Int)) c),_,_,C.sub (kp [9] O),D,k,(CJ.refl S I),E⟩
 rintro aa ww ⟨y,bi,bj,C,D,af,bk,E⟩;refine AK ?_ C D;clear C D ww aa;rw[LX] at E;refine AU ?_;cases E;exact GE af O O EX
end Go.Proofs.YtabonambpbofgaaGreat
