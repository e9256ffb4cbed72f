import Derived.Test.YtabonambpbofgaaGreatMInst
import Derived.Test.YtabonambpbofgaaGreatMForms
import Derived.Test.YtabonambpbofgaaGreatMSort5
import Derived.Test.YtabonambpbofgaaGreatMCore47
import Derived.Test.YtabonambpbofgaaGreatMSortD
import Derived.Test.YtabonambpbofgaaGreatMWalk1
import Derived.Test.YtabonambpbofgaaGreatMWalk6
import Derived.Test.YtabonambpbofgaaGreatMWalk7
namespace Go.Proofs.YtabonambpbofgaaGreat
set_option linter.all false
open Go.RowKit
open Go.Proofs.Tryz
set_option maxRecDepth 10000
set_option maxHeartbeats 20000000
variable {N:Nat}{S:Nat→Prop}{L:List HP}{h:AO}
def PU (p:St S L h) {a:Value}{c:DC}(b:Rd S h EK a c) {r:Bool}(E:I7 N c=some r):
 CJ prog 85 #[a] S h (λv S' h'=>v= .bool r∧St S' (L) h'):=by
 refine CJ.go 8 func85 O ntmps85 O λB=>?_;rw[I7] at E;refine AU ?_;refine Cn O b CE O p λw S2 x d y m=>AU ?_;refine CW (.inl O) d ?_;have q:=m.fl DC.f_a;obtain⟨z,_,i⟩:=q.ll;have j:=m.fl DC.f_b;obtain⟨s,_,k⟩:=j.ll;refine AU ?_;refine BA E O O O wT O (λl g h' o=>M5 (St.all h') (i.mono' (o.all d.1)) (k.mono' (o.all d.1)) g) λl E=>AU ?_;exact BW (kp [2] O) λt n u=>RT
def IR (H:St S L h) {b:Value}{d:(List Gj)}(i:Sl S h Cm b d) {c:Value}{g:(List Gj)}(j:Sl S h Cm c g) {r:Bool}(E:DI N d g=some r):
 CJ prog 157 #[b,c] S h (λv S' h'=>v= .bool r∧St S' (L) h'):=by
 refine CJ.go 26 func157 O ntmps157 O λB=>?_;rw[DI] at E;refine AU ?_;refine AH O E (λI E=>?_) (λI E=>?_)
 ·exact RT
 refine AU ?_;refine AS (λa w=>IV B S h (26,[]) a w [] (L) λ_ _=>CP N=some r) ?_ ?_
 ·refine A6 (λF=>λa w=>∃(s:Int),IV B S h (26,[]) a w [(12,vI (↑d.length:Int)),(0,b),(1,c),(13,vI s)] (L) λ_ _=>AA s∧B9 N d g (CP N) F s=some r) N ?_ ?_ ?_
  ·intro p q k l;exact⟨0,_,_,k.sub (kp [12,0,1,13] O),l,H,(BF.refl S h),(iq (n:=0) O),E⟩
  ·rintro p q ⟨_,_,_,_,_,_,_,_,E⟩;rw[B9] at E;cases E
  rintro F p q ⟨s,S9,J,k,l,o,m,r8,E⟩;refine AL ?_ k l;clear k l q p;rw[B9] at E;refine AU ?_;refine AH O E (λt E=>?_) (λt E=>?_)
  ·refine AU ?_;refine A4 (AU ?_);refine H7 (.inr ⟨mo,by kernel_rfl⟩) (AU ?_);have u:=i.mono' m;refine BH E O O u aW.1 O λK E M x=>?_;obtain⟨Q,_,y⟩:=x.lv;refine AU ?_;have z:=j.mono' m;refine BH E O O z aW.1 O λU E V A=>?_;obtain⟨W,_,C⟩:=A.lv;refine AU ?_;obtain⟨rfl,⟨X,Y⟩⟩:=Cm.ex y;obtain⟨rfl,⟨Z,ab⟩⟩:=Cm.ex C;refine U4 O O pR O O O O (AU ?_);refine AH O E (λD E=>?_) (λD E=>?_)
   ·exact RT
   refine AU ?_;refine BK (AU ?_);refine WF.nil (λp q k l=>?_);exact⟨(BO (s+1)),_,_,k.sub (kp [12,0,1,13] O),l,o,m,(BT _),E⟩
  refine BL O (λp q k l=>?_);exact⟨_,_,k.sub Sa,l,o,m,E⟩
 rintro p q ⟨ac,ad,k,l,G,ae,E⟩;refine AL ?_ k l;clear k l q p;rw[CP] at E;exact RT
def LB (p:St S L h) {a:Value}{c:Jj}(b:Rd S h Kb a c) {r:Bool}(E:Ef N c=some r):
 CJ prog 86 #[a] S h (λv S' h'=>v= .bool r∧St S' (L) h'):=by
 refine CJ.go 8 func86 O ntmps86 O λB=>?_;rw[Ef] at E;refine AU ?_;refine Cn O b CE O p λw S2 x d y m=>AU ?_;refine CW (.inl O) d ?_;have q:=m.fl Jj.f_a;obtain⟨z,_,i⟩:=q.ll;have j:=m.fl Jj.f_b;obtain⟨s,_,k⟩:=j.ll;refine AU ?_;refine BA E O O O rA O (λl g h' o=>IR (St.all h') (i.mono' (o.all d.1)) (k.mono' (o.all d.1)) g) λl E=>AU ?_;exact BW (kp [2] O) λt n u=>RT
def JF (H:St S L h) {b:Value}{d:(List Kt)}(i:Sl S h FD b d) {c:Value}{g:(List Kt)}(j:Sl S h FD c g) {r:Bool}(E:Db N d g=some r):
 CJ prog 158 #[b,c] S h (λv S' h'=>v= .bool r∧St S' (L) h'):=by
 refine CJ.go 26 func158 O ntmps158 O λB=>?_;rw[Db] at E;refine AU ?_;refine AH O E (λI E=>?_) (λI E=>?_)
 ·exact RT
 refine AU ?_;refine AS (λa w=>IV B S h (26,[]) a w [] (L) λ_ _=>Ch N=some r) ?_ ?_
 ·refine A6 (λF=>λa w=>∃(s:Int),IV B S h (26,[]) a w [(12,vI (↑d.length:Int)),(0,b),(1,c),(13,vI s)] (L) λ_ _=>AA s∧CF N d g (Ch N) F s=some r) N ?_ ?_ ?_
  ·intro p q k l;exact⟨0,_,_,k.sub (kp [12,0,1,13] O),l,H,(BF.refl S h),(iq (n:=0) O),E⟩
  ·rintro p q ⟨_,_,_,_,_,_,_,_,E⟩;rw[CF] at E;cases E
  rintro F p q ⟨s,S9,J,k,l,o,m,r8,E⟩;refine AL ?_ k l;clear k l q p;rw[CF] at E;refine AU ?_;refine AH O E (λt E=>?_) (λt E=>?_)
  ·refine AU ?_;refine A4 (AU ?_);refine H7 (.inr ⟨mo,by kernel_rfl⟩) (AU ?_);have u:=i.mono' m;refine BH E O O u aV.1 O λK E M x=>?_;obtain⟨Q,_,y⟩:=x.lv;refine AU ?_;have z:=j.mono' m;refine BH E O O z aV.1 O λU E V A=>?_;obtain⟨W,_,C⟩:=A.lv;refine AU ?_;obtain⟨rfl,⟨X,Y⟩⟩:=FD.ex y;obtain⟨rfl,⟨Z,ab⟩⟩:=FD.ex C;refine U4 O O pQ O O O O (AU ?_);refine AH O E (λD E=>?_) (λD E=>?_)
   ·exact RT
   refine AU ?_;refine BK (AU ?_);refine WF.nil (λp q k l=>?_);exact⟨(BO (s+1)),_,_,k.sub (kp [12,0,1,13] O),l,o,m,(BT _),E⟩
  refine BL O (λp q k l=>?_);exact⟨_,_,k.sub Sa,l,o,m,E⟩
 rintro p q ⟨ac,ad,k,l,G,ae,E⟩;refine AL ?_ k l;clear k l q p;rw[Ch] at E;exact RT
def LY (p:St S L h) {a:Value}{c:Mt}(b:Rd S h NA a c) {r:Bool}(E:FA N c=some r):
 CJ prog 87 #[a] S h (λv S' h'=>v= .bool r∧St S' (L) h'):=by
 refine CJ.go 8 func87 O ntmps87 O λB=>?_;rw[FA] at E;refine AU ?_;refine Cn O b CE O p λw S2 x d y m=>AU ?_;refine CW (.inl O) d ?_;have q:=m.fl Mt.f_a;obtain⟨z,_,i⟩:=q.ll;have j:=m.fl Mt.f_b;obtain⟨s,_,k⟩:=j.ll;refine AU ?_;refine BA E O O O qZ O (λl g h' o=>JF (St.all h') (i.mono' (o.all d.1)) (k.mono' (o.all d.1)) g) λl E=>AU ?_;exact BW (kp [2] O) λt n u=>RT
def Iq (H:St S L h) {b:Value}{d:(List E4)}(i:Sl S h DE b d) {c:Value}{g:(List E4)}(j:Sl S h DE c g) {r:Bool}(E:DO N d g=some r):
 CJ prog 159 #[b,c] S h (λv S' h'=>v= .bool r∧St S' (L) h'):=by
 refine CJ.go 26 func159 O ntmps159 O λB=>?_;rw[DO] at E;refine AU ?_;refine AH O E (λI E=>?_) (λI E=>?_)
 ·exact RT
 refine AU ?_;refine AS (λa w=>IV B S h (26,[]) a w [] (L) λ_ _=>CT N=some r) ?_ ?_
 ·refine A6 (λF=>λa w=>∃(s:Int),IV B S h (26,[]) a w [(12,vI (↑d.length:Int)),(0,b),(1,c),(13,vI s)] (L) λ_ _=>AA s∧CB N d g (CT N) F s=some r) N ?_ ?_ ?_
  ·intro p q k l;exact⟨0,_,_,k.sub (kp [12,0,1,13] O),l,H,(BF.refl S h),(iq (n:=0) O),E⟩
  ·rintro p q ⟨_,_,_,_,_,_,_,_,E⟩;rw[CB] at E;cases E
  rintro F p q ⟨s,S9,J,k,l,o,m,r8,E⟩;refine AL ?_ k l;clear k l q p;rw[CB] at E;refine AU ?_;refine AH O E (λt E=>?_) (λt E=>?_)
  ·refine AU ?_;refine A4 (AU ?_);refine H7 (.inr ⟨mo,by kernel_rfl⟩) (AU ?_);have u:=i.mono' m;refine BH E O O u aU.1 O λK E M x=>?_;obtain⟨Q,_,y⟩:=x.lv;refine AU ?_;have z:=j.mono' m;refine BH E O O z aU.1 O λU E V A=>?_;obtain⟨W,_,C⟩:=A.lv;refine AU ?_;obtain⟨rfl,⟨X,Y,Z,ab⟩⟩:=DE.ex y;obtain⟨rfl,⟨ac,ad,ae,af⟩⟩:=DE.ex C;refine U4 O O pP O O O O (AU ?_);refine AH O E (λD E=>?_) (λD E=>?_)
   ·exact RT
   refine AU ?_;refine BK (AU ?_);refine WF.nil (λp q k l=>?_);exact⟨(BO (s+1)),_,_,k.sub (kp [12,0,1,13] O),l,o,m,(BT _),E⟩
  refine BL O (λp q k l=>?_);exact⟨_,_,k.sub Sa,l,o,m,E⟩
 rintro p q ⟨ag,ah,k,l,G,ai,E⟩;refine AL ?_ k l;clear k l q p;rw[CT] at E;exact RT
def LQ (p:St S L h) {a:Value}{c:Kr}(b:Rd S h Lf a c) {r:Bool}(E:Ek N c=some r):
 CJ prog 88 #[a] S h (λv S' h'=>v= .bool r∧St S' (L) h'):=by
 refine CJ.go 8 func88 O ntmps88 O λB=>?_;rw[Ek] at E;refine AU ?_;refine Cn O b CE O p λw S2 x d y m=>AU ?_;refine CW (.inl O) d ?_;have q:=m.fl Kr.f_a;obtain⟨z,_,i⟩:=q.ll;have j:=m.fl Kr.f_b;obtain⟨s,_,k⟩:=j.ll;refine AU ?_;refine BA E O O O qY O (λl g h' o=>Iq (St.all h') (i.mono' (o.all d.1)) (k.mono' (o.all d.1)) g) λl E=>AU ?_;exact BW (kp [2] O) λt n u=>RT
def Ir (H:St S L h) {b:Value}{d:(List Ih)}(i:Sl S h Da b d) {c:Value}{g:(List Ih)}(j:Sl S h Da c g) {r:Bool}(E:DP N d g=some r):
 CJ prog 160 #[b,c] S h (λv S' h'=>v= .bool r∧St S' (L) h'):=by
 refine CJ.go 26 func160 O ntmps160 O λB=>?_;rw[DP] at E;refine AU ?_;refine AH O E (λI E=>?_) (λI E=>?_)
 ·exact RT
 refine AU ?_;refine AS (λa w=>IV B S h (26,[]) a w [] (L) λ_ _=>CU N=some r) ?_ ?_
 ·refine A6 (λF=>λa w=>∃(s:Int),IV B S h (26,[]) a w [(12,vI (↑d.length:Int)),(0,b),(1,c),(13,vI s)] (L) λ_ _=>AA s∧CC N d g (CU N) F s=some r) N ?_ ?_ ?_
  ·intro p q k l;exact⟨0,_,_,k.sub (kp [12,0,1,13] O),l,H,(BF.refl S h),(iq (n:=0) O),E⟩
  ·rintro p q ⟨_,_,_,_,_,_,_,_,E⟩;rw[CC] at E;cases E
  rintro F p q ⟨s,S9,J,k,l,o,m,r8,E⟩;refine AL ?_ k l;clear k l q p;rw[CC] at E;refine AU ?_;refine AH O E (λt E=>?_) (λt E=>?_)
  ·refine AU ?_;refine A4 (AU ?_);refine H7 (.inr ⟨mo,by kernel_rfl⟩) (AU ?_);have u:=i.mono' m;refine BH E O O u aT.1 O λK E M x=>?_;obtain⟨Q,_,y⟩:=x.lv;refine AU ?_;have z:=j.mono' m;refine BH E O O z aT.1 O λU E V A=>?_;obtain⟨W,_,C⟩:=A.lv;refine AU ?_;obtain⟨rfl,⟨X,Y,Z,ab⟩⟩:=Da.ex y;obtain⟨rfl,⟨ac,ad,ae,af⟩⟩:=Da.ex C;refine U4 O O pO O O O O (AU ?_);refine AH O E (λD E=>?_) (λD E=>?_)
   ·exact RT
   refine AU ?_;refine BK (AU ?_);refine WF.nil (λp q k l=>?_);exact⟨(BO (s+1)),_,_,k.sub (kp [12,0,1,13] O),l,o,m,(BT _),E⟩
  refine BL O (λp q k l=>?_);exact⟨_,_,k.sub Sa,l,o,m,E⟩
 rintro p q ⟨ag,ah,k,l,G,ai,E⟩;refine AL ?_ k l;clear k l q p;rw[CU] at E;exact RT
def LR (p:St S L h) {a:Value}{c:Ks}(b:Rd S h Lg a c) {r:Bool}(E:El N c=some r):
 CJ prog 89 #[a] S h (λv S' h'=>v= .bool r∧St S' (L) h'):=by
 refine CJ.go 8 func89 O ntmps89 O λB=>?_;rw[El] at E;refine AU ?_;refine Cn O b CE O p λw S2 x d y m=>AU ?_;refine CW (.inl O) d ?_;have q:=m.fl Ks.f_a;obtain⟨z,_,i⟩:=q.ll;have j:=m.fl Ks.f_b;obtain⟨s,_,k⟩:=j.ll;refine AU ?_;refine BA E O O O qX O (λl g h' o=>Ir (St.all h') (i.mono' (o.all d.1)) (k.mono' (o.all d.1)) g) λl E=>AU ?_;exact BW (kp [2] O) λt n u=>RT
def Oj (hs:St S L h) {k:Value}{a:By}(p:Rd S h CZ k a) {l:Value}{b:By}(q:Rd S h CZ l b) {r:Bool}(E:IZ N a b=some r):
 CJ prog 39 #[k,l] S h (λv S' h'=>v= .bool r∧St S' (L) h'):=by
 refine CJ.go 43 func39 O ntmps39 O λB=>?_;rw[IZ] at E;refine AU ?_;refine Cn O p CE O hs λq1 S2 h3 aw e5 k6=>?_;have k7:=q.mono e5;refine Cn O k7 CE O aw λq8 S9 bg c ax m=>AU ?_;refine CW (.inl O) c ?_;have n:=k6.mono ax;have ay:=n.fl By.f_Rain;obtain⟨bh,_,H⟩:=ay.ll;have az:=m.fl By.f_Rain;obtain⟨bi,_,I⟩:=az.ll;refine AU ?_;obtain⟨J,s,rfl,bj⟩:=(H).len;obtain⟨K,t,rfl,bk⟩:=(I).len;refine Gs (cs:=[(.slice J a.T.length s),(.slice K b.T.length t)]) oD O O O ?_;obtain⟨a0,M,E⟩:=bd E;refine JX O O O vX O (λh' o=>PU (St.all h') (EK.mk (x:=(⟨a.T,b.T⟩:DC)) (H.mono' (o.all c.1)) (I.mono' (o.all c.1))) M) (AU ?_);obtain⟨Q,d,E⟩:=bd E;refine AY 7 18 (.bool Q) ?_ ?_
 ·cases V:a0
  ·have d:=HM V d;cases d;exact BE O O
  have d:=HL V d;have a1:=n.fl Kh;obtain⟨bl,_,W⟩:=a1.ll;have a2:=m.fl Kh;obtain⟨bm,_,X⟩:=a2.ll;refine AU ?_;obtain⟨Y,u,rfl,bn⟩:=(W).len;obtain⟨Z,w,rfl,bo⟩:=(X).len;refine Gs (cs:=[(.slice Y a.Ab.length u),(.slice Z b.Ab.length w)]) oC O O O (AU ?_);obtain⟨bp,aa,d⟩:=bd d;refine JX O O O vW O (λh' o=>LB (St.all h') (Kb.mk (x:=(⟨a.Ab,b.Ab⟩:Jj)) (W.mono' (o.all c.1)) (X.mono' (o.all c.1))) aa) (AU ?_);cases d;exact AZ O
 refine AU ?_;obtain⟨ab,g,E⟩:=bd E;refine AY 7 26 (.bool ab) ?_ ?_
 ·cases ac:Q
  ·have g:=HM ac g;cases g;exact BE O O
  have g:=HL ac g;have a3:=n.fl Lh;obtain⟨bq,_,ad⟩:=a3.ll;have a4:=m.fl Lh;obtain⟨br,_,ae⟩:=a4.ll;refine AU ?_;obtain⟨af,y,rfl,bs⟩:=(ad).len;obtain⟨ag,z,rfl,bt⟩:=(ae).len;refine Gs (cs:=[(.slice af a.Ac.length y),(.slice ag b.Ac.length z)]) oA O O O (AU ?_);obtain⟨bu,ah,g⟩:=bd g;refine JX O O O vV O (λh' o=>LY (St.all h') (NA.mk (x:=(⟨a.Ac,b.Ac⟩:Mt)) (ad.mono' (o.all c.1)) (ae.mono' (o.all c.1))) ah) (AU ?_);cases g;exact AZ O
 refine AU ?_;obtain⟨ai,i,E⟩:=bd E;refine AY 7 34 (.bool ai) ?_ ?_
 ·cases aj:ab
  ·have i:=HM aj i;cases i;exact BE O O
  have i:=HL aj i;have a5:=n.fl LH;obtain⟨bv,_,ak⟩:=a5.ll;have a6:=m.fl LH;obtain⟨bw,_,al⟩:=a6.ll;refine AU ?_;obtain⟨am,A,rfl,bx⟩:=(ak).len;obtain⟨an,C,rfl,bz⟩:=(al).len;refine Gs (cs:=[(.slice am a.U.length A),(.slice an b.U.length C)]) nZ O O O (AU ?_);obtain⟨b0,ao,i⟩:=bd i;refine JX O O O vU O (λh' o=>LQ (St.all h') (Lf.mk (x:=(⟨a.U,b.U⟩:Kr)) (ak.mono' (o.all c.1)) (al.mono' (o.all c.1))) ao) (AU ?_);cases i;exact AZ O
 refine AU ?_;obtain⟨a7,j,E⟩:=bd E;refine AY 7 42 (.bool a7) ?_ ?_
 ·cases ap:ai
  ·have j:=HM ap j;cases j;exact BE O O
  have j:=HL ap j;have a8:=n.fl LI;obtain⟨b1,_,aq⟩:=a8.ll;have a9:=m.fl LI;obtain⟨b2,_,ar⟩:=a9.ll;refine AU ?_;obtain⟨au,D,rfl,b3⟩:=(aq).len;obtain⟨av,F,rfl,bb⟩:=(ar).len;refine Gs (cs:=[(.slice au a.Ae.length D),(.slice av b.Ae.length F)]) nY O O O (AU ?_);obtain⟨bc,G,j⟩:=bd j;refine JX O O O vT O (λh' o=>LR (St.all h') (Lg.mk (x:=(⟨a.Ae,b.Ae⟩:Ks)) (aq.mono' (o.all c.1)) (ar.mono' (o.all c.1))) G) (AU ?_);cases j;exact AZ O
 refine AU ?_;exact BW (kp [4] O) λbe ba bf=>RT
def IU (k:St S L h) {b:Value}{c:(List Gj)}(a:Sl S h Cm b c) {r:(List Gj)}(E:DJ N c=some r):
 CJ prog 90 #[b] S h (λv S' h'=>St S' (OS Cm 148 v r::L) h'):=by
 refine CJ.go 8 func90 O ntmps90 O λB=>?_;rw[DJ] at E;rcases a.cases with ⟨rfl,rfl⟩|⟨n,m,rfl,a⟩
 ·have s:(some ([]:List Gj))=some r:=by simpa [chk,HJ] using E
  refine AU ?_;refine JD O O O Zr (AU ?_);refine J7 O (AU ?_);have d:=k.nil Cm 148;cases E;exact Fp d O O EX
 refine AU ?_;refine J9 O O O Zr (AU ?_);refine J8 O (AU ?_);refine KB (r:=Cm) mC O O k λv1 t g o=>AU ?_;have p:=a.mono' o;obtain⟨i,E⟩:=LX E;refine GU (r:=Cm) (l:=([]:List Gj)) (xs:=c) O O mC O (Sl.src p) O i O g (λ_=> .head) λu w j q=>AU ?_;cases E;exact Fp j O O EX
def JG (k:St S L h) {b:Value}{c:(List Kt)}(a:Sl S h FD b c) {r:(List Kt)}(E:Dc N c=some r):
 CJ prog 91 #[b] S h (λv S' h'=>St S' (OS FD 153 v r::L) h'):=by
 refine CJ.go 8 func91 O ntmps91 O λB=>?_;rw[Dc] at E;rcases a.cases with ⟨rfl,rfl⟩|⟨n,m,rfl,a⟩
 ·have s:(some ([]:List Kt))=some r:=by simpa [chk,HJ] using E
  refine AU ?_;refine JD O O O Zq (AU ?_);refine J7 O (AU ?_);have d:=k.nil FD 153;cases E;exact Fp d O O EX
 refine AU ?_;refine J9 O O O Zq (AU ?_);refine J8 O (AU ?_);refine KB (r:=FD) mB O O k λv1 t g o=>AU ?_;have p:=a.mono' o;obtain⟨i,E⟩:=LX E;refine GU (r:=FD) (l:=([]:List Kt)) (xs:=c) O O mB O (Sl.src p) O i O g (λ_=> .head) λu w j q=>AU ?_;cases E;exact Fp j O O EX
def It (k:St S L h) {b:Value}{c:(List E4)}(a:Sl S h DE b c) {r:(List E4)}(E:DQ N c=some r):
 CJ prog 92 #[b] S h (λv S' h'=>St S' (OS DE 158 v r::L) h'):=by
 refine CJ.go 8 func92 O ntmps92 O λB=>?_;rw[DQ] at E;rcases a.cases with ⟨rfl,rfl⟩|⟨n,m,rfl,a⟩
 ·have s:(some ([]:List E4))=some r:=by simpa [chk,HJ] using E
  refine AU ?_;refine JD O O O Zp (AU ?_);refine J7 O (AU ?_);have d:=k.nil DE 158;cases E;exact Fp d O O EX
 refine AU ?_;refine J9 O O O Zp (AU ?_);refine J8 O (AU ?_);refine KB (r:=DE) mA O O k λv1 t g o=>AU ?_;have p:=a.mono' o;obtain⟨i,E⟩:=LX E;refine GU (r:=DE) (l:=([]:List E4)) (xs:=c) O O mA O (Sl.src p) O i O g (λ_=> .head) λu w j q=>AU ?_;cases E;exact Fp j O O EX
def Iu (k:St S L h) {b:Value}{c:(List Ih)}(a:Sl S h Da b c) {r:(List Ih)}(E:DT N c=some r):
 CJ prog 93 #[b] S h (λv S' h'=>St S' (OS Da 163 v r::L) h'):=by
 refine CJ.go 8 func93 O ntmps93 O λB=>?_;rw[DT] at E;rcases a.cases with ⟨rfl,rfl⟩|⟨n,m,rfl,a⟩
 ·have s:(some ([]:List Ih))=some r:=by simpa [chk,HJ] using E
  refine AU ?_;refine JD O O O Zo (AU ?_);refine J7 O (AU ?_);have d:=k.nil Da 163;cases E;exact Fp d O O EX
 refine AU ?_;refine J9 O O O Zo (AU ?_);refine J8 O (AU ?_);refine KB (r:=Da) lZ O O k λv1 t g o=>AU ?_;have p:=a.mono' o;obtain⟨i,E⟩:=LX E;refine GU (r:=Da) (l:=([]:List Ih)) (xs:=c) O O lZ O (Sl.src p) O i O g (λ_=> .head) λu w j q=>AU ?_;cases E;exact Fp j O O EX
def Ol (hs:St S L h) {j:Value}{a:By}(K:Rd S h CZ j a) {r:By}(E:Ib N a=some r):
 CJ prog 40 #[j] S h (λv S' h'=>Rd S' h' CZ v r∧St S' (L) h'):=by
 refine CJ.go 19 func40 O ntmps40 O λB=>?_;rw[Ib] at E;refine AU ?_;refine Cn O K CE O hs λq1 S2 h3 c1 e5 k6=>Dp XN O c1 λb7 M g ek=>AU ?_;refine RA (kp [2,1] O) ?_;obtain⟨w,bc,E⟩:=bd E;obtain⟨y,be,E⟩:=bd E;obtain⟨z,bf,E⟩:=bd E;obtain⟨A,bg,E⟩:=bd E;obtain⟨C,bh,E⟩:=bd E;refine M0 (m:=[(2,vP b7 0),(1,q1)]) 16 (λi v d=>match i with|0=>Pt S2 d (A5.sl AB) v a.T|1=>Sl S2 d AB v a.T|2=>Sl (SN S2 M d) d AB v w|3=>Pt S2 d (A5.sl Cm) v a.Ab|4=>Sl S2 d Cm v a.Ab|5=>Sl (SN S2 M d) d Cm v y|6=>Pt S2 d (A5.sl FD) v a.Ac|7=>Sl S2 d FD v a.Ac|8=>Sl (SN S2 M d) d FD v z|9=>Pt S2 d (A5.sl DE) v a.U|10=>Sl S2 d DE v a.U|11=>Sl (SN S2 M d) d DE v A|12=>Pt S2 d (A5.sl Da) v a.Ae|13=>Sl S2 d Da v a.Ae|14=>Sl (SN S2 M d) d Da v C|15=>Rd (SN S2 M d) d CZ v (⟨w,y,z,A,C⟩:By)|_=>False) [[],[(0,3)],[(1,4)],[],[(3,6)],[(4,7)],[],[(6,9)],[(7,10)],[],[(9,12)],[(10,13)],[],[(12,15)],[(13,16)],[(2,5),(5,8),(8,11),(11,14),(14,17)]] [(15,18)] mo (by kernel_rfl) [2,1] O (by kernel_rfl) (by kernel_rfl) (by kernel_rfl) (kp [2,1] O) MO ?_ ?_
 ·refine A3.cons O ?_ ?_
  ·intro D d o;have c:=o.st g;have bi:=k6.nw;have bj:=bi.fl By.f_Rain;refine AU ?_;exact BV bj
  refine A3.cons O ?_ ?_
  ·intro D d o;intro bk Q;have c:=o.st g;have Q:Pt _ _ (A5.sl AB) bk a.T:=Q;obtain⟨c7,_,bl⟩:=Q.ll;refine AU ?_;exact BV bl
  refine A3.cons O ?_ ?_
  ·intro D d o;intro bm l;have c:=SN.st g o;have l:=Sl.sn M l;have l:Sl _ _ AB bm a.T:=l;have b:=c.fz;refine FZ O O O Mp O b (B4 (St.all _) (l.mono b.ea.1 b.ea.2) bc) λc8 c9 da c2 db bn p=>?_;have av:=p;have V:=b.join bn av ⟨OS.flat (λ{_ _ _ _ _ _} k=>k),trivial⟩;simp only[Aa5,Aa6] at V;obtain⟨dc,aw,dd,bo⟩:=V.pubs .head;have W:=Fz.done o EX aw;exact A7 W.1 (Sl.mono' bo W.2)
  refine A3.cons O ?_ ?_
  ·intro D d o;have c:=o.st g;have bp:=k6.nw;have bq:=bp.fl Kh;refine AU ?_;exact BV bq
  refine A3.cons O ?_ ?_
  ·intro D d o;intro br X;have c:=o.st g;have X:Pt _ _ (A5.sl Cm) br a.Ab:=X;obtain⟨de,_,bs⟩:=X.ll;refine AU ?_;exact BV bs
  refine A3.cons O ?_ ?_
  ·intro D d o;intro bt n;have c:=SN.st g o;have n:=Sl.sn M n;have n:Sl _ _ Cm bt a.Ab:=n;have b:=c.fz;refine FZ O O O vS O b (IU (St.all _) (n.mono b.ea.1 b.ea.2) be) λdf dg dh c3 di bu p=>?_;have ax:=p;have Y:=b.join bu ax ⟨OS.flat (λ{_ _ _ _ _ _} k=>k),trivial⟩;simp only[Aa5,Aa6] at Y;obtain⟨dj,ay,dk,bv⟩:=Y.pubs .head;have Z:=Fz.done o EX ay;exact A7 Z.1 (Sl.mono' bv Z.2)
  refine A3.cons O ?_ ?_
  ·intro D d o;have c:=o.st g;have bw:=k6.nw;have bx:=bw.fl Lh;refine AU ?_;exact BV bx
  refine A3.cons O ?_ ?_
  ·intro D d o;intro bz ab;have c:=o.st g;have ab:Pt _ _ (A5.sl FD) bz a.Ac:=ab;obtain⟨dl,_,b0⟩:=ab.ll;refine AU ?_;exact BV b0
  refine A3.cons O ?_ ?_
  ·intro D d o;intro b1 q;have c:=SN.st g o;have q:=Sl.sn M q;have q:Sl _ _ FD b1 a.Ac:=q;have b:=c.fz;refine FZ O O O vR O b (JG (St.all _) (q.mono b.ea.1 b.ea.2) bf) λdm dn dp c4 dq b2 p=>?_;have az:=p;have ac:=b.join b2 az ⟨OS.flat (λ{_ _ _ _ _ _} k=>k),trivial⟩;simp only[Aa5,Aa6] at ac;obtain⟨dr,a0,ds,b3⟩:=ac.pubs .head;have ad:=Fz.done o EX a0;exact A7 ad.1 (Sl.mono' b3 ad.2)
  refine A3.cons O ?_ ?_
  ·intro D d o;have c:=o.st g;have b4:=k6.nw;have b5:=b4.fl LH;refine AU ?_;exact BV b5
  refine A3.cons O ?_ ?_
  ·intro D d o;intro b6 af;have c:=o.st g;have af:Pt _ _ (A5.sl DE) b6 a.U:=af;obtain⟨dt,_,b8⟩:=af.ll;refine AU ?_;exact BV b8
  refine A3.cons O ?_ ?_
  ·intro D d o;intro b9 s;have c:=SN.st g o;have s:=Sl.sn M s;have s:Sl _ _ DE b9 a.U:=s;have b:=c.fz;refine FZ O O O vQ O b (It (St.all _) (s.mono b.ea.1 b.ea.2) bg) λdu dv dw c5 dx ca p=>?_;have a1:=p;have ag:=b.join ca a1 ⟨OS.flat (λ{_ _ _ _ _ _} k=>k),trivial⟩;simp only[Aa5,Aa6] at ag;obtain⟨dy,a2,dz,cb⟩:=ag.pubs .head;have ah:=Fz.done o EX a2;exact A7 ah.1 (Sl.mono' cb ah.2)
  refine A3.cons O ?_ ?_
  ·intro D d o;have c:=o.st g;have cc:=k6.nw;have cd:=cc.fl LI;refine AU ?_;exact BV cd
  refine A3.cons O ?_ ?_
  ·intro D d o;intro ce ai;have c:=o.st g;have ai:Pt _ _ (A5.sl Da) ce a.Ae:=ai;obtain⟨d0,_,cf⟩:=ai.ll;refine AU ?_;exact BV cf
  refine A3.cons O ?_ ?_
  ·intro D d o;intro cg t;have c:=SN.st g o;have t:=Sl.sn M t;have t:Sl _ _ Da cg a.Ae:=t;have b:=c.fz;refine FZ O O O vM O b (Iu (St.all _) (t.mono b.ea.1 b.ea.2) bh) λd1 d2 d3 c6 d4 ch p=>?_;have a3:=p;have aj:=b.join ch a3 ⟨OS.flat (λ{_ _ _ _ _ _} k=>k),trivial⟩;simp only[Aa5,Aa6] at aj;obtain⟨d5,a4,d6,ci⟩:=aj.pubs .head;have ak:=Fz.done o EX a4;exact A7 ak.1 (Sl.mono' ci ak.2)
  refine A3.cons O ?_ ?_
  ·intro D d o;intro cj F ck G cl H cm I cn J;have c:=SN.st g o;have F:Sl _ _ AB cj w:=F;have G:Sl _ _ Cm ck y:=G;have H:Sl _ _ FD cl z:=H;have I:Sl _ _ DE cm A:=I;have J:Sl _ _ Da cn C:=J;refine AU ?_;obtain⟨a5,ao,rfl,d7⟩:=(F).len;obtain⟨a6,ap,rfl,d8⟩:=(G).len;obtain⟨a7,aq,rfl,d9⟩:=(H).len;obtain⟨a8,ar,rfl,eb⟩:=(I).len;obtain⟨a9,au,rfl,ec⟩:=(J).len;refine Gs (cs:=[(.slice a5 w.length ao),(.slice a6 y.length ap),(.slice a7 z.length aq),(.slice a8 A.length ar),(.slice a9 C.length au)]) SR O O O (AU ?_);exact BV (CZ.mk (x:=(⟨w,y,z,A,C⟩:By)) F G H I J)
  exact trivial
 intro ed co cp am;have ba:=SN.st g co;have am:Rd _ _ CZ cp (⟨w,y,z,A,C⟩:By):=am;obtain⟨ee,ef,eg,eh,ei,rfl,cq,cr,ct,cu,cv⟩:=CZ.ex am;refine JZ O O O ON NK.1 O ba .head O λej an u=>AU ?_;refine CI (λaa ww hf hw=>?_);have cw:=cq.mono' u;have cx:=cr.mono' u;have cy:=ct.mono' u;have cz:=cu.mono' u;have c0:=cv.mono' u;have bb:=an.drop .head;cases E;exact Kv hf O hw (Io (Wm hf hw an O mh NK.1 O) Ku) O EX ⟨(CZ.mk (x:=(⟨w,y,z,A,C⟩:By)) cw cx cy cz c0),bb⟩
def Rm (hs:St S L h) {z:Value}{b:AN}(ab:Rd S h B3 z b) {r:AN}(E:KW N b=some r):
 CJ prog 57 #[z] S h (λv S' h'=>∃w1 w2 w3 w4 w5 w6:Value,v= .agg #[vI r.B,w1,w2,w3,w4,w5,w6]∧AA r.B∧Sl S' h' AX w3 r.I∧St S' (OO AB 3 29 w1 r.G::OS AB 3 w2 r.N::OS BQ 107 w4 r.R::OS AB 3 w5 r.L::OS AB 3 w6 r.O::L) h'):=by
 refine CJ.go 43 func57 O ntmps57 O λB=>?_;rw[KW] at E;refine AU ?_;obtain⟨v3,v5,v7,v9,M,K,rfl,r2,k4,k6,k8,bk,bl,bm⟩:=B3.ex ab;refine NC O O O hs λac cn ax bn=>Dp P9 O ax λad co ay cp=>?_;have cq:=k4.nw;refine AU ?_;obtain⟨az,E⟩:=LX E;refine kR AB 3 V9 O O az O O ay λae ak a0 cr=>?_;have bo:=k4.nw;refine AU ?_;refine AS (λa w=>∃(m:List (List Int)),IV B S ak (43,[]) a w [(3,ae),(2,vP ad 0),(1,vP ac 0)] (OO AB 3 29 ae m::Bx ad 36 [vI 0,vN,vN,vN,vN,vN,vN]::Bx ac 36 [vI b.B,v3,v5,v7,v9,M,K]::L) λ_ _=>F5 N b m=some r) ?_ ?_
 ·refine A6 (λn1=>λa w=>∃(s:Int) (Q:List (List Int)),IV B S ak (43,[]) a w [(12,vI (↑b.G.length:Int)),(11,v3),(3,ae),(2,vP ad 0),(1,vP ac 0),(13,vI s)] (OO AB 3 29 ae Q::Bx ad 36 [vI 0,vN,vN,vN,vN,vN,vN]::Bx ac 36 [vI b.B,v3,v5,v7,v9,M,K]::L) λ_ _=>AA s∧Fy N b (F5 N b) n1 s Q=some r) N ?_ ?_ ?_
  ·intro aa ww A C;exact⟨0,(List.replicate ((↑b.G.length:Int):Int).toNat ([]:(List Int))),_,_,A.sub (kp [12,11,3,2,1,13] O),C,a0,(BF.refl S ak),(iq (n:=0) O),E⟩
  ·rintro aa ww ⟨_,_,_,_,_,_,_,_,_,E⟩;rw[Fy] at E;cases E
  rintro n1 aa ww ⟨s,Q,cs,ct,A,C,o,a1,cu,E⟩;refine AL ?_ A C;clear A C ww aa;rw[Fy] at E;refine AU ?_;refine AH O E (λbp E=>?_) (λbp E=>?_)
  ·refine AU ?_;refine A4 (AU ?_);have bq:=bo.mono' a1;refine BH E O O bq Jl.1 O λcv E cw br=>?_;obtain⟨cx,_,bs⟩:=br.ll;refine AU ?_;refine DK (AU ?_);refine DN E O O O Mp O o (λa2 a3=>B4 (St.all _) (bs.mono o.ea.1 o.ea.2) a3) λa2 E cy cz c0 b1 c1 bt p=>?_;have a4:=p;have U:=o.join bt a4 ⟨OS.flat (λ{_ _ _ _ _ _} k=>k),trivial⟩;simp only[Aa5,Aa6] at U;refine AU ?_;obtain⟨c2,a5,E⟩:=bd E;refine Qm (r:=AB) U (mt mh) O O Jl.1 a5 O λc3 a6=>AU ?_;obtain⟨c4,a7,E⟩:=bd E;refine Yj (r:=AB) (i:=s) O O a6 a7 GD.1 U λc5 a8 c6=>AU ?_;refine BK (AU ?_);refine WF.nil (λaa ww A C=>?_);exact⟨(BO (s+1)),(upd Q s a2),_,_,A.sub (kp [12,11,3,2,1,13] O),C,a8,EX,(BT _),E⟩
  refine BL O (λaa ww A C=>?_);exact⟨Q,_,_,A.sub (kp [3,2,1] O),C,o,a1,E⟩
 rintro aa ww ⟨m,c7,c8,A,C,ah,c9,E⟩;refine AL ?_ A C;clear A C ww aa;rw[F5] at E;refine AU ?_;obtain⟨q,c,rfl,da⟩:=ah.oolen mh;refine GN (cs':=[vI b.B,(.slice q m.length c),v5,v7,v9,M,K]) O O O O VS.1 O ah (.tail (.tail .head)) O O λdb D dc=>AU ?_;refine DK (AU ?_);have bu:=k6.nw;refine DN E O O O Mp O D (λV a9=>B4 (St.all _) (bu.mono D.ea.1 D.ea.2) a9) λV E dd de df b2 dg bv p=>?_;have ba:=p;have W:=D.join bv ba ⟨OS.flat (λ{_ _ _ _ _ _} k=>k),trivial⟩;simp only[Aa5,Aa6] at W;refine AU ?_;obtain⟨F,d,rfl,dh⟩:=W.oslen mh;refine GN (cs':=[vI b.B,(.slice q m.length c),(.slice F V.length d),v7,v9,M,K]) O O O O GD.1 O W (.tail (.tail (.tail .head))) O O λdi H dj=>AU ?_;refine DK (AU ?_);have bw:=bk.nw;refine DN E O O O eL O H (λaf bb=>GE (St.all _) (bw.mono H.ea.1 H.ea.2) bb) λaf E dk dl b3 bx b4 bc p=>?_;have am:=p;have t:=H.join bc am ⟨OS.flat (λ{_ _ _ _ _ _} k=>k),trivial⟩;simp only[Aa5,Aa6] at t;refine AU ?_;obtain⟨u,g,rfl,b5⟩:=t.oslen mh;refine GN (cs':=[vI b.B,(.slice q m.length c),(.slice F V.length d),v7,(.slice u af.length g),M,K]) O O O O lB.1 O t (.tail (.tail (.tail (.tail .head)))) O O λb6 j b7=>AU ?_;refine DK (AU ?_);have be:=bl.nw;refine DN E O O O Mp O j (λX an=>B4 (St.all _) (be.mono j.ea.1 j.ea.2) an) λX E b8 b9 ca bz cb bf p=>?_;have ao:=p;have x:=j.join bf ao ⟨OS.flat (λ{_ _ _ _ _ _} k=>k),trivial⟩;simp only[Aa5,Aa6] at x;refine AU ?_;obtain⟨Y,J,rfl,cc⟩:=x.oslen mh;refine GN (cs':=[vI b.B,(.slice q m.length c),(.slice F V.length d),v7,(.slice u af.length g),(.slice Y X.length J),K]) O O O O GD.1 O x (.tail (.tail (.tail (.tail (.tail .head))))) O O λcd l ce=>AU ?_;refine DK (AU ?_);have bg:=bm.nw;refine DN E O O O Mp O l (λai ap=>B4 (St.all _) (bg.mono l.ea.1 l.ea.2) ap) λai E cf cg ch b0 ci bh p=>?_;have aq:=p;have y:=l.join bh aq ⟨OS.flat (λ{_ _ _ _ _ _} k=>k),trivial⟩;simp only[Aa5,Aa6] at y;refine AU ?_;obtain⟨ar,ag,rfl,cj⟩:=y.oslen mh;refine GN (cs':=[vI b.B,(.slice q m.length c),(.slice F V.length d),v7,(.slice u af.length g),(.slice Y X.length J),(.slice ar ai.length ag)]) O O O O GD.1 O y (.tail (.tail (.tail (.tail (.tail (.tail .head)))))) O O λck au cl=>AU ?_;have bi:=k8.nw;refine JZ O O O ON J0.1 O au (.tail (.tail (.tail (.tail (.tail .head))))) O λcm av aj=>AU ?_;refine CI (λaa ww A C=>?_);have Z:=av.sel [4,3,2,1,0,0] 1 O;have bj:=bi.mono' aj;have aw:=Z.drop (.tail (.tail (.tail (.tail (.tail .head)))));cases E;exact Kv A O C (Io (Wm A C Z O (mt (mt (mt (mt (mt mh))))) J0.1 O) Ku) O ((((((bn.trans EX).trans EX).trans EX).trans EX).trans EX).trans aj) ⟨_,_,_,_,_,_,O,r2,bj,aw⟩
def Ss (hs:St S L h) {i:Value}{l:A8}(p:Rd S h B8 i l) {j:Value}{b:A0}(q:Rd S h BQ j b) {c:Int}(y:AA c) {r:A0}(E:IA N l b c=some r):
 CJ prog 114 #[i,j,vI c] S h (λv S' h'=>v= .agg #[vI r.Z,vI r.Aa,.bool r.Ax,.bool r.Am]∧A0.ok r∧St S' (L) h'):=by
 refine CJ.go 24 func114 O ntmps114 O λB=>?_;rw[IA] at E;refine AU ?_;refine Cn O p CE O hs λq1 S2 h3 Q e5 k6=>?_;have k7:=q.mono e5;obtain⟨rfl,⟨r9,U⟩⟩:=BQ.ex k7;refine NC O O O Q λs ae D af=>Dp SD O D λt u k ag=>AU ?_;refine AS (λa w=>∃(z:Bool) (A:Bool),IV B S2 u (24,[]) a w [(6,vP t 0),(4,vP s 0)] (Bx t 107 [vI 0,vI 0,.bool false,.bool false]::Bx s 107 [vI b.Z,vI b.Aa,.bool z,.bool A]::L) λ_ _=>Gq N b z A=some r) ?_ ?_
 ·refine AU ?_;refine AH O E (λV E=>?_) (λV E=>?_)
  ·refine AU ?_;refine GN (cs':=[vI b.Z,vI b.Aa,.bool true,.bool b.Am]) O O O O Wc.1 O k (.tail .head) O O λah F W=>AU ?_;refine WF.nil (λm n d g=>?_);exact⟨true,b.Am,_,_,d.sub (kp [6,4] O),g,F,W,E⟩
  refine AU ?_;refine AH O E (λX E=>?_) (λX E=>?_)
  ·refine AU ?_;refine GN (cs':=[vI b.Z,vI b.Aa,.bool false,.bool b.Am]) O O O O Wc.1 O k (.tail .head) O O λai G Y=>AU ?_;refine WF.nil (λm n d g=>?_);exact⟨false,b.Am,_,_,d.sub (kp [6,4] O),g,G,Y,E⟩
  refine AU ?_;refine IC (λa w=>∃(C:Bool),IV B S2 u (24,[]) a w [(6,vP t 0),(4,vP s 0),(3,q1),(2,vI c),(14,.bool C)] (Bx t 107 [vI 0,vI 0,.bool false,.bool false]::Bx s 107 [vI b.Z,vI b.Aa,.bool b.Ax,.bool b.Am]::L) λ_ _=>HQ N l b c (Gq N b) C=some r) ?_ ?_
  ·refine AH O E (λab E=>?_) (λab E=>?_)
   ·refine AU ?_;refine WF.nil (λm n d g=>?_);exact⟨(decide (c=2)),_,_,d.sub (kp [6,4,3,2,14] O),g,k,(BF.refl S2 u),E⟩
   refine AU ?_;refine WF.nil (λm n d g=>?_);exact⟨(decide (c=3)),_,_,d.sub (kp [6,4,3,2,14] O),g,k,(BF.refl S2 u),E⟩
  rintro m n ⟨C,aj,ak,d,g,o,H,E⟩;refine AL ?_ d g;clear d g n m;rw[HQ] at E;refine AH O E (λac E=>?_) (λac E=>?_)
  ·have am:=k6.nw;refine AU ?_;refine AH O E (λad E=>?_) (λad E=>?_)
   ·refine AU ?_;refine GN (cs':=[vI b.Z,vI b.Aa,.bool b.Ax,.bool (decide (c=2))]) O O O O Wc.1 O o (.tail .head) O O λan I ao=>AU ?_;refine WF.nil (λm n d g=>?_);exact⟨b.Ax,(decide (c=2)),_,_,d.sub (kp [6,4] O),g,I,EX,E⟩
   refine AU ?_;refine WF.nil (λm n d g=>?_);exact⟨b.Ax,b.Am,_,_,d.sub (kp [6,4] O),g,o,H,E⟩
  refine AU ?_;refine WF.nil (λm n d g=>?_);exact⟨b.Ax,b.Am,_,_,d.sub (kp [6,4] O),g,o,H,E⟩
 rintro m n ⟨z,A,ap,aq,d,g,J,ar,E⟩;refine AL ?_ d g;clear d g n m;rw[Gq] at E;refine AU ?_;refine Eh O O O O Ip.1 O J .head O λau K av=>AU ?_;refine CI (λm n d g=>?_);have x:=K.drop (.tail .head);have M:=x.drop .head;cases E;exact Kv d O g (Io (Wm d g x O mh Ip.1 O) Ku) O EX ⟨O,⟨r9,U⟩,M⟩
def Jo (l:St S L h) {c:Int}(i:AA c) {b:Int}(g:AA b) {a:Int}(d:AA a) {r:Int}(E:Ge N c b a=some r):
 CJ prog 14 #[vI c,vI b,vI a] S h (λv S' h'=>v=vI r∧AA r∧St S' (L) h'):=by
 refine CJ.go 16 func14 O ntmps14 O λB=>?_;rw[Ge] at E;refine AU ?_;refine AH O E (λj E=>?_) (λj E=>?_)
 ·exact RT
 refine AU ?_;refine AH O E (λk E=>?_) (λk E=>?_)
 ·exact RT
 exact RT
def Ui (hs:St S L h) {g:Value}{s:A8}(k:Rd S h B8 g s) {j:Value}{b:A0}(l:Rd S h BQ j b) {c:Int}(d:AA c) {r:A0}(E:Je N s b c=some r):
 CJ prog 115 #[g,j,vI c] S h (λv S' h'=>v= .agg #[vI r.Z,vI r.Aa,.bool r.Ax,.bool r.Am]∧A0.ok r∧St S' (L) h'):=by
 refine CJ.go 16 func115 O ntmps115 O λB=>?_;rw[Je] at E;refine AU ?_;refine Cn O k CE O hs λq1 S2 h3 Q e5 k6=>?_;have k7:=l.mono e5;obtain⟨rfl,⟨r9,U⟩⟩:=BQ.ex k7;refine NC O O O Q λy ae z af=>Dp SD O z λA C t ag=>?_;have V:=k6.nw;refine AU ?_;refine IC (λa w=>∃(m:Int),IV B S2 C (16,[]) a w [(6,vP A 0),(4,vP y 0)] (Bx A 107 [vI 0,vI 0,.bool false,.bool false]::Bx y 107 [vI b.Z,vI m,.bool b.Ax,.bool b.Am]::L) λ_ _=>AA m∧Le N b m=some r) ?_ ?_
 ·refine AH O E (λW E=>?_) (λW E=>?_)
  ·refine DK ?_;have X:=V.fl GV;have Y:=X.i;refine AU ?_;refine DN E O O O WH O t (λx D=>Jo (St.all _) d (iq (n:=0) O) Y D) λx E ah ai aj F ak am p=>?_;obtain⟨rfl,ab,ad⟩:=p;refine AU ?_;refine GN (cs':=[vI b.Z,vI x,.bool b.Ax,.bool b.Am]) O O O O FE.1 O F (.tail .head) O O λan G ao=>AU ?_;refine WF.nil (λK M o q=>?_);exact⟨x,_,_,o.sub (kp [6,4] O),q,G,EX,ab,E⟩
  refine AU ?_;refine WF.nil (λK M o q=>?_);exact⟨b.Aa,_,_,o.sub (kp [6,4] O),q,t,(BF.refl S2 C),U,E⟩
 rintro K M ⟨m,ap,aq,o,q,H,ar,ac,E⟩;refine AL ?_ o q;clear o q M K;rw[Le] at E;refine AU ?_;refine Eh O O O O Ip.1 O H .head O λau I av=>AU ?_;refine CI (λK M o q=>?_);have u:=I.drop (.tail .head);have J:=u.drop .head;cases E;exact Kv o O q (Io (Wm o q u O mh Ip.1 O) Ku) O EX ⟨O,⟨r9,ac⟩,J⟩
def KZ (j:St S L h) {a:Int}(c:AA a) {b:Int}(d:AA b) {r:Int}(E:HR N a b=some r):
 CJ prog 187 #[vI a,vI b] S h (λv S' h'=>v=vI r∧AA r∧St S' (L) h'):=by
 refine CJ.go 24 func187 O ntmps187 O λB=>?_;rw[HR] at E;refine AU ?_;refine AH O E (λg E=>?_) (λg E=>?_)
 ·exact RT
 refine AU ?_;refine AH O E (λi E=>?_) (λi E=>?_)
 ·exact RT
 exact RT
def Tg (hs:St S L h) {b:Value}{j:A8}(d:Rd S h B8 b j) {c:Value}{a:A0}(g:Rd S h BQ c a) {r:A0}(E:II N j a=some r):
 CJ prog 116 #[b,c] S h (λv S' h'=>v= .agg #[vI r.Z,vI r.Aa,.bool r.Ax,.bool r.Am]∧A0.ok r∧St S' (L) h'):=by
 refine CJ.go 26 func116 O ntmps116 O λB=>?_;rw[II] at E;refine AU ?_;refine Cn O d CE O hs λq1 S2 h3 M e5 k6=>?_;have k7:=g.mono e5;obtain⟨rfl,⟨Q,q⟩⟩:=BQ.ex k7;refine NC O O O M λan ao s ap=>Dp SD O s λaq ar k au=>AU ?_;refine AH O E (λU E=>?_) (λU E=>?_)
 ·refine AU ?_;refine Eh O O O O Ip.1 O k .head O λav t aw=>AU ?_;refine CI (λaa ww u w=>?_);have l:=t.drop (.tail .head);have x:=l.drop .head;cases E;exact Kv u O w (Io (Wm u w l O mh Ip.1 O) Ku) O EX ⟨O,⟨Q,q⟩,x⟩
 refine AU ?_;refine CW (.inr ⟨mo,by kernel_rfl⟩) k (AU ?_);refine DF E O O O TA O (λV y h' o=>KZ (St.all h') q Q y) λV E W=>?_;have X:=W;have z:=k6.nw;have Y:=z.fl Ke;have ab:=Y.i;refine AU ?_;refine DF E O O O TA O (λac A h' o=>KZ (St.all h') (iq (n:=0) O) ab A) λac E ad=>?_;have ae:=ad;have af:=z.fl Ke;have ag:=af.i;refine AU ?_;refine DF E O O O WH O (λah C h' o=>Jo (St.all h') X ae ag C) λah E ai=>?_;have aj:=ai;refine AU ?_;refine BW (kp [5,4,3] O) λax D ay=>AU ?_;refine DK (AU ?_);refine DN E O O O WG O D (λF G=>Ka (St.all _) Q aj G) λF E az a0 a1 H a2 a3 p=>?_;obtain⟨rfl,ak,am⟩:=p;refine AU ?_;refine GN (cs':=[vI F,vI a.Aa,.bool a.Ax,.bool a.Am]) O O O O FE.1 O H (.tail .head) O O λa4 I a5=>AU ?_;refine Eh O O O O Ip.1 O I .head O λa6 J a7=>AU ?_;refine CI (λaa ww u w=>?_);have m:=J.drop (.tail .head);have K:=m.drop .head;cases E;exact Kv u O w (Io (Wm u w m O mh Ip.1 O) Ku) O EX ⟨O,⟨ak,q⟩,K⟩
def PO {y:Nat}{p0_w:AK}{W:Value}{X:Value}{V:Value}{Y:Value}{Z:Value}{ab:Value}{ac:Value}{ad:Value}{z:Value}{t:Value}{u:Value}{F:Value}{M:Value}{c:Value}{d:Value}{Q:Value}{q:Value}{g:Value}{j:Value}{k:Value}{m:Value}{p:Value}(hs:St S (Bx y 112 [.string p0_w.b.D,W,vI p0_w.b.J,X,V,Y,Z,ab,ac,ad,vI p0_w.b.K,z,t,u,F,M,vI p0_w.s.B,c,d,Q,q,g,j,k,m,p]::OO AB 3 29 c p0_w.s.G::OS AB 3 d p0_w.s.N::OS BQ 107 q p0_w.s.R::OS AB 3 g p0_w.s.L::OS AB 3 j p0_w.s.O::OS B7 116 k p0_w.moves::OS AB 3 m p0_w.peaks::OS AX 103 p p0_w.sent::L) h) (b6:p0_w.b.D.size≤maxLen) (b7:Sl S h A5.str W p0_w.b.H) (b8:AA p0_w.b.J) (b9:Sl S h BY X p0_w.b.A) (ae:Sl S h B8 V p0_w.b.C) (ca:Sl S h G7 Y p0_w.b.Af) (cb:Sl S h Eg Z p0_w.b.Ah) (cc:Sl S h Gr ab p0_w.b.Ai) (cd:Sl S h DM ac p0_w.b.Ak) (ce:Sl S h AB ad p0_w.b.Aj) (a4:AA p0_w.b.K) (a5:Sl S h AB z p0_w.in_.T) (ak:Sl S h Cm t p0_w.in_.Ab) (am:Sl S h FD u p0_w.in_.Ac) (a6:Sl S h DE F p0_w.in_.U) (a7:Sl S h Da M p0_w.in_.Ae) (a8:AA p0_w.s.B) (a9:Sl S h AX Q p0_w.s.I) {r:(List A0)}(E:G9 N p0_w=some r):
 CJ prog 58 #[vP y 0] S h (λv S' h'=>∃ap:Value,v= .tuple #[]∧St S' (Bx y 112 [.string p0_w.b.D,W,vI p0_w.b.J,X,V,Y,Z,ab,ac,ad,vI p0_w.b.K,z,t,u,F,M,vI p0_w.s.B,c,d,Q,ap,g,j,k,m,p]::OO AB 3 29 c p0_w.s.G::OS AB 3 d p0_w.s.N::OS BQ 107 ap r::OS AB 3 g p0_w.s.L::OS AB 3 j p0_w.s.O::OS B7 116 k p0_w.moves::OS AB 3 m p0_w.peaks::OS AX 103 p p0_w.sent::L) h'):=by
 refine CJ.go 135 func58 O ntmps58 O λB=>?_;rw[G9] at E;refine AU ?_;refine AS (λa w=>∃(l2:List A0),IV B S h (135,[]) a w [(0,vP y 0)] (Bx y 112 [.string p0_w.b.D,W,vI p0_w.b.J,X,V,Y,Z,ab,ac,ad,vI p0_w.b.K,z,t,u,F,M,vI p0_w.s.B,c,d,Q,q,g,j,k,m,p]::OO AB 3 29 c p0_w.s.G::OS AB 3 d p0_w.s.N::OS BQ 107 q l2::OS AB 3 g p0_w.s.L::OS AB 3 j p0_w.s.O::OS B7 116 k p0_w.moves::OS AB 3 m p0_w.peaks::OS AX 103 p p0_w.sent::L) λ_ _=>DV N p0_w l2=some r) ?_ ?_
 ·refine A6 (λn1=>λa w=>∃(i6:Int) (l8:List A0),IV B S h (135,[]) a w [(13,vI (↑p0_w.in_.Ab.length:Int)),(12,t),(0,vP y 0),(14,vI i6)] (Bx y 112 [.string p0_w.b.D,W,vI p0_w.b.J,X,V,Y,Z,ab,ac,ad,vI p0_w.b.K,z,t,u,F,M,vI p0_w.s.B,c,d,Q,q,g,j,k,m,p]::OO AB 3 29 c p0_w.s.G::OS AB 3 d p0_w.s.N::OS BQ 107 q l8::OS AB 3 g p0_w.s.L::OS AB 3 j p0_w.s.O::OS B7 116 k p0_w.moves::OS AB 3 m p0_w.peaks::OS AX 103 p p0_w.sent::L) λ_ _=>AA i6∧C0 N p0_w (DV N p0_w) n1 i6 l8=some r) N ?_ ?_ ?_
  ·intro aa ww hf hw;exact⟨0,p0_w.s.R,_,_,hf.sub (kp [13,12,0,14] O),hw,hs,(BF.refl S h),(iq (n:=0) O),E⟩
  ·rintro aa ww ⟨_,_,_,_,_,_,_,_,_,E⟩;rw[C0] at E;cases E
  rintro n1 aa ww ⟨i6,l8,S9,dw,hf,hw,ay,cf,r7,E⟩;refine AL ?_ hf hw;clear hf hw ww aa;rw[C0] at E;refine AU ?_;refine AH O E (λdx E=>?_) (λdx E=>?_)
  ·refine AU ?_;refine AS (λa w=>∃(av:List A0),IV B S9 dw (135,[]) a w [(13,vI (↑p0_w.in_.Ab.length:Int)),(12,t),(0,vP y 0),(14,vI i6)] (Bx y 112 [.string p0_w.b.D,W,vI p0_w.b.J,X,V,Y,Z,ab,ac,ad,vI p0_w.b.K,z,t,u,F,M,vI p0_w.s.B,c,d,Q,q,g,j,k,m,p]::OO AB 3 29 c p0_w.s.G::OS AB 3 d p0_w.s.N::OS BQ 107 q av::OS AB 3 g p0_w.s.L::OS AB 3 j p0_w.s.O::OS B7 116 k p0_w.moves::OS AB 3 m p0_w.peaks::OS AX 103 p p0_w.sent::L) λ_ _=>Gx N i6 (C0 N p0_w (DV N p0_w) n1) av=some r) ?_ ?_
   ·refine AU ?_;have dy:=ak.mono' cf;refine BH E O O dy aW.1 O λcg E gl dz=>?_;obtain⟨gm,_,d0⟩:=dz.lv;refine AU ?_;refine Dp nD O ay λgn gp ch d1=>?_;have d2:=d0.mono d1;obtain⟨rfl,⟨d3,d4⟩⟩:=Cm.ex d2;refine Eh O O O O nT.1 O ch .head O λgq ci gr=>AU ?_;refine CW (.inr ⟨mo,by kernel_rfl⟩) ci ?_;have d5:=ae.nw;have d6:=d5.le;refine AU ?_;refine BA E O O O Oi O (λd7 cj h' o=>Hk (St.all h') d4 (K4 d6) cj) λd7 E=>BW (kp [26,3,13,12,0,14] O) λgs ah gu=>AH O E (λd8 E=>?_) (λd8 E=>?_)
    ·refine Ns 29 mo (by kernel_rfl) O ah (AU ?_);have d9:=ae.nw;refine BH E O O d9 N2.1 O λgv E gw ea=>?_;obtain⟨gx,_,eb⟩:=ea.lv;refine AU ?_;obtain⟨gy,ck,E⟩:=bd E;refine BS ah (mt (mt (mt (mt mh)))) O O Pb.1 ck O λgz cl=>?_;obtain⟨g0,cm,E⟩:=bd E;have ec:=ah.epAt (mt (mt (mt (mt mh)))) cm Fd.id cl;refine LD PT (λ_ x=>x) O ec Ip.1 CE O λg1 ed=>AU ?_;refine DF E O O O rZ O (λba cn h' o=>Ss (St.all h') (eb.mono (o.all ah.1)) (ed.mono (o.all ah.1)) d3 cn) λba E ee=>?_;obtain⟨ef,eg⟩:=ee;obtain⟨g2,co,E⟩:=bd E;refine BS ah (mt (mt (mt (mt mh)))) O O Pb.1 co O λg3 cp=>MT λg4 cq g5=>?_;obtain⟨eh,cr,E⟩:=bd E;refine EM (r:=BQ) (l:=l8) (i:=cg.Ar) (x:=eh) O O (BQ.mk (x:=ba) ⟨ef,eg⟩) cp cr L7.id Ip.1 CE cq (.tail (.tail (.tail (.tail .head)))) λg6 cs g7=>AU ?_;refine WF.nil (λaa ww hf hw=>?_);have ct:=cs.sel [1,1,1,1,1,1,1,1,1] 1 O;exact⟨(upd l8 cg.Ar ba),_,_,hf.sub (kp [13,12,0,14] O),hw,ct,EX,E⟩
    refine AU ?_;refine WF.nil (λaa ww hf hw=>?_);have cu:=ah.sel [1,1,1,1,1,1,1,1,1] 1 O;exact⟨l8,_,_,hf.sub (kp [13,12,0,14] O),hw,cu,EX,E⟩
   rintro aa ww ⟨av,g8,g9,hf,hw,cv,ha,E⟩;refine AL ?_ hf hw;clear hf hw ww aa;rw[Gx] at E;refine AU ?_;refine WF.nil (λaa ww hf hw=>?_);exact⟨(BO (i6+1)),av,_,_,hf.sub (kp [13,12,0,14] O),hw,cv,EX,(BT _),E⟩
  refine BL O (λaa ww hf hw=>?_);exact⟨l8,_,_,hf.sub (kp [0] O),hw,ay,cf,E⟩
 rintro aa ww ⟨l2,bb,bc,hf,hw,cw,ei,E⟩;refine AL ?_ hf hw;clear hf hw ww aa;rw[DV] at E;have ej:=am.mono' ei;refine AU ?_;refine AS (λa w=>∃(aw:List A0),IV B bb bc (135,[]) a w [(0,vP y 0)] (Bx y 112 [.string p0_w.b.D,W,vI p0_w.b.J,X,V,Y,Z,ab,ac,ad,vI p0_w.b.K,z,t,u,F,M,vI p0_w.s.B,c,d,Q,q,g,j,k,m,p]::OO AB 3 29 c p0_w.s.G::OS AB 3 d p0_w.s.N::OS BQ 107 q aw::OS AB 3 g p0_w.s.L::OS AB 3 j p0_w.s.O::OS B7 116 k p0_w.moves::OS AB 3 m p0_w.peaks::OS AX 103 p p0_w.sent::L) λ_ _=>DU N p0_w aw=some r) ?_ ?_
 ·refine A6 (λn4=>λa w=>∃(an:Int) (ao:List A0),IV B bb bc (135,[]) a w [(62,vI (↑p0_w.in_.Ac.length:Int)),(61,u),(0,vP y 0),(63,vI an)] (Bx y 112 [.string p0_w.b.D,W,vI p0_w.b.J,X,V,Y,Z,ab,ac,ad,vI p0_w.b.K,z,t,u,F,M,vI p0_w.s.B,c,d,Q,q,g,j,k,m,p]::OO AB 3 29 c p0_w.s.G::OS AB 3 d p0_w.s.N::OS BQ 107 q ao::OS AB 3 g p0_w.s.L::OS AB 3 j p0_w.s.O::OS B7 116 k p0_w.moves::OS AB 3 m p0_w.peaks::OS AX 103 p p0_w.sent::L) λ_ _=>AA an∧Cz N p0_w (DU N p0_w) n4 an ao=some r) N ?_ ?_ ?_
  ·intro aa ww hf hw;exact⟨0,l2,_,_,hf.sub (kp [62,61,0,63] O),hw,cw,(BF.refl bb bc),(iq (n:=0) O),E⟩
  ·rintro aa ww ⟨_,_,_,_,_,_,_,_,_,E⟩;rw[Cz] at E;cases E
  rintro n4 aa ww ⟨an,ao,ek,el,hf,hw,az,cx,hb,E⟩;refine AL ?_ hf hw;clear hf hw ww aa;rw[Cz] at E;refine AU ?_;refine AH O E (λem E=>?_) (λem E=>?_)
  ·refine AU ?_;refine AS (λa w=>∃(ax:List A0),IV B ek el (135,[]) a w [(62,vI (↑p0_w.in_.Ac.length:Int)),(61,u),(0,vP y 0),(63,vI an)] (Bx y 112 [.string p0_w.b.D,W,vI p0_w.b.J,X,V,Y,Z,ab,ac,ad,vI p0_w.b.K,z,t,u,F,M,vI p0_w.s.B,c,d,Q,q,g,j,k,m,p]::OO AB 3 29 c p0_w.s.G::OS AB 3 d p0_w.s.N::OS BQ 107 q ax::OS AB 3 g p0_w.s.L::OS AB 3 j p0_w.s.O::OS B7 116 k p0_w.moves::OS AB 3 m p0_w.peaks::OS AX 103 p p0_w.sent::L) λ_ _=>Gw N an (Cz N p0_w (DU N p0_w) n4) ax=some r) ?_ ?_
   ·refine AU ?_;have en:=ej.mono' cx;refine BH E O O en aV.1 O λcy E hc eo=>?_;obtain⟨ep,_,cz⟩:=eo.lv;refine AU ?_;refine Dp nC O az λeq er be c0=>?_;have c1:=cz.mono c0;obtain⟨rfl,⟨c2,c3⟩⟩:=FD.ex c1;refine Eh O O O O nS.1 O be .head O λes bf eu=>AU ?_;refine CW (.inr ⟨mo,by kernel_rfl⟩) bf ?_;have c4:=ae.nw;have c5:=c4.le;refine AU ?_;refine BA E O O O Oi O (λc6 bg h' o=>Hk (St.all h') c2 (K4 c5) bg) λc6 E=>BW (kp [75,5,62,61,0,63] O) λev af ew=>AH O E (λc7 E=>?_) (λc7 E=>?_)
    ·refine Ns 29 mo (by kernel_rfl) O af (AU ?_);have c8:=ae.nw;refine BH E O O c8 N2.1 O λey E ez c9=>?_;obtain⟨e0,_,da⟩:=c9.lv;refine AU ?_;obtain⟨e1,bh,E⟩:=bd E;refine BS af (mt (mt (mt (mt mh)))) O O Pb.1 bh O λe2 bi=>?_;obtain⟨e3,bj,E⟩:=bd E;have db:=af.epAt (mt (mt (mt (mt mh)))) bj Fd.id bi;refine LD PT (λ_ x=>x) O db Ip.1 CE O λe4 dc=>AU ?_;refine DF E O O O rY O (λar bk h' o=>Ui (St.all h') (da.mono (o.all af.1)) (dc.mono (o.all af.1)) c3 bk) λar E dd=>?_;obtain⟨de,df⟩:=dd;obtain⟨e5,bl,E⟩:=bd E;refine BS af (mt (mt (mt (mt mh)))) O O Pb.1 bl O λe6 bm=>MT λe7 bn e8=>?_;obtain⟨dg,bo,E⟩:=bd E;refine EM (r:=BQ) (l:=ao) (i:=cy.Ar) (x:=dg) O O (BQ.mk (x:=ar) ⟨de,df⟩) bm bo L7.id Ip.1 CE bn (.tail (.tail (.tail (.tail .head)))) λe9 bp fa=>AU ?_;refine WF.nil (λaa ww hf hw=>?_);have bq:=bp.sel [1,1,1,1,1,1,1,1,1] 1 O;exact⟨(upd ao cy.Ar ar),_,_,hf.sub (kp [62,61,0,63] O),hw,bq,EX,E⟩
    refine AU ?_;refine WF.nil (λaa ww hf hw=>?_);have br:=af.sel [1,1,1,1,1,1,1,1,1] 1 O;exact⟨ao,_,_,hf.sub (kp [62,61,0,63] O),hw,br,EX,E⟩
   rintro aa ww ⟨ax,fb,fc,hf,hw,bs,fd,E⟩;refine AL ?_ hf hw;clear hf hw ww aa;rw[Gw] at E;refine AU ?_;refine WF.nil (λaa ww hf hw=>?_);exact⟨(BO (an+1)),ax,_,_,hf.sub (kp [62,61,0,63] O),hw,bs,EX,(BT _),E⟩
  refine BL O (λaa ww hf hw=>?_);exact⟨ao,_,_,hf.sub (kp [0] O),hw,az,cx,E⟩
 rintro aa ww ⟨aw,a0,a1,hf,hw,bt,fe,E⟩;refine AL ?_ hf hw;clear hf hw ww aa;rw[DU] at E;have dh:=ae.nw;refine AU ?_;refine A4 (A6 (λn6=>λa w=>∃(ai:Int) (aj:List A0),IV B a0 a1 (135,[]) a w [(111,vI (↑p0_w.b.C.length:Int)),(110,V),(0,vP y 0),(112,vI ai)] (Bx y 112 [.string p0_w.b.D,W,vI p0_w.b.J,X,V,Y,Z,ab,ac,ad,vI p0_w.b.K,z,t,u,F,M,vI p0_w.s.B,c,d,Q,q,g,j,k,m,p]::OO AB 3 29 c p0_w.s.G::OS AB 3 d p0_w.s.N::OS BQ 107 q aj::OS AB 3 g p0_w.s.L::OS AB 3 j p0_w.s.O::OS B7 116 k p0_w.moves::OS AB 3 m p0_w.peaks::OS AX 103 p p0_w.sent::L) λ_ _=>AA ai∧Dm N p0_w n6 ai aj=some r) N ?_ ?_ ?_)
 ·intro aa ww hf hw;exact⟨0,aw,_,_,hf.sub (kp [111,110,0,112] O),hw,bt,(BF.refl a0 a1),(iq (n:=0) O),E⟩
 ·rintro aa ww ⟨_,_,_,_,_,_,_,_,_,E⟩;rw[Dm] at E;cases E
 rintro n6 aa ww ⟨ai,aj,ff,fg,hf,hw,au,di,fh,E⟩;refine AL ?_ hf hw;clear hf hw ww aa;rw[Dm] at E;refine AU ?_;refine AH O E (λdj E=>?_) (λdj E=>?_)
 ·refine AU ?_;refine A4 (AU ?_);have dk:=dh.mono' di;refine BH E O O dk N2.1 O λfi E fj dl=>?_;obtain⟨fk,_,dm⟩:=dl.lv;refine AU ?_;refine Dp OI O au λfl fm bu dn=>AU ?_;have a2:=dm.mono dn;obtain⟨fn,fo,fp,rfl,fq,fr,fs,ft,fu,fv,fw,fx,fy,fz,f0,f1,f2,f3,f4,f5,f6,f7⟩:=B8.ex a2;refine JZ O O O ON OM.1 O bu .head O λf8 ag dp=>AU ?_;refine Ns 17 mo (by kernel_rfl) O ag (AU ?_);obtain⟨f9,bv,E⟩:=bd E;refine BS ag (mt (mt (mt (mt mh)))) O O Pb.1 bv O λga bw=>?_;obtain⟨gb,bx,E⟩:=bd E;have dq:=ag.epAt (mt (mt (mt (mt mh)))) bx Fd.id bw;refine LD PT (λ_ x=>x) O dq Ip.1 CE O λgc dr=>?_;have aq:=a2.mono dp;obtain⟨a3,bz,E⟩:=bd E;refine TJ O O O rX O (λh' o=>Tg (St.all h') (aq.mono (o.all ag.1)) (dr.mono (o.all ag.1)) bz) λds=>?_;obtain⟨dt,du⟩:=ds;obtain⟨ge,b0,E⟩:=bd E;refine BS ag (mt (mt (mt (mt mh)))) O O Pb.1 b0 O λgf b1=>MT λgg b2 gh=>?_;obtain⟨dv,b3,E⟩:=bd E;refine EM (r:=BQ) (l:=aj) (i:=ai) (x:=dv) O O (BQ.mk (x:=a3) ⟨dt,du⟩) b1 b3 L7.id Ip.1 CE b2 (.tail (.tail (.tail (.tail .head)))) λgi b4 gj=>AU ?_;refine BK (AU ?_);refine WF.nil (λaa ww hf hw=>?_);have b5:=b4.sel [1,1,1,1,1,1,1,1,1] 1 O;exact⟨(BO (ai+1)),(upd aj ai a3),_,_,hf.sub (kp [111,110,0,112] O),hw,b5,EX,(BT _),E⟩
 refine JB O (WF.nil (λaa ww hf hw=>?_));cases E;exact Kv hf O hw Ku O EX ⟨_,O,au⟩
def QQ (s:St S L h) {c:Value}{g:(List Int)}(d:Sl S h AB c g) {a:Int}(j:AA a) {r:Int}(E:Kl N g a=some r):
 CJ prog 188 #[c,vI a] S h (λv S' h'=>v=vI r∧AA r∧St S' (L) h'):=by
 refine CJ.go 24 func188 O ntmps188 O λB=>?_;rw[Kl] at E;refine AU ?_;obtain⟨m,b,E⟩:=bd E;refine AY 6 19 (.bool m) ?_ ?_
 ·cases l:((decide (a<0))||(decide ((↑g.length:Int)≤a)))
  ·have b:=HM l b;refine AU ?_;refine BH b O O d CQ.1 O λt b u w=>AU ?_;cases b;exact AZ O
  have b:=HL l b;cases b;exact BE O O
 refine AU ?_;refine AH O E (λn E=>?_) (λn E=>?_)
 ·exact RT
 refine AU ?_;refine BH E O O d CQ.1 O λo E p k=>?_;have q:=k.i;exact RT
def TZ (hs:St S L h) {n:Value}{c:(List Int)}(j:Sl S h AB n c) {b:Int}(m:AA b) {d:Int}(F:AA d) {g:Int}(s:AA g) {r:(List Int)}(E:Lx N c b d g=some r):
 CJ prog 117 #[n,vI b,vI d,vI g] S h (λv S' h'=>St S' (OS AB 3 v r::L) h'):=by
 refine CJ.go 56 func117 O ntmps117 O λB=>?_;rw[Lx] at E;refine AU ?_;obtain⟨ag,E⟩:=LX E;refine LE (r:=AB) (zx:=0) H5 O ⟨O,by unfold AA;omega⟩ O O ag O O hs λv3 h4 ah e6=>AU ?_;have k7:=j.mono' e6;refine VA (r:=AB) (l:=(List.replicate ((↑c.length:Int):Int).toNat (0:Int))) (xs:=c) O O CQ.1 (Sl.src k7) O ah .head λh8 G av=>AU ?_;refine CW (.inl O) G (AU ?_);have ai:=j.nw;refine DF E O O O eF O (λt H h' o=>QQ (St.all h') (ai.mono' (o.all G.1)) m H) λt E aj=>?_;have ak:=aj;refine XC O O O (AU ?_);refine BW (kp [10,9,0,1,2] O) λI k aw=>?_;have ax:=j.nw;refine AU ?_;refine IC (λa w=>∃(y:List Int),IV B S I (56,[]) a w [(9,v3)] (OS AB 3 v3 y::L) λ_ _=>K6 N y=some r) ?_ ?_
 ·refine AH O E (λal E=>?_) (λal E=>?_)
  ·refine AU ?_;obtain⟨ay,J,E⟩:=bd E;refine BS k mh O O CQ.1 J O λaz K=>?_;obtain⟨z,M,E⟩:=bd E;have am:=k.epAt mh M Fd.id K;refine Ez Hi (λ_ x=>x) O am FE.1 O λa0=>AU ?_;obtain⟨a1,Q,E⟩:=bd E;refine BS k mh O O CQ.1 Q O λa2 U=>AU ?_;obtain⟨an,V,E⟩:=bd E;refine EM (r:=AB) (l:=(PI (List.replicate ((↑c.length:Int):Int).toNat (0:Int)) c)) (i:=b) (x:=an) O O (⟨_,O,O,(BT _)⟩:Rd _ _ AB _ (BO (z-(min g t)))) U V L7.id FE.1 (λ_=>rfl) k .head λa3 q a4=>AU ?_;refine DK (AU ?_);obtain⟨a5,W,E⟩:=bd E;refine BS q mh O O CQ.1 W O λa6 X=>?_;obtain⟨a7,Y,E⟩:=bd E;have ao:=q.epAt mh Y Fd.id X;refine Ez Hi (λ_ x=>x) O ao FE.1 O λap=>AU ?_;refine DN E O O O WG O q (λA Z=>Ka (St.all _) ap (NW s ak) Z) λA E a8 a9 ba u bb bc p=>?_;obtain⟨rfl,aq,au⟩:=p;refine AU ?_;obtain⟨be,ab,E⟩:=bd E;refine BS u mh O O CQ.1 ab O λbf ac=>AU ?_;obtain⟨ar,ad,E⟩:=bd E;refine EM (r:=AB) (l:=(upd (PI (List.replicate ((↑c.length:Int):Int).toNat (0:Int)) c) b (BO (z-(min g t))))) (i:=d) (x:=ar) O O (⟨_,O,O,aq⟩:Rd _ _ AB _ A) ac ad L7.id FE.1 (λ_=>rfl) u .head λbg ae bh=>AU ?_;refine WF.nil (λaa ww C D=>?_);exact⟨(upd (upd (PI (List.replicate ((↑c.length:Int):Int).toNat (0:Int)) c) b (BO (z-(min g t)))) d A),_,_,C.sub (kp [9] O),D,ae,EX,E⟩
  refine AU ?_;refine WF.nil (λaa ww C D=>?_);exact⟨(PI (List.replicate ((↑c.length:Int):Int).toNat (0:Int)) c),_,_,C.sub (kp [9] O),D,k,(BF.refl S I),E⟩
 rintro aa ww ⟨y,bi,bj,C,D,af,bk,E⟩;refine AL ?_ C D;clear C D ww aa;rw[K6] at E;refine AU ?_;cases E;exact Fp af O O EX
end Go.Proofs.YtabonambpbofgaaGreat
