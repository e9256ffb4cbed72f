import Derived.Test.YtabonambpbofgaaGreatKInst
import Derived.Test.YtabonambpbofgaaGreatKForms
import Derived.Test.YtabonambpbofgaaGreatKSort5
import Derived.Test.YtabonambpbofgaaGreatKSortD
import Derived.Test.YtabonambpbofgaaGreatKWalk1
import Derived.Test.YtabonambpbofgaaGreatKWalk3
import Derived.Test.YtabonambpbofgaaGreatKWalk4
namespace Go.Proofs.YtabonambpbofgaaGreat
set_option linter.all false
open Go.RowKit
open Go.Proofs.Tryz
set_option maxRecDepth 10000
set_option maxHeartbeats 20000000
variable {N:Nat}{S:Nat→Prop}{L:List HP}{h:AS}
def PE (hs:St S L h) {q:Value}{b:AF}(u:Rd S h B5 q b) {r:Bool}(E:Iu N b=some r):
 CM prog 80 #[q] S h (λv S' h'=>v= .bool r∧St S' (L) h'):=by
 refine CM.go 64 func80 O ntmps80 O λB=>?_;rw[Iu] at E;refine AU ?_;refine Cg O u CE O hs λq1 S2 h3 ax e5 k6=>?_;have k8:=k6.fl KP;obtain⟨v9,_,ay⟩:=k8.ll;refine AU ?_;refine AQ (λa w=>IV B S2 h3 (64,[]) a w [(1,q1)] (L) λ_ _=>Eo N b=some r) ?_ ?_
 ·refine A8 (λn1=>λa w=>∃(s:Int),IV B S2 h3 (64,[]) a w [(9,vI (↑b.Af.length:Int)),(8,v9),(1,q1),(10,vI s)] (L) λ_ _=>AA s∧En N b (Eo N b) n1 s=some r) N ?_ ?_ ?_
  ·intro m p k l;exact⟨0,_,_,k.sub (kp [9,8,1,10] O),l,ax,(C2.refl S2 h3),(iq (n:=0) O),E⟩
  ·rintro m p ⟨_,_,_,_,_,_,_,_,E⟩;rw[En] at E;cases E
  rintro n1 m p ⟨s,b9,ca,k,l,x,I,cb,E⟩;refine AK ?_ k l;clear k l p m;rw[En] at E;refine AU ?_;refine AH O E (λaz E=>?_) (λaz E=>?_)
  ·refine AU ?_;refine A5 (AU ?_);have a0:=ay.mono' I;refine BI E O O a0 bV.1 O λcc E cd a1=>?_;obtain⟨ce,_,a2⟩:=a1.lv;refine AU ?_;refine D0 Z4 O x λcf cg J a3=>?_;have a4:=a2.mono a3;obtain⟨rfl,⟨ch,a5,a6,a7,a8,a9,ba⟩⟩:=HN.ex a4;refine FL O O O O aT.1 O J .head O λci K cj=>AU ?_;refine CV (.inl O) K ?_;have bb:=k6.nw;have bc:=bb.fl Cv;obtain⟨ck,_,be⟩:=bc.ll;have bf:=be.le;refine AU ?_;refine BC E O O O QL O (λM Q h' o=>IF (St.all h') a5 (Lj bf) Q) λM E=>AU ?_;obtain⟨U,c,E⟩:=bd E;refine AY 5 26 (.bool U) ?_ ?_
   ·cases V:(!M)
    ·have c:=HV V c;refine AU ?_;refine BC c O O O J7 O (λbg W h' o=>C1 (St.all h') a6 W) λbg c=>AU ?_;cases c;exact AZ O
    have c:=HU V c;cases c;exact BE O O
   refine AU ?_;obtain⟨X,d,E⟩:=bd E;refine AY 5 32 (.bool X) ?_ ?_
   ·cases Y:U
    ·have d:=HV Y d;refine AU ?_;refine BC d O O O Hu O (λbh Z h' o=>Co (St.all h') a7 (iq (n:=0) O) (iq (n:=24) O) Z) λbh d=>AU ?_;cases d;exact AZ O
    have d:=HU Y d;cases d;exact BE O O
   refine AU ?_;obtain⟨ab,g,E⟩:=bd E;refine AY 5 38 (.bool ab) ?_ ?_
   ·cases ac:X
    ·have g:=HV ac g;refine AU ?_;refine BC g O O O Hu O (λbi ad h' o=>Co (St.all h') a8 (iq (n:=0) O) (iq (n:=1073741824) O) ad) λbi g=>AU ?_;cases g;exact AZ O
    have g:=HU ac g;cases g;exact BE O O
   refine AU ?_;obtain⟨ae,i,E⟩:=bd E;refine AY 5 44 (.bool ae) ?_ ?_
   ·cases af:ab
    ·have i:=HV af i;refine AU ?_;refine BC i O O O J7 O (λbj ag h' o=>C1 (St.all h') a9 ag) λbj i=>AU ?_;cases i;exact AZ O
    have i:=HU af i;cases i;exact BE O O
   refine AU ?_;obtain⟨bk,j,E⟩:=bd E;refine AY 5 50 (.bool bk) ?_ ?_
   ·cases ah:ae
    ·have j:=HV ah j;refine AU ?_;refine BC j O O O Hu O (λbl ai h' o=>Co (St.all h') ba (iq (n:=0) O) (iq (n:=128) O) ai) λbl j=>AU ?_;cases j;exact AZ O
    have j:=HU ah j;cases j;exact BE O O
   refine BZ (kp [50,9,8,1,10] O) λcl aj cm=>AH O E (λbm E=>?_) (λbm E=>?_)
   ·exact RT
   refine AU ?_;refine BJ (AU ?_);refine WF.nil (λm p k l=>?_);have ak:=aj.drop .head;exact⟨(BQ (s+1)),_,_,k.sub (kp [9,8,1,10] O),l,ak,EX,(BW _),E⟩
  refine BL O (λm p k l=>?_);exact⟨_,_,k.sub (kp [1] O),l,x,I,E⟩
 rintro m p ⟨z,A,k,l,am,bn,E⟩;refine AK ?_ k l;clear k l p m;rw[Eo] at E;have bo:=k6.mono bn;have bp:=bo.fl KC;obtain⟨bq,_,br⟩:=bp.ll;refine AU ?_;refine AQ (λa w=>IV B z A (64,[]) a w [] (L) λ_ _=>Gn N=some r) ?_ ?_
 ·refine A8 (λn3=>λa w=>∃(t:Int),IV B z A (64,[]) a w [(54,vI (↑b.Ak.length:Int)),(53,bq),(55,vI t)] (L) λ_ _=>AA t∧Em N b (Gn N) n3 t=some r) N ?_ ?_ ?_
  ·intro m p k l;exact⟨0,_,_,k.sub (kp [54,53,55] O),l,am,(C2.refl z A),(iq (n:=0) O),E⟩
  ·rintro m p ⟨_,_,_,_,_,_,_,_,E⟩;rw[Em] at E;cases E
  rintro n3 m p ⟨t,cn,co,k,l,y,an,cp,E⟩;refine AK ?_ k l;clear k l p m;rw[Em] at E;refine AU ?_;refine AH O E (λbs E=>?_) (λbs E=>?_)
  ·refine AU ?_;refine A5 (AU ?_);have bt:=br.mono' an;refine BI E O O bt bS.1 O λbv E bw ao=>?_;obtain⟨bx,_,ap⟩:=ao.lv;refine AU ?_;refine D0 Z1 O y λbz b0 C aq=>?_;have ar:=ap.mono aq;obtain⟨rfl,⟨b1,au⟩⟩:=Dc.ex ar;refine FL O O O O aQ.1 O C .head O λb2 D b3=>AU ?_;refine CV (.inl O) D (AU ?_);refine BC E O O O Hu O (λav F h' o=>Co (St.all h') au (iq (n:=0) O) (iq (n:=1073741824) O) F) λav E=>AU ?_;refine BZ (kp [62,54,53,55] O) λb4 G b5=>AH O E (λaw E=>?_) (λaw E=>?_)
   ·exact RT
   refine AU ?_;refine BJ (AU ?_);refine WF.nil (λm p k l=>?_);have H:=G.drop .head;exact⟨(BQ (t+1)),_,_,k.sub (kp [54,53,55] O),l,H,EX,(BW _),E⟩
  refine BL O (λm p k l=>?_);exact⟨_,_,k.sub Ri,l,y,an,E⟩
 rintro m p ⟨b6,b7,k,l,bu,b8,E⟩;refine AK ?_ k l;clear k l p m;rw[Gn] at E;exact RT
def Oe (hs:St S L h) {g:Value}{b:AF}(s:Rd S h B5 g b) {r:Bool}(E:IM N b=some r):
 CM prog 81 #[g] S h (λv S' h'=>v= .bool r∧St S' (L) h'):=by
 refine CM.go 47 func81 O ntmps81 O λB=>?_;rw[IM] at E;refine AU ?_;refine Cg O s CE O hs λq1 S2 h3 ae e5 k6=>?_;have k8:=k6.fl Kw;obtain⟨v9,_,af⟩:=k8.ll;refine AU ?_;refine AQ (λa w=>IV B S2 h3 (47,[]) a w [] (L) λ_ _=>GT N=some r) ?_ ?_
 ·refine A8 (λn1=>λa w=>∃(j:Int),IV B S2 h3 (47,[]) a w [(8,vI (↑b.Ah.length:Int)),(7,v9),(1,q1),(9,vI j)] (L) λ_ _=>AA j∧Ea N b (GT N) n1 j=some r) N ?_ ?_ ?_
  ·intro x y k m;exact⟨0,_,_,k.sub (kp [8,7,1,9] O),m,ae,(C2.refl S2 h3),(iq (n:=0) O),E⟩
  ·rintro x y ⟨_,_,_,_,_,_,_,_,E⟩;rw[Ea] at E;cases E
  rintro n1 x y ⟨j,ba,bb,k,m,t,F,bc,E⟩;refine AK ?_ k m;clear k m y x;rw[Ea] at E;refine AU ?_;refine AH O E (λag E=>?_) (λag E=>?_)
  ·refine AU ?_;refine A5 (AU ?_);have ah:=af.mono' F;refine BI E O O ah bU.1 O λbe E bf ai=>?_;obtain⟨bg,_,aj⟩:=ai.lv;refine AU ?_;refine D0 Z3 O t λbh bi G ak=>?_;have am:=aj.mono ak;obtain⟨rfl,⟨bj,an,ao,ap,aq⟩⟩:=Ex.ex am;refine FL O O O O aS.1 O G .head O λbk H bl=>AU ?_;refine CV (.inl O) H (AU ?_);refine BC E O O O Hu O (λI K h' o=>Co (St.all h') an (iq (n:=0) O) (iq (n:=2) O) K) λI E=>AU ?_;obtain⟨M,c,E⟩:=bd E;refine AY 5 22 (.bool M) ?_ ?_
   ·cases Q:(!I)
    ·have c:=HV Q c;refine AU ?_;refine BC c O O O Hu O (λar U h' o=>Co (St.all h') ap (iq (n:=0) O) (iq (n:=1099511627776) O) U) λar c=>AU ?_;cases c;exact AZ O
    have c:=HU Q c;cases c;exact BE O O
   refine AU ?_;obtain⟨au,d,E⟩:=bd E;refine AY 5 28 (.bool au) ?_ ?_
   ·cases V:M
    ·have d:=HV V d;refine AU ?_;refine BC d O O O Hu O (λav W h' o=>Co (St.all h') aq (iq (n:=0) O) (iq (n:=1440) O) W) λav d=>AU ?_;cases d;exact AZ O
    have d:=HU V d;cases d;exact BE O O
   refine BZ (kp [28,4,8,7,1,9] O) λbm X bn=>AH O E (λaw E=>?_) (λaw E=>?_)
   ·exact RT
   have D:=k6.nw;have ax:=D.fl Cv;obtain⟨bo,_,ay⟩:=ax.ll;have az:=ay.le;have a0:=D.fl NG;have a1:=a0.i;have a2:=D.fl HW;obtain⟨bp,_,a3⟩:=a2.ll;have a4:=a3.le;refine AU ?_;refine lL (cs:=[vI (↑b.A.length:Int),vI b.J,vI (↑b.C.length:Int)]) tH O O O (AU ?_);refine D0 oC O X λbq br Y bs=>?_;refine FL O O O O oV.1 O Y .head O λbt u bu=>AU ?_;refine CV (.inr ⟨mo,by kernel_rfl⟩) u (AU ?_);obtain⟨a5,q,E⟩:=bd E;have Z:=wL q;refine tX O O tF Z.1 Z.2 O (lH (l:=([(↑b.A.length:Int),b.J,(↑b.C.length:Int)]:List Int)) (Value.int .i64) OM u O mh O q Fi.1 O ?_);have a6:AA a5:=wK (p:=λz=>AA z) (all_cons (Lj az) (all_cons a1 (all_cons (Lj a4) kN))) q;refine BC E O O O QL O (λa7 ab h' o=>IF (St.all h') ao a6 ab) λa7 E=>AU ?_;refine BZ (kp [45,8,7,1,9] O) λbv ac bw=>AH O E (λa8 E=>?_) (λa8 E=>?_)
   ·exact RT
   refine AU ?_;refine BJ (AU ?_);refine WF.nil (λx y k m=>?_);have ad:=ac.sel [] 2 O;exact⟨(BQ (j+1)),_,_,k.sub (kp [8,7,1,9] O),m,ad,EX,(BW _),E⟩
  refine BL O (λx y k m=>?_);exact⟨_,_,k.sub Ri,m,t,F,E⟩
 rintro x y ⟨bx,bz,k,m,a9,b0,E⟩;refine AK ?_ k m;clear k m y x;rw[GT] at E;exact RT
def PF (hs:St S L h) {k:Value}{l:AF}(t:Rd S h B5 k l) {r:Bool}(E:Iv N l=some r):
 CM prog 82 #[k] S h (λv S' h'=>v= .bool r∧St S' (L) h'):=by
 refine CM.go 80 func82 O ntmps82 O λB=>?_;rw[Iv] at E;refine AU ?_;refine Cg O t CE O hs λq1 S2 h3 aj e5 k6=>?_;have k8:=k6.fl Lf;obtain⟨v9,_,ak⟩:=k8.ll;refine AU ?_;refine AQ (λa w=>IV B S2 h3 (80,[]) a w [] (L) λ_ _=>Gp N=some r) ?_ ?_
 ·refine A8 (λn1=>λa w=>∃(m:Int),IV B S2 h3 (80,[]) a w [(7,vI (↑l.Ai.length:Int)),(6,v9),(1,q1),(8,vI m)] (L) λ_ _=>AA m∧Ep N l (Gp N) n1 m=some r) N ?_ ?_ ?_
  ·intro x y p q;exact⟨0,_,_,p.sub (kp [7,6,1,8] O),q,aj,(C2.refl S2 h3),(iq (n:=0) O),E⟩
  ·rintro x y ⟨_,_,_,_,_,_,_,_,E⟩;rw[Ep] at E;cases E
  rintro n1 x y ⟨m,bn,bo,p,q,u,A,bp,E⟩;refine AK ?_ p q;clear p q y x;rw[Ep] at E;refine AU ?_;refine AH O E (λam E=>?_) (λam E=>?_)
  ·refine AU ?_;refine A5 (AU ?_);have an:=ak.mono' A;refine BI E O O an bT.1 O λs E bq ao=>?_;obtain⟨br,_,ap⟩:=ao.lv;refine AU ?_;refine D0 Z2 O u λbs bt C aq=>?_;have ar:=ap.mono aq;obtain⟨rfl,⟨bu,au,av,aw,ax,ay,az⟩⟩:=G7.ex ar;refine FL O O O O aR.1 O C .head O λbv F bw=>AU ?_;refine CV (.inl O) F ?_;have G:=k6.nw;have a0:=G.fl KP;obtain⟨bx,_,a1⟩:=a0.ll;have a2:=a1.le;refine AU ?_;refine BC E O O O QL O (λH I h' o=>IF (St.all h') au (Lj a2) I) λH E=>AU ?_;obtain⟨J,b,E⟩:=bd E;refine AY 12 31 (.bool J) ?_ ?_
   ·cases K:(!H)
    ·have b:=HV K b;refine AU ?_;refine BC b O O O QL O (λa3 Q h' o=>IF (St.all h') av (BW _) Q) λa3 b=>AU ?_;cases b;exact AZ O
    have b:=HU K b;cases b;exact BE O O
   refine AU ?_;obtain⟨U,c,E⟩:=bd E;refine AY 5 44 (.bool U) ?_ ?_
   ·cases V:(J||(decide (s.M=s.D)))
    ·have c:=HV V c;refine AU ?_;refine BC c O O O Hu O (λa4 W h' o=>Co (St.all h') aw (iq (n:=1) O) (iq (n:=24) O) W) λa4 c=>AU ?_;cases c;exact AZ O
    have c:=HU V c;cases c;exact BE O O
   refine AU ?_;obtain⟨X,d,E⟩:=bd E;refine AY 5 50 (.bool X) ?_ ?_
   ·cases Y:U
    ·have d:=HV Y d;refine AU ?_;refine BC d O O O Hu O (λa5 Z h' o=>Co (St.all h') ax (iq (n:=0) O) (iq (n:=1073741824) O) Z) λa5 d=>AU ?_;cases d;exact AZ O
    have d:=HU Y d;cases d;exact BE O O
   refine AU ?_;obtain⟨a6,g,E⟩:=bd E;refine AY 5 56 (.bool a6) ?_ ?_
   ·cases ab:X
    ·have g:=HV ab g;refine AU ?_;refine BC g O O O J7 O (λa7 ac h' o=>C1 (St.all h') az ac) λa7 g=>AU ?_;cases g;exact AZ O
    have g:=HU ab g;cases g;exact BE O O
   refine BZ (kp [56,4,7,6,1,8] O) λbz ad a8=>AH O E (λa9 E=>?_) (λa9 E=>?_)
   ·exact RT
   refine AU ?_;refine CV (.inl O) ad (AU ?_);obtain⟨ba,i,E⟩:=bd E;refine AY 13 78 (.bool ba) ?_ ?_
   ·cases ae:((decide (s.Bj=(-1)))&&(decide (s.Bm≠0)))
    ·have i:=HV ae i;refine AU ?_;obtain⟨bb,j,i⟩:=bd i;refine AY 8 77 (.bool bb) ?_ ?_
     ·cases af:(decide (s.Bj≠(-1)))
      ·have j:=HV af j;cases j;exact BE O O
      have j:=HU af j;have bc:=G.mono a8;have be:=bc.fl Cv;obtain⟨b0,_,bf⟩:=be.ll;have bg:=bf.le;refine AU ?_;refine BC j O O O QL O (λbh ag h' o=>IF (St.all h') ay (Lj bg) ag) λbh j=>AU ?_;cases j;exact AZ O
     refine AU ?_;cases i;exact AZ O
    have i:=HU ae i;cases i;exact BE O O
   refine BZ (kp [78,7,6,1,8] O) λb1 ah bj=>AH O E (λai E=>?_) (λai E=>?_)
   ·exact RT
   refine AU ?_;refine BJ (AU ?_);refine WF.nil (λx y p q=>?_);have z:=ah.drop .head;exact⟨(BQ (m+1)),_,_,p.sub (kp [7,6,1,8] O),q,z,EX,(BW _),E⟩
  refine BL O (λx y p q=>?_);exact⟨_,_,p.sub Ri,q,u,A,E⟩
 rintro x y ⟨bk,bl,p,q,bi,bm,E⟩;refine AK ?_ p q;clear p q y x;rw[Gp] at E;exact RT
def OP (hs:St S L h) {m:Value}{q:AF}(n:Rd S h B5 m q) {r:Bool}(E:Gx N q=some r):
 CM prog 37 #[m] S h (λv S' h'=>v= .bool r∧St S' (L) h'):=by
 refine CM.go 37 func37 O ntmps37 O λB=>?_;rw[Gx] at E;refine AU ?_;refine Cg O n CE O hs λq1 S2 h3 l e5 p=>AU ?_;refine CV (.inl O) l ?_;obtain⟨v7,_,k8⟩:=p.lv;refine AU ?_;refine BC E O O O xN O (λy9 Z h' o=>Po (St.all h') (k8.mono (o.all l.1)) Z) λy9 E=>AU ?_;obtain⟨s,a,E⟩:=bd E;refine AY 3 8 (.bool s) ?_ ?_
 ·cases t:y9
  ·have a:=HV t a;cases a;exact BE O O
  have a:=HU t a;obtain⟨au,_,aa⟩:=p.lv;refine AU ?_;refine BC a O O O xM O (λab u h' o=>PG (St.all h') (aa.mono (o.all l.1)) u) λab a=>AU ?_;cases a;exact AZ O
 refine AU ?_;obtain⟨w,b,E⟩:=bd E;refine AY 3 12 (.bool w) ?_ ?_
 ·cases x:s
  ·have b:=HV x b;cases b;exact BE O O
  have b:=HU x b;obtain⟨av,_,ac⟩:=p.lv;refine AU ?_;refine BC b O O O xL O (λad y h' o=>Od (St.all h') (ac.mono (o.all l.1)) y) λad b=>AU ?_;cases b;exact AZ O
 refine AU ?_;obtain⟨z,c,E⟩:=bd E;refine AY 3 16 (.bool z) ?_ ?_
 ·cases A:w
  ·have c:=HV A c;cases c;exact BE O O
  have c:=HU A c;obtain⟨aw,_,ae⟩:=p.lv;refine AU ?_;refine BC c O O O xK O (λaf C h' o=>PH (St.all h') (ae.mono (o.all l.1)) C) λaf c=>AU ?_;cases c;exact AZ O
 refine AU ?_;obtain⟨D,d,E⟩:=bd E;refine AY 3 20 (.bool D) ?_ ?_
 ·cases F:z
  ·have d:=HV F d;cases d;exact BE O O
  have d:=HU F d;obtain⟨ax,_,ag⟩:=p.lv;refine AU ?_;refine BC d O O O xJ O (λah G h' o=>OB (St.all h') (ag.mono (o.all l.1)) G) λah d=>AU ?_;cases d;exact AZ O
 refine AU ?_;obtain⟨H,g,E⟩:=bd E;refine AY 3 24 (.bool H) ?_ ?_
 ·cases I:D
  ·have g:=HV I g;cases g;exact BE O O
  have g:=HU I g;obtain⟨ay,_,ai⟩:=p.lv;refine AU ?_;refine BC g O O O xI O (λaj J h' o=>Oc (St.all h') (ai.mono (o.all l.1)) J) λaj g=>AU ?_;cases g;exact AZ O
 refine AU ?_;obtain⟨K,i,E⟩:=bd E;refine AY 3 28 (.bool K) ?_ ?_
 ·cases M:H
  ·have i:=HV M i;cases i;exact BE O O
  have i:=HU M i;obtain⟨az,_,ak⟩:=p.lv;refine AU ?_;refine BC i O O O xH O (λal Q h' o=>PE (St.all h') (ak.mono (o.all l.1)) Q) λal i=>AU ?_;cases i;exact AZ O
 refine AU ?_;obtain⟨U,j,E⟩:=bd E;refine AY 3 32 (.bool U) ?_ ?_
 ·cases V:K
  ·have j:=HV V j;cases j;exact BE O O
  have j:=HU V j;obtain⟨a0,_,am⟩:=p.lv;refine AU ?_;refine BC j O O O xG O (λan W h' o=>Oe (St.all h') (am.mono (o.all l.1)) W) λan j=>AU ?_;cases j;exact AZ O
 refine AU ?_;obtain⟨ao,k,E⟩:=bd E;refine AY 3 36 (.bool ao) ?_ ?_
 ·cases X:U
  ·have k:=HV X k;cases k;exact BE O O
  have k:=HU X k;obtain⟨a1,_,ap⟩:=p.lv;refine AU ?_;refine BC k O O O xF O (λaq Y h' o=>PF (St.all h') (ap.mono (o.all l.1)) Y) λaq k=>AU ?_;cases k;exact AZ O
 refine AU ?_;exact BZ (kp [2] O) λa2 ar a3=>RT
def Ox (z:St S L h) {b:Value}{c:(List Int)}(i:Sl S h AB b c) {r:Bool}(E:JQ N c=some r):
 CM prog 204 #[b] S h (λv S' h'=>v= .bool r∧St S' (L) h'):=by
 refine CM.go 24 func204 O ntmps204 O λB=>?_;rw[JQ] at E;refine AU ?_;refine AQ (λa w=>IV B S h (24,[]) a w [] (L) λ_ _=>Hf N=some r) ?_ ?_
 ·refine A8 (λx=>λa w=>∃(o:Int) (p:Int),IV B S h (24,[]) a w [(7,vI (↑c.length:Int)),(6,b),(3,vI o),(8,vI p)] (L) λ_ _=>AA o∧AA p∧FT N c (Hf N) x o p=some r) N ?_ ?_ ?_
  ·intro k l d g;exact⟨0,0,_,_,d.sub (kp [7,6,3,8] O),g,z,(C2.refl S h),(iq (n:=0) O),(iq (n:=0) O),E⟩
  ·rintro k l ⟨_,_,_,_,_,_,_,_,_,_,E⟩;rw[FT] at E;cases E
  rintro x k l ⟨o,p,A,C,d,g,j,m,J,K,E⟩;refine AK ?_ d g;clear d g l k;rw[FT] at E;refine AU ?_;refine AH O E (λq E=>?_) (λq E=>?_)
  ·refine AU ?_;refine A5 (AU ?_);have s:=i.mono' m;refine BI E O O s CY.1 O λt E D F=>AU ?_;refine AH O E (λu E=>?_) (λu E=>?_)
   ·exact RT
   refine AU ?_;refine BJ (AU ?_);refine WF.nil (λk l d g=>?_);exact⟨(BQ (o+t)),(BQ (p+1)),_,_,d.sub (kp [7,6,3,8] O),g,j,m,(BW _),(BW _),E⟩
  refine BL O (λk l d g=>?_);exact⟨_,_,d.sub Ri,g,j,m,E⟩
 rintro k l ⟨G,H,d,g,y,I,E⟩;refine AK ?_ d g;clear d g l k;rw[Hf] at E;exact RT
def Oy (k:St S L h) {c:Value}{d:(List Int)}(g:Sl S h AB c d) {a:Int}(i:AA a) {r:Bool}(E:KR N d a=some r):
 CM prog 156 #[c,vI a] S h (λv S' h'=>v= .bool r∧St S' (L) h'):=by
 refine CM.go 21 func156 O ntmps156 O λB=>?_;rw[KR] at E;refine AU ?_;refine CV (.inl O) k (AU ?_);obtain⟨m,b,E⟩:=bd E;refine AY 3 20 (.bool m) ?_ ?_
 ·cases l:(((decide (0≤a))&&(decide (a≤16)))&&(decide ((↑d.length:Int)=a)))
  ·have b:=HV l b;cases b;exact BE O O
  have b:=HU l b;refine AU ?_;refine BC b O O O fA O (λn j h' o=>Ox (St.all h') (g.mono' (o.all k.1)) j) λn b=>AU ?_;cases b;exact AZ O
 refine AU ?_;exact BZ (kp [4] O) λs p q=>RT
def Kl (j:St S L h) {a:Int}(c:AA a) {b:Int}(d:AA b) {r:Int}(E:H3 N a b=some r):
 CM prog 63 #[vI a,vI b] S h (λv S' h'=>v=vI r∧AA r∧St S' (L) h'):=by
 refine CM.go 24 func63 O ntmps63 O λB=>?_;rw[H3] at E;refine AU ?_;refine AH O E (λg E=>?_) (λg E=>?_)
 ·exact RT
 refine AU ?_;refine AH O E (λi E=>?_) (λi E=>?_)
 ·exact RT
 exact RT
def Gr (K:St S L h) {b:Value}{c:(List Int)}(k:Sl S h AB b c) {r:Int}(E:FE N c=some r):
 CM prog 31 #[b] S h (λv S' h'=>v=vI r∧AA r∧St S' (L) h'):=by
 refine CM.go 17 func31 O ntmps31 O λB=>?_;rw[FE] at E;refine AU ?_;refine AQ (λa w=>∃(y:Int),IV B S h (17,[]) a w [(3,vI y)] (L) λ_ _=>AA y∧JL N y=some r) ?_ ?_
 ·refine A8 (λH=>λa w=>∃(q:Int) (d:Int),IV B S h (17,[]) a w [(7,vI (↑c.length:Int)),(6,b),(3,vI q),(8,vI d)] (L) λ_ _=>AA q∧AA d∧Hg N c (JL N) H q d=some r) N ?_ ?_ ?_
  ·intro m p g j;exact⟨0,0,_,_,g.sub (kp [7,6,3,8] O),j,K,(C2.refl S h),(iq (n:=0) O),(iq (n:=0) O),E⟩
  ·rintro m p ⟨_,_,_,_,_,_,_,_,_,_,E⟩;rw[Hg] at E;cases E
  rintro H m p ⟨q,d,M,Q,g,j,l,s,I,U,E⟩;refine AK ?_ g j;clear g j p m;rw[Hg] at E;refine AU ?_;refine AH O E (λz E=>?_) (λz E=>?_)
  ·refine AU ?_;refine A5 (AU ?_);have A:=k.mono' s;refine BI E O O A CY.1 O λV E W C=>?_;have D:=C.i;refine AU ?_;refine CV (.inl O) l (AU ?_);refine DV E O O O Wb O (λt u h' o=>Kl (St.all h') I D u) λt E F=>?_;have G:=F;refine AU ?_;refine BZ (kp [3,7,6,8] O) λX x Y=>BJ (AU ?_);refine WF.nil (λm p g j=>?_);exact⟨t,(BQ (d+1)),_,_,g.sub (kp [7,6,3,8] O),j,x,EX,G,(BW _),E⟩
  refine BL O (λm p g j=>?_);exact⟨q,_,_,g.sub (kp [3] O),j,l,s,I,E⟩
 rintro m p ⟨y,Z,ab,g,j,J,ac,r3,E⟩;refine AK ?_ g j;clear g j p m;rw[JL] at E;exact RT
def H0 (g:St S L h) {b:Int}(d:AA b) {a:Int}(c:AA a) {r:Bool}(E:HO N b a=some r):
 CM prog 113 #[vI b,vI a] S h (λv S' h'=>v= .bool r∧St S' (L) h'):=by
 refine CM.go 12 func113 O ntmps113 O λB=>?_;rw[HO] at E;exact RT
def Ry (hs:St S L h) {p:Value}{j:AF}(F:Rd S h B5 p j) {q:Value}{i:AI}(H:Rd S h BO q i) {r:Int×Bool}(E:Kg N j i=some r):
 CM prog 83 #[p,q] S h (λv S' h'=>v= .tuple #[vI r.1,.bool r.2]∧AA r.1∧St S' (L) h'):=by
 refine CM.go 76 func83 O ntmps83 O λB=>?_;rw[Kg] at E;refine AU ?_;refine Cg O F CE O hs λq1 S2 h3 bg e5 k6=>?_;have k7:=H.mono e5;refine Cg O k7 CE O bg λq8 S9 Y aj cr ak=>?_;have bh:=ak.fl Mm;obtain⟨bi,_,bj⟩:=bh.ll;refine AU ?_;refine AQ (λa w=>∃(u:Int),IV B S9 Y (76,[]) a w [(3,q8),(2,q1),(6,vI u)] (L) λ_ _=>AA u∧GJ N j i u=some r) ?_ ?_
 ·refine A8 (λn1=>λa w=>∃(s:Int) (x:Int),IV B S9 Y (76,[]) a w [(14,vI (↑i.G.length:Int)),(13,bi),(3,q8),(2,q1),(6,vI s),(15,vI x)] (L) λ_ _=>AA s∧AA x∧GI N j i (GJ N j i) n1 s x=some r) N ?_ ?_ ?_
  ·intro k l b g;exact⟨0,0,_,_,b.sub (kp [14,13,3,2,6,15] O),g,aj,(C2.refl S9 Y),(iq (n:=0) O),(iq (n:=0) O),E⟩
  ·rintro k l ⟨_,_,_,_,_,_,_,_,_,_,E⟩;rw[GI] at E;cases E
  rintro n1 k l ⟨s,x,cs,ct,b,g,y,am,bk,cu,E⟩;refine AK ?_ b g;clear b g l k;rw[GI] at E;refine AU ?_;refine AH O E (λbl E=>?_) (λbl E=>?_)
  ·refine AU ?_;refine A5 (AU ?_);have bm:=bj.mono' am;refine BI E O O bm Jh.1 O λcv E cw bn=>?_;obtain⟨cx,_,an⟩:=bn.ll;refine AU ?_;refine CV (.inl O) y ?_;have bo:=k6.nw;have bp:=bo.fl IH;obtain⟨cy,_,bq⟩:=bp.ll;have br:=bq.le;refine AU ?_;refine BC E O O O fI O (λbs ao h' o=>Oy (St.all h') (an.mono' (o.all y.1)) (Lj br) ao) λbs E=>AU ?_;refine BZ (kp [24,8,14,13,3,2,6,15] O) λcz z bt=>AH O E (λbu E=>?_) (λbu E=>?_)
   ·refine AU ?_;refine CO (λk l b g=>?_);cases E;exact LC b O g (I4 (J1 b (v:=_) O) (I4 (J1 b (v:=_) O) LB)) O EX ⟨O,(iq (n:=0) O),z⟩
   refine AU ?_;refine CV (.inl O) z (AU ?_);have bv:=an.mono' bt;refine DV E O O O Pz O (λap aq h' o=>Gr (St.all h') (bv.mono' (o.all z.1)) aq) λap E bw=>?_;have c0:=bw;refine AU ?_;refine BZ (kp [6,14,13,3,2,15] O) λc1 K c2=>AU ?_;refine AH O E (λbx E=>?_) (λbx E=>?_)
   ·refine AU ?_;refine CO (λk l b g=>?_);cases E;exact LC b O g (I4 (J1 b (v:=_) O) (I4 (J1 b (v:=_) O) LB)) O EX ⟨O,(iq (n:=0) O),K⟩
   refine AU ?_;refine BJ (AU ?_);refine WF.nil (λk l b g=>?_);exact⟨(BQ (s+ap)),(BQ (x+1)),_,_,b.sub (kp [14,13,3,2,6,15] O),g,K,EX,(BW _),(BW _),E⟩
  refine BL O (λk l b g=>?_);exact⟨s,_,_,b.sub (kp [3,2,6] O),g,y,am,bk,E⟩
 rintro k l ⟨u,Z,ab,b,g,ar,bz,b0,E⟩;refine AK ?_ b g;clear b g l k;rw[GJ] at E;have au:=ak.mono bz;have b1:=au.fl La;obtain⟨b2,_,b3⟩:=b1.ll;refine AU ?_;refine AQ (λa w=>∃(J:Int),IV B Z ab (76,[]) a w [(6,vI J)] (L) λ_ _=>AA J∧If N J=some r) ?_ ?_
 ·refine A8 (λn3=>λa w=>∃(t:Int) (A:Int),IV B Z ab (76,[]) a w [(34,vI (↑i.I.length:Int)),(33,b2),(3,q8),(2,q1),(6,vI t),(35,vI A)] (L) λ_ _=>AA t∧AA A∧G8 N j i (If N) n3 t A=some r) N ?_ ?_ ?_
  ·intro k l b g;exact⟨u,0,_,_,b.sub (kp [34,33,3,2,6,35] O),g,ar,(C2.refl Z ab),b0,(iq (n:=0) O),E⟩
  ·rintro k l ⟨_,_,_,_,_,_,_,_,_,_,E⟩;rw[G8] at E;cases E
  rintro n3 k l ⟨t,A,c3,c4,b,g,M,av,b4,c5,E⟩;refine AK ?_ b g;clear b g l k;rw[G8] at E;refine AU ?_;refine AH O E (λb5 E=>?_) (λb5 E=>?_)
  ·refine AU ?_;refine A5 (AU ?_);have b6:=b3.mono' av;refine BI E O O b6 On.1 O λb7 E c6 b8=>?_;obtain⟨c7,_,b9⟩:=b8.lv;refine AU ?_;refine D0 ST O M λc8 c9 aw ca=>?_;have cb:=b9.mono ca;obtain⟨cd,rfl,ce,ax,Q⟩:=A0.ex cb;refine JI O O O ON Sb.1 O aw .head O λcf C ay=>AU ?_;refine CV (.inl O) C ?_;have cg:=au.nw;refine AU ?_;obtain⟨U,c,E⟩:=bd E;refine AY 8 52 (.bool U) ?_ ?_
   ·cases V:(decide (b7.At<i.B))
    ·have c:=HV V c;have az:=k6.nw;have a0:=az.fl Cv;obtain⟨ch,_,a1⟩:=a0.ll;have a2:=a1.le;refine AU ?_;refine BC c O O O O5 O (λa3 ac h' o=>H0 (St.all h') ax (Lj a2) ac) λa3 c=>AU ?_;cases c;exact AZ O
    have c:=HU V c;cases c;exact BE O O
   refine AU ?_;obtain⟨a4,d,E⟩:=bd E;refine AY 8 61 (.bool a4) ?_ ?_
   ·cases W:U
    ·have d:=HV W d;have a5:=k6.nw;have a6:=a5.fl IH;obtain⟨ci,_,a7⟩:=a6.ll;have a8:=a7.le;refine AU ?_;have a9:=Q.mono' ay;refine BC d O O O fI O (λba ad h' o=>Oy (St.all h') (a9.mono' (o.all C.1)) (Lj a8) ad) λba d=>AU ?_;cases d;exact AZ O
    have d:=HU W d;cases d;exact BE O O
   refine BZ (kp [61,10,34,33,3,2,6,35] O) λcj m ck=>AH O E (λbb E=>?_) (λbb E=>?_)
   ·refine AU ?_;refine CO (λk l b g=>?_);have ae:=m.drop .head;cases E;exact LC b O g (I4 (J1 b (v:=_) O) (I4 (J1 b (v:=_) O) LB)) O EX ⟨O,(iq (n:=0) O),ae⟩
   refine AU ?_;refine CV (.inl O) m (AU ?_);have bc:=Q.nw;refine DV E O O O Pz O (λX af h' o=>Gr (St.all h') (bc.mono' (o.all m.1)) af) λX E be=>?_;have cl:=be;refine AU ?_;refine BZ (kp [11,34,33,3,2,6,35] O) λcm D cn=>AU ?_;refine AH O E (λbf E=>?_) (λbf E=>?_)
   ·refine AU ?_;refine CO (λk l b g=>?_);have ag:=D.drop .head;cases E;exact LC b O g (I4 (J1 b (v:=_) O) (I4 (J1 b (v:=_) O) LB)) O EX ⟨O,(iq (n:=0) O),ag⟩
   refine AU ?_;refine BJ (AU ?_);refine WF.nil (λk l b g=>?_);have ah:=D.drop .head;exact⟨(BQ (t+X)),(BQ (A+1)),_,_,b.sub (kp [34,33,3,2,6,35] O),g,ah,EX,(BW _),(BW _),E⟩
  refine BL O (λk l b g=>?_);exact⟨t,_,_,b.sub (kp [6] O),g,M,av,b4,E⟩
 rintro k l ⟨J,co,cp,b,g,ai,cq,cc,E⟩;refine AK ?_ b g;clear b g l k;rw[If] at E;refine AU ?_;refine CO (λk l b g=>?_);cases E;exact LC b O g (I4 (J1 b (v:=_) O) (I4 (J1 b (v:=_) O) LB)) O EX ⟨O,cc,ai⟩
def Nj (F:St S L h) {c:Value}{i:(List Int)}(l:Sl S h AB c i) {b:Int}(q:AA b) {r:Int×Bool}(E:Jj N i b=some r):
 CM prog 84 #[c,vI b] S h (λv S' h'=>v= .tuple #[vI r.1,.bool r.2]∧AA r.1∧St S' (L) h'):=by
 refine CM.go 29 func84 O ntmps84 O λB=>?_;rw[Jj] at E;refine AU ?_;refine AQ (λa w=>∃(u:Int),IV B S h (29,[]) a w [(6,vI u)] (L) λ_ _=>AA u∧H8 N u=some r) ?_ ?_
 ·refine A8 (λD=>λa w=>∃(s:Int) (j:Int),IV B S h (29,[]) a w [(10,vI (↑i.length:Int)),(9,c),(1,vI b),(6,vI s),(11,vI j)] (L) λ_ _=>AA s∧AA j∧Gf N i b (H8 N) D s j=some r) N ?_ ?_ ?_
  ·intro m o d g;exact⟨0,0,_,_,d.sub (kp [10,9,1,6,11] O),g,F,(C2.refl S h),(iq (n:=0) O),(iq (n:=0) O),E⟩
  ·rintro m o ⟨_,_,_,_,_,_,_,_,_,_,E⟩;rw[Gf] at E;cases E
  rintro D m o ⟨s,j,G,H,d,g,k,p,I,J,E⟩;refine AK ?_ d g;clear d g o m;rw[Gf] at E;refine AU ?_;refine AH O E (λx E=>?_) (λx E=>?_)
  ·refine AU ?_;refine A5 (AU ?_);have y:=l.mono' p;refine BI E O O y CY.1 O λz E K M=>AU ?_;refine AH O E (λA E=>?_) (λA E=>?_)
   ·refine AU ?_;refine CO (λm o d g=>?_);cases E;exact LC d O g (I4 (J1 d (v:=_) O) (I4 (J1 d (v:=_) O) LB)) O p ⟨O,(iq (n:=0) O),k⟩
   refine AU ?_;refine BJ (AU ?_);refine WF.nil (λm o d g=>?_);exact⟨(BQ (s+z)),(BQ (j+1)),_,_,d.sub (kp [10,9,1,6,11] O),g,k,p,(BW _),(BW _),E⟩
  refine BL O (λm o d g=>?_);exact⟨s,_,_,d.sub (kp [6] O),g,k,p,I,E⟩
 rintro m o ⟨u,Q,U,d,g,t,C,V,E⟩;refine AK ?_ d g;clear d g o m;rw[H8] at E;refine AU ?_;refine CO (λm o d g=>?_);cases E;exact LC d O g (I4 (J1 d (v:=_) O) (I4 (J1 d (v:=_) O) LB)) O C ⟨O,V,t⟩
def Om (hs:St S L h) {p:Value}{c:AF}(F:Rd S h B5 p c) {q:Value}{d:AI}(G:Rd S h BO q d) {r:Bool}(E:KQ N c d=some r):
 CM prog 38 #[p,q] S h (λv S' h'=>v= .bool r∧St S' (L) h'):=by
 refine CM.go 168 func38 O ntmps38 O λB=>?_;rw[KQ] at E;refine AU ?_;refine Cg O F CE O hs λq1 S2 h3 b5 e5 k6=>?_;have k7:=G.mono e5;refine Cg O k7 CE O b5 λq8 S9 V ak s W=>?_;have en:=k6.mono s;have eo:=k6.mono s;have ep:=k6.mono s;have eq:=k6.mono s;have er:=k6.mono s;refine AU ?_;refine AH O E (λb6 E=>?_) (λb6 E=>?_)
 ·exact RT
 have am:=k6.mono s;have b7:=am.fl Cv;obtain⟨b8,_,b9⟩:=b7.ll;refine AU ?_;refine AQ (λa w=>IV B S9 V (168,[]) a w [(3,q8),(2,q1)] (L) λ_ _=>G5 N c d=some r) ?_ ?_
 ·refine A8 (λn1=>λa w=>∃(t:Int),IV B S9 V (168,[]) a w [(68,vI (↑c.A.length:Int)),(67,b8),(3,q8),(2,q1),(69,vI t)] (L) λ_ _=>AA t∧G3 N c d (G5 N c d) n1 t=some r) N ?_ ?_ ?_
  ·intro k l g i;exact⟨0,_,_,g.sub (kp [68,67,3,2,69] O),i,ak,(C2.refl S9 V),(iq (n:=0) O),E⟩
  ·rintro k l ⟨_,_,_,_,_,_,_,_,E⟩;rw[G3] at E;cases E
  rintro n1 k l ⟨t,es,eu,g,i,H,an,ev,E⟩;refine AK ?_ g i;clear g i l k;rw[G3] at E;refine AU ?_;refine AH O E (λca E=>?_) (λca E=>?_)
  ·refine AU ?_;refine A5 (AU ?_);have cb:=b9.mono' an;refine BI E O O cb NM.1 O λew E ey ao=>?_;obtain⟨cd,_,ap⟩:=ao.lv;refine AU ?_;refine D0 P5 O H λce cf X aq=>AU ?_;have ar:=ap.mono aq;obtain⟨cg,ch,ci,rfl,cj,ck,cl,cm,cn,co,cp,cq,cr,cs,ct,cu⟩:=B4.ex ar;refine JI O O O ON P7.1 O X .head O λcv Y cw=>AU ?_;refine Hv (.inr ⟨mo,by kernel_rfl⟩) ?_;have I:=W.nw;have au:=I.fl LZ;obtain⟨cx,_,av⟩:=au.ll;refine AU ?_;refine BI E O O av CY.1 O λaw E cy cz=>AU ?_;obtain⟨ax,b,E⟩:=bd E;refine AY 11 91 (.bool ax) ?_ ?_
   ·cases J:(decide (aw<0))
    ·have b:=HV J b;have ay:=I.fl LZ;obtain⟨c0,_,az⟩:=ay.ll;refine AU ?_;refine BI b O O az CY.1 O λc1 b c2 c3=>AU ?_;refine Rb O O O (AU ?_);cases b;exact AZ O
    have b:=HU J b;cases b;exact BE O O
   refine AU ?_;refine AH O E (λa0 E=>?_) (λa0 E=>?_)
   ·exact RT
   refine AU ?_;refine BJ (AU ?_);refine WF.nil (λk l g i=>?_);have Z:=Y.drop .head;exact⟨(BQ (t+1)),_,_,g.sub (kp [68,67,3,2,69] O),i,Z,EX,(BW _),E⟩
  refine BL O (λk l g i=>?_);exact⟨_,_,g.sub (kp [3,2] O),i,H,an,E⟩
 rintro k l ⟨u,x,g,i,ab,a1,E⟩;refine AK ?_ g i;clear g i l k;rw[G5] at E;have K:=am.mono a1;have a2:=K.fl HW;obtain⟨a3,_,a4⟩:=a2.ll;refine AU ?_;refine AQ (λa w=>IV B u x (168,[]) a w [(3,q8),(2,q1)] (L) λ_ _=>G4 N c d=some r) ?_ ?_
 ·refine A8 (λn3=>λa w=>∃(j:Int),IV B u x (168,[]) a w [(95,vI (↑c.C.length:Int)),(94,a3),(3,q8),(2,q1),(96,vI j)] (L) λ_ _=>AA j∧G2 N c d (G4 N c d) n3 j=some r) N ?_ ?_ ?_
  ·intro k l g i;exact⟨0,_,_,g.sub (kp [95,94,3,2,96] O),i,ab,(C2.refl u x),(iq (n:=0) O),E⟩
  ·rintro k l ⟨_,_,_,_,_,_,_,_,E⟩;rw[G2] at E;cases E
  rintro n3 k l ⟨j,c4,c5,g,i,y,M,c6,E⟩;refine AK ?_ g i;clear g i l k;rw[G2] at E;refine AU ?_;refine AH O E (λa5 E=>?_) (λa5 E=>?_)
  ·refine AU ?_;refine A5 (AU ?_);have a6:=a4.mono' M;refine BI E O O a6 OK.1 O λc7 E c8 a7=>?_;obtain⟨c9,_,a8⟩:=a7.lv;refine AU ?_;refine D0 Og O y λda db ac a9=>AU ?_;have ba:=a8.mono a9;obtain⟨dc,dd,de,rfl,df,dg,dh,di,dj,dk,dl,dm,dn,dp,dq,dr,ds,dt,du,dv,dw,dx⟩:=CD.ex ba;refine JI O O O ON Ok.1 O ac .head O λdy ad dz=>?_;have bb:=W.nw;have bc:=bb.fl Lb;obtain⟨d0,_,be⟩:=bc.ll;refine AU ?_;refine BI E O O be OJ.1 O λd1 E d2 bf=>?_;obtain⟨d3,_,bg⟩:=bf.lv;refine AU ?_;refine D0 SS O ad λd4 d5 ae bh=>?_;have bi:=bg.mono bh;obtain⟨rfl,⟨d6,d7⟩⟩:=BT.ex bi;refine FL O O O O I6.1 O ae .head O λd8 af d9=>AU ?_;refine AH O E (λbj E=>?_) (λbj E=>?_)
   ·exact RT
   refine AU ?_;refine AH O E (λbk E=>?_) (λbk E=>?_)
   ·exact RT
   refine AU ?_;refine BJ (AU ?_);refine WF.nil (λk l g i=>?_);have ag:=af.sel [] 2 O;exact⟨(BQ (j+1)),_,_,g.sub (kp [95,94,3,2,96] O),i,ag,EX,(BW _),E⟩
  refine BL O (λk l g i=>?_);exact⟨_,_,g.sub (kp [3,2] O),i,y,M,E⟩
 rintro k l ⟨ea,eb,g,i,m,bl,E⟩;refine AK ?_ g i;clear g i l k;rw[G4] at E;refine AU ?_;refine CV (.inl O) m ?_;have bm:=K.mono bl;obtain⟨ec,_,bn⟩:=bm.lv;have Q:=W.nw;obtain⟨ed,_,bo⟩:=Q.lv;refine AU ?_;refine DV E O O O xE O (λbp ah h' o=>Ry (St.all h') (bn.mono (o.all m.1)) (bo.mono (o.all m.1)) ah) λbp E bq=>?_;have ee:=bq;refine AU ?_;refine BZ (kp [11,10,3] O) λef z br=>AU ?_;refine AH O E (λbs E=>?_) (λbs E=>?_)
 ·exact RT
 refine AU ?_;refine CV (.inl O) z ?_;have U:=Q.mono br;have bt:=U.fl AI.f_In;obtain⟨eg,_,bu⟩:=bt.ll;refine AU ?_;refine DV E O O O nL O (λbv ai h' o=>Nj (St.all h') (bu.mono' (o.all z.1)) (iq (n:=1152921504606846976) O) ai) λbv E bw=>?_;have eh:=bw;refine AU ?_;refine BZ (kp [11,12,10,3] O) λei D bx=>AU ?_;refine AH O E (λbz E=>?_) (λbz E=>?_)
 ·exact RT
 refine AU ?_;refine CV (.inl O) D ?_;have b0:=U.mono bx;have b1:=b0.fl Mn;obtain⟨ej,_,b2⟩:=b1.ll;refine AU ?_;refine DV E O O O nL O (λb3 aj h' o=>Nj (St.all h') (b2.mono' (o.all D.1)) (BW _) aj) λb3 E b4=>?_;have ek:=b4;refine AU ?_;exact BZ (kp [11] O) λel cc em=>RT
def Mh (k:St S L h) {b:Value}{c:(List (List Int))}(a:Sl S h (A7.sl AB) b c) {r:(List (List Int))}(E:GX N c=some r):
 CM prog 132 #[b] S h (λv S' h'=>St S' (OS (A7.sl AB) 29 v r::L) h'):=by
 refine CM.go 8 func132 O ntmps132 O λB=>?_;rw[GX] at E;rcases a.cases with ⟨rfl,rfl⟩|⟨n,m,rfl,a⟩
 ·have s:(some ([]:List (List Int)))=some r:=by simpa [chk,Ha] using E
  refine AU ?_;refine JX O O O aE (AU ?_);refine KK O (AU ?_);have d:=k.nil (A7.sl AB) 29;cases E;exact GF d O O EX
 refine AU ?_;refine KM O O O aE (AU ?_);refine KL O (AU ?_);refine KO (r:=(A7.sl AB)) WV O O k λv1 t g o=>AU ?_;have p:=a.mono' o;obtain⟨i,E⟩:=Lp E;refine Gl (r:=(A7.sl AB)) (l:=([]:List (List Int))) (xs:=c) O O WV O (Sl.src p) O i O g (λ_=> .head) λu w j q=>AU ?_;cases E;exact GF j O O EX
def JE (k:St S L h) {b:Value}{c:(List AT)}(a:Sl S h A0 b c) {r:(List AT)}(E:C7 N c=some r):
 CM prog 133 #[b] S h (λv S' h'=>St S' (OS A0 103 v r::L) h'):=by
 refine CM.go 8 func133 O ntmps133 O λB=>?_;rw[C7] at E;rcases a.cases with ⟨rfl,rfl⟩|⟨n,m,rfl,a⟩
 ·have s:(some ([]:List AT))=some r:=by simpa [chk,Ha] using E
  refine AU ?_;refine JX O O O aD (AU ?_);refine KK O (AU ?_);have d:=k.nil A0 103;cases E;exact GF d O O EX
 refine AU ?_;refine KM O O O aD (AU ?_);refine KL O (AU ?_);refine KO (r:=A0) Rq O O k λv1 t g o=>AU ?_;have p:=a.mono' o;obtain⟨i,E⟩:=Lp E;refine Gl (r:=A0) (l:=([]:List AT)) (xs:=c) O O Rq O (Sl.src p) O i O g (λ_=> .head) λu w j q=>AU ?_;cases E;exact GF j O O EX
def GV (k:St S L h) {b:Value}{c:(List A4)}(a:Sl S h BT b c) {r:(List A4)}(E:BY N c=some r):
 CM prog 112 #[b] S h (λv S' h'=>St S' (OS BT 107 v r::L) h'):=by
 refine CM.go 8 func112 O ntmps112 O λB=>?_;rw[BY] at E;rcases a.cases with ⟨rfl,rfl⟩|⟨n,m,rfl,a⟩
 ·have s:(some ([]:List A4))=some r:=by simpa [chk,Ha] using E
  refine AU ?_;refine JX O O O aC (AU ?_);refine KK O (AU ?_);have d:=k.nil BT 107;cases E;exact GF d O O EX
 refine AU ?_;refine KM O O O aC (AU ?_);refine KL O (AU ?_);refine KO (r:=BT) eG O O k λv1 t g o=>AU ?_;have p:=a.mono' o;obtain⟨i,E⟩:=Lp E;refine Gl (r:=BT) (l:=([]:List A4)) (xs:=c) O O eG O (Sl.src p) O i O g (λ_=> .head) λu w j q=>AU ?_;cases E;exact GF j O O EX
def O7 (hs:St S L h) {am:Value}{q:AI}(a6:Rd S h BO am q) {r:AI}(E:Iq N q=some r):
 CM prog 71 #[am] S h (λv S' h'=>Rd S' h' BO v r∧St S' (L) h'):=by
 refine CM.go 66 func71 O ntmps71 O λB=>?_;rw[Iq] at E;refine AU ?_;obtain⟨v3,v5,v7,v9,ab,K,rfl,r2,k4,k6,k8,d9,eb,ec⟩:=BO.ex a6;refine Nb O O O hs λA he cm hg=>D0 Ng O cm λG hi cn hj=>AU ?_;refine De (AU ?_);have ed:=k4.nw;refine GY E O O O sT O (λt co=>Mh cn ed co) λt E hk bf hl hm p=>?_;have a8:=p;refine AU ?_;obtain⟨j,c,rfl,hn⟩:=a8.oslen mh;refine Ge (cs':=[vI q.B,(.slice j t.length c),v5,v7,v9,ab,K]) O O O O Vk.1 O a8 (.tail (.tail .head)) O O λbg cp ho=>AU ?_;refine AQ (λa w=>∃(ac:List (List Int)),IV B bf bg (66,[]) a w [(2,vP G 0),(1,vP A 0)] (OS (A7.sl AB) 29 (.slice j t.length c) ac::Bx G 36 [vI 0,vN,vN,vN,vN,vN,vN]::Bx A 36 [vI q.B,(.slice j t.length c),v5,v7,v9,ab,K]::L) λ_ _=>Ej N q ac=some r) ?_ ?_
 ·refine A8 (λn1=>λa w=>∃(z:Int) (aq:List (List Int)),IV B bf bg (66,[]) a w [(11,vI (↑t.length:Int)),(2,vP G 0),(1,vP A 0),(12,vI z)] (OS (A7.sl AB) 29 (.slice j t.length c) aq::Bx G 36 [vI 0,vN,vN,vN,vN,vN,vN]::Bx A 36 [vI q.B,(.slice j t.length c),v5,v7,v9,ab,K]::L) λ_ _=>AA z∧ED N t (Ej N q) n1 z aq=some r) N ?_ ?_ ?_
  ·intro aa ww C D;exact⟨0,t,_,_,C.sub (kp [11,2,1,12] O),D,cp,(C2.refl bf bg),(iq (n:=0) O),E⟩
  ·rintro aa ww ⟨_,_,_,_,_,_,_,_,_,E⟩;rw[ED] at E;cases E
  rintro n1 aa ww ⟨z,aq,cq,cr,C,D,H,ee,hp,E⟩;refine AK ?_ C D;clear C D ww aa;rw[ED] at E;refine AU ?_;refine AH O E (λef E=>?_) (λef E=>?_)
  ·refine AU ?_;refine A5 (AU ?_);refine RW (kp [3,11,2,1,12] O) ?_;obtain⟨hq,cs,E⟩:=bd E;obtain⟨ct,cu,E⟩:=bd E;obtain⟨bh,cv,E⟩:=bd E;obtain⟨hr,cw,E⟩:=bd E;refine NS (m:=[(3,vI z),(11,vI (↑t.length:Int)),(2,vP G 0),(1,vP A 0),(12,vI z)]) 10 (λi v hh=>match i with|0=>v=vP A 1|1=>v=(.slice j t.length c)|2=>v=vI z∧AA z|3=>v=vP A 1|4=>v=(.slice j t.length c)|5=>v=vI z∧AA z|6=>EP (.slice j t.length c) (z.toNat*((A7.sl AB)).sz+0) v|7=>Sl cq hh AB v ct|8=>Sl (SN cq cr hh) hh AB v bh|9=>EP (.slice j t.length c) (z.toNat*((A7.sl AB)).sz+0) v|_=>False) [[],[(0,15)],[],[],[(3,18)],[],[(4,19),(5,20)],[(6,21)],[(7,22)],[(1,16),(2,17)]] [(8,23),(9,24)] mo (by kernel_rfl) [3,11,2,1,12] O (by kernel_rfl) (by kernel_rfl) (by kernel_rfl) (kp [3,11,2,1,12] O) MO ?_ ?_
   ·refine A6.cons O Fx (A6.cons O Fx (A6.cons O Fx (A6.cons O Fx (A6.cons O Fx (A6.cons O Fx (A6.cons O ?_ ?_))))))
    ·intro mq hh o;intro ht eg hu eh;have u:=o.st H;cases eg;obtain⟨rfl,hv⟩:=eh;refine AU ?_;refine BR u mh O O Jh.1 cs O λhx cx=>AU ?_;exact B1 cx
    refine A6.cons O ?_ ?_
    ·intro mq hh o;intro hy ei;have u:=o.st H;refine AU ?_;have ej:=u.epAt mh cu Fg.id ei;refine H5 Hj (λ_ x=>x) O ej GU.1 O λhz ek=>AU ?_;exact B1 ek
    refine A6.cons O ?_ ?_
    ·intro mq hh o;intro el ar;have u:=SN.st H o;have ar:=Sl.sn cr ar;have ar:Sl _ _ AB el ct:=ar;have M:=u.fz;refine Fv O O O M8 O M (B8 (St.all _) (ar.mono M.ea.1 M.ea.2) cv) λh0 h1 h2 es h3 em p=>?_;have cy:=p;have a9:=M.join em cy ⟨OS.flat (λ{_ _ _ _ _ _} k=>k),trivial⟩;simp only[Abx,Abz] at a9;obtain⟨h4,bi,eu,cz⟩:=a9.pubs .head;have au:=Fz.done o EX bi;exact BA au.1 (Sl.mono' cz au.2)
    refine A6.cons O ?_ ?_
    ·intro mq hh o;intro ev c0 ew c1;have u:=o.st H;cases c0;obtain⟨rfl,ey⟩:=c1;refine AU ?_;refine BR u mh O O Jh.1 cw O λez bj=>AU ?_;exact B1 bj
    exact trivial
   intro e0 c2 c3 av e1 c4;have bk:=SN.st H c2;have av:Sl _ _ AB c3 bh:=av;obtain⟨c5,bl,E⟩:=bd E;refine Ee (r:=(A7.sl AB)) (l:=aq) (i:=z) (x:=c5) O O (KB av) c4 bl L4.id GU.1 (λ_=>rfl) bk .head λe2 bm e3=>AU ?_;refine BJ (AU ?_);refine WF.nil (λaa ww C D=>?_);exact⟨(BQ (z+1)),(upd aq z bh),_,_,C.sub (kp [11,2,1,12] O),D,bm,EX,(BW _),E⟩
  refine BL O (λaa ww C D=>?_);exact⟨aq,_,_,C.sub (kp [2,1] O),D,H,ee,E⟩
 rintro aa ww ⟨ac,e4,e5,C,D,bn,e6,E⟩;refine AK ?_ C D;clear C D ww aa;rw[Ej] at E;refine AU ?_;refine De (AU ?_);have c6:=k8.nw;refine GY E O O O sS O (λg bo=>JE bn c6 bo) λg E e7 aw e8 e9 p=>?_;have ax:=p;refine AU ?_;obtain⟨d,b,rfl,fa⟩:=ax.oslen mh;refine Ge (cs':=[vI q.B,(.slice j t.length c),v5,(.slice d g.length b),v9,ab,K]) O O O O Xp.1 O ax (.tail (.tail (.tail .head))) O O λay bp fb=>AU ?_;refine AQ (λa w=>∃(an:List AT),IV B aw ay (66,[]) a w [(2,vP G 0),(1,vP A 0)] (OS A0 103 (.slice d g.length b) an::OS (A7.sl AB) 29 (.slice j t.length c) ac::Bx G 36 [vI 0,vN,vN,vN,vN,vN,vN]::Bx A 36 [vI q.B,(.slice j t.length c),v5,(.slice d g.length b),v9,ab,K]::L) λ_ _=>Ei N q ac an=some r) ?_ ?_
 ·refine A8 (λn3=>λa w=>∃(s:Int) (I:List AT),IV B aw ay (66,[]) a w [(32,vI (↑g.length:Int)),(2,vP G 0),(1,vP A 0),(33,vI s)] (OS A0 103 (.slice d g.length b) I::OS (A7.sl AB) 29 (.slice j t.length c) ac::Bx G 36 [vI 0,vN,vN,vN,vN,vN,vN]::Bx A 36 [vI q.B,(.slice j t.length c),v5,(.slice d g.length b),v9,ab,K]::L) λ_ _=>AA s∧EC N g (Ei N q ac) n3 s I=some r) N ?_ ?_ ?_
  ·intro aa ww C D;exact⟨0,g,_,_,C.sub (kp [32,2,1,33] O),D,bp,(C2.refl aw ay),(iq (n:=0) O),E⟩
  ·rintro aa ww ⟨_,_,_,_,_,_,_,_,_,E⟩;rw[EC] at E;cases E
  rintro n3 aa ww ⟨s,I,ba,bb,C,D,y,c7,fc,E⟩;refine AK ?_ C D;clear C D ww aa;rw[EC] at E;refine AU ?_;refine AH O E (λc8 E=>?_) (λc8 E=>?_)
  ·refine AU ?_;refine A5 (AU ?_);refine RW (kp [4,32,2,1,33] O) ?_;obtain⟨fd,bq,E⟩:=bd E;obtain⟨bc,br,E⟩:=bd E;obtain⟨az,bs,E⟩:=bd E;obtain⟨fe,bt,E⟩:=bd E;refine NS (m:=[(4,vI s),(32,vI (↑g.length:Int)),(2,vP G 0),(1,vP A 0),(33,vI s)]) 12 (λi v hh=>match i with|0=>v=vP A 3|1=>v=(.slice d g.length b)|2=>v=vI s∧AA s|3=>v=vP A 3|4=>v=(.slice d g.length b)|5=>v=vI s∧AA s|6=>EP (.slice d g.length b) (s.toNat*(A0).sz+0) v|7=>EP (.slice d g.length b) (s.toNat*(A0).sz+2) v|8=>Sl ba hh AB v bc.V|9=>Sl (SN ba bb hh) hh AB v az|10=>EP (.slice d g.length b) (s.toNat*(A0).sz+0) v|11=>EP (.slice d g.length b) (s.toNat*(A0).sz+2) v|_=>False) [[],[(0,36)],[],[],[(3,39)],[],[(4,40),(5,41)],[(6,42)],[(7,43)],[(8,44)],[(1,37),(2,38)],[(10,46)]] [(9,45),(11,47)] mo (by kernel_rfl) [4,32,2,1,33] O (by kernel_rfl) (by kernel_rfl) (by kernel_rfl) (kp [4,32,2,1,33] O) MO ?_ ?_
   ·refine A6.cons O Fx (A6.cons O Fx (A6.cons O Fx (A6.cons O Fx (A6.cons O Fx (A6.cons O Fx (A6.cons O ?_ ?_))))))
    ·intro mq hh o;intro ff c9 fg da;have u:=o.st y;cases c9;obtain⟨rfl,fh⟩:=da;refine AU ?_;refine BR u mh O O On.1 bq O λfi bu=>AU ?_;exact B1 bu
    refine A6.cons O ?_ ?_
    ·intro mq hh o;intro fj db;have u:=o.st y;refine AU ?_;refine J9 O db WU.1 O λfk bv=>AU ?_;exact B1 bv
    refine A6.cons O ?_ ?_
    ·intro mq hh o;intro fl dc;have u:=o.st y;refine AU ?_;have dd:=u.epAt mh br AT.f_Part dc;refine H5 Hj (λ_ x=>x) O dd GU.1 O λfm de=>AU ?_;exact B1 de
    refine A6.cons O ?_ ?_
    ·intro mq hh o;intro df ad;have u:=SN.st y o;have ad:=Sl.sn bb ad;have ad:Sl _ _ AB df bc.V:=ad;have M:=u.fz;refine Fv O O O M8 O M (B8 (St.all _) (ad.mono M.ea.1 M.ea.2) bs) λfn fo fp en fq dg p=>?_;have bw:=p;have a0:=M.join dg bw ⟨OS.flat (λ{_ _ _ _ _ _} k=>k),trivial⟩;simp only[Abx,Abz] at a0;obtain⟨fr,bx,fs,dh⟩:=a0.pubs .head;have a1:=Fz.done o EX bx;exact BA a1.1 (Sl.mono' dh a1.2)
    refine A6.cons O ?_ ?_
    ·intro mq hh o;intro ft di fu dj;have u:=o.st y;cases di;obtain⟨rfl,fv⟩:=dj;refine AU ?_;refine BR u mh O O On.1 bt O λfw bz=>AU ?_;exact B1 bz
    refine A6.cons O ?_ ?_
    ·intro mq hh o;intro fx dk;have u:=o.st y;refine AU ?_;refine J9 O dk WU.1 O λfy b0=>AU ?_;exact B1 b0
    exact trivial
   intro f0 dl dm a2 f1 dn;have b1:=SN.st y dl;have a2:Sl _ _ AB dm az:=a2;obtain⟨be,b2,E⟩:=bd E;refine Ee (r:=A0) (l:=I) (i:=s) (x:=be) O O (KB a2) dn b2 AT.u_Part GU.1 (λ_=>rfl) b1 .head λf2 b3 f3=>AU ?_;refine BJ (AU ?_);refine WF.nil (λaa ww C D=>?_);exact⟨(BQ (s+1)),(upd I s ({ be with V:=az})),_,_,C.sub (kp [32,2,1,33] O),D,b3,EX,(BW _),E⟩
  refine BL O (λaa ww C D=>?_);exact⟨I,_,_,C.sub (kp [2,1] O),D,y,c7,E⟩
 rintro aa ww ⟨an,f4,f5,C,D,Q,f6,E⟩;refine AK ?_ C D;clear C D ww aa;rw[Ei] at E;refine AU ?_;refine De (AU ?_);have dp:=k6.nw;refine Dd E O O O M8 O Q (λJ b4=>B8 (St.all _) (dp.mono Q.ea.1 Q.ea.2) b4) λJ E f7 f8 f9 eo ga dq p=>?_;have b5:=p;have ag:=Q.join dq b5 ⟨OS.flat (λ{_ _ _ _ _ _} k=>k),trivial⟩;simp only[Abx,Abz] at ag;refine AU ?_;obtain⟨U,F,rfl,gb⟩:=ag.oslen mh;refine Ge (cs':=[vI q.B,(.slice j t.length c),(.slice U J.length F),(.slice d g.length b),v9,ab,K]) O O O O GU.1 O ag (.tail (.tail (.tail (.tail .head)))) O O λgc W gd=>AU ?_;refine De (AU ?_);have dr:=d9.nw;refine Dd E O O O fL O W (λaf b6=>GV (St.all _) (dr.mono W.ea.1 W.ea.2) b6) λaf E ge gf gg ep gh ds p=>?_;have b7:=p;have ah:=W.join ds b7 ⟨OS.flat (λ{_ _ _ _ _ _} k=>k),trivial⟩;simp only[Abx,Abz] at ah;refine AU ?_;obtain⟨ai,X,rfl,gi⟩:=ah.oslen mh;refine Ge (cs':=[vI q.B,(.slice j t.length c),(.slice U J.length F),(.slice d g.length b),(.slice ai af.length X),ab,K]) O O O O mD.1 O ah (.tail (.tail (.tail (.tail (.tail .head))))) O O λgj Y gl=>AU ?_;refine De (AU ?_);have dt:=eb.nw;refine Dd E O O O M8 O Y (λao b8=>B8 (St.all _) (dt.mono Y.ea.1 Y.ea.2) b8) λao E gm gn gp eq gq du p=>?_;have b9:=p;have aj:=Y.join du b9 ⟨OS.flat (λ{_ _ _ _ _ _} k=>k),trivial⟩;simp only[Abx,Abz] at aj;refine AU ?_;obtain⟨a3,ap,rfl,gr⟩:=aj.oslen mh;refine Ge (cs':=[vI q.B,(.slice j t.length c),(.slice U J.length F),(.slice d g.length b),(.slice ai af.length X),(.slice a3 ao.length ap),K]) O O O O GU.1 O aj (.tail (.tail (.tail (.tail (.tail (.tail .head)))))) O O λgs Z gt=>AU ?_;refine De (AU ?_);have dv:=ec.nw;refine Dd E O O O M8 O Z (λa4 ca=>B8 (St.all _) (dv.mono Z.ea.1 Z.ea.2) ca) λa4 E gu gv gw er gx dw p=>?_;have cb:=p;have ak:=Z.join dw cb ⟨OS.flat (λ{_ _ _ _ _ _} k=>k),trivial⟩;simp only[Abx,Abz] at ak;refine AU ?_;obtain⟨cc,a7,rfl,gy⟩:=ak.oslen mh;refine Ge (cs':=[vI q.B,(.slice j t.length c),(.slice U J.length F),(.slice d g.length b),(.slice ai af.length X),(.slice a3 ao.length ap),(.slice cc a4.length a7)]) O O O O GU.1 O ak (.tail (.tail (.tail (.tail (.tail (.tail (.tail .head))))))) O O λgz cd g0=>AU ?_;refine FL O O O O II.1 O cd (.tail (.tail (.tail (.tail (.tail (.tail .head)))))) O λg1 ce g2=>AU ?_;refine CO (λaa ww C D=>?_);obtain⟨g3,cf,g4,dx⟩:=ce.pubs (.tail (.tail (.tail (.tail (.tail .head)))));obtain⟨g5,cg,g6,dy⟩:=cf.pubs (.tail (.tail (.tail .head)));obtain⟨g7,ch,g8,dz⟩:=cg.pubs (.tail (.tail (.tail .head)));obtain⟨g9,ci,ha,d0⟩:=ch.pubs (.tail (.tail .head));obtain⟨hb,cj,hc,d1⟩:=ci.pubs (.tail .head)
 obtain⟨hd,ck,d2,d3⟩:=cj.pubs .head;have a5:=ck.drop (.tail .head);have d4:=dx.nw;have d5:=dy.nw;have d6:=dz.nw;have d7:=d0.nw;have d8:=d1.mono' d2;have cl:=a5.drop .head;cases E;exact LC C O D (I4 (W4 C D a5 O mh II.1 O) LB) O EX ⟨(BO.mk (x:=(⟨q.B,ac,J,an,af,ao,a4⟩:AI)) r2 d4 d5 d6 d7 d8 d3),cl⟩
end Go.Proofs.YtabonambpbofgaaGreat
