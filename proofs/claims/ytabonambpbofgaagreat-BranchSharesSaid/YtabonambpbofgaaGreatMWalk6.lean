import Derived.Test.YtabonambpbofgaaGreatMInst
import Derived.Test.YtabonambpbofgaaGreatMForms
import Derived.Test.YtabonambpbofgaaGreatMSort5
import Derived.Test.YtabonambpbofgaaGreatMCore47
import Derived.Test.YtabonambpbofgaaGreatMSortD
import Derived.Test.YtabonambpbofgaaGreatMWalk1
import Derived.Test.YtabonambpbofgaaGreatMWalk3
import Derived.Test.YtabonambpbofgaaGreatMWalk4
namespace Go.Proofs.YtabonambpbofgaaGreat
set_option linter.all false
open Go.RowKit
open Go.Proofs.Tryz
set_option maxRecDepth 10000
set_option maxHeartbeats 20000000
variable {N:Nat}{S:Nat→Prop}{L:List HP}{h:AO}
def Oq (hs:St S L h) {q:Value}{b:AF}(u:Rd S h BZ q b) {r:Bool}(E:Ie N b=some r):
 CJ prog 80 #[q] S h (λv S' h'=>v= .bool r∧St S' (L) h'):=by
 refine CJ.go 64 func80 O ntmps80 O λB=>?_;rw[Ie] at E;refine AU ?_;refine Cn O u CE O hs λq1 S2 h3 ax e5 k6=>?_;have k8:=k6.fl KC;obtain⟨v9,_,ay⟩:=k8.ll;refine AU ?_;refine AS (λa w=>IV B S2 h3 (64,[]) a w [(1,q1)] (L) λ_ _=>EW N b=some r) ?_ ?_
 ·refine A6 (λn1=>λa w=>∃(s:Int),IV B S2 h3 (64,[]) a w [(9,vI (↑b.Af.length:Int)),(8,v9),(1,q1),(10,vI s)] (L) λ_ _=>AA s∧EV N b (EW N b) n1 s=some r) N ?_ ?_ ?_
  ·intro m p k l;exact⟨0,_,_,k.sub (kp [9,8,1,10] O),l,ax,(BF.refl S2 h3),(iq (n:=0) O),E⟩
  ·rintro m p ⟨_,_,_,_,_,_,_,_,E⟩;rw[EV] at E;cases E
  rintro n1 m p ⟨s,b9,ca,k,l,x,I,cb,E⟩;refine AL ?_ k l;clear k l p m;rw[EV] at E;refine AU ?_;refine AH O E (λaz E=>?_) (λaz E=>?_)
  ·refine AU ?_;refine A4 (AU ?_);have a0:=ay.mono' I;refine BH E O O a0 bA.1 O λcc E cd a1=>?_;obtain⟨ce,_,a2⟩:=a1.lv;refine AU ?_;refine Dp Zk O x λcf cg J a3=>?_;have a4:=a2.mono a3;obtain⟨rfl,⟨ch,a5,a6,a7,a8,a9,ba⟩⟩:=G7.ex a4;refine Eh O O O O Z9.1 O J .head O λci K cj=>AU ?_;refine CW (.inl O) K ?_;have bb:=k6.nw;have bc:=bb.fl Ce;obtain⟨ck,_,be⟩:=bc.ll;have bf:=be.le;refine AU ?_;refine BA E O O O P1 O (λM Q h' o=>Hy (St.all h') a5 (K4 bf) Q) λM E=>AU ?_;obtain⟨U,c,E⟩:=bd E;refine AY 5 26 (.bool U) ?_ ?_
   ·cases V:(!M)
    ·have c:=HM V c;refine AU ?_;refine BA c O O O Js O (λbg W h' o=>Ck (St.all h') a6 W) λbg c=>AU ?_;cases c;exact AZ O
    have c:=HL V c;cases c;exact BE O O
   refine AU ?_;obtain⟨X,d,E⟩:=bd E;refine AY 5 32 (.bool X) ?_ ?_
   ·cases Y:U
    ·have d:=HM Y d;refine AU ?_;refine BA d O O O He O (λbh Z h' o=>CY (St.all h') a7 (iq (n:=0) O) (iq (n:=24) O) Z) λbh d=>AU ?_;cases d;exact AZ O
    have d:=HL Y d;cases d;exact BE O O
   refine AU ?_;obtain⟨ab,g,E⟩:=bd E;refine AY 5 38 (.bool ab) ?_ ?_
   ·cases ac:X
    ·have g:=HM ac g;refine AU ?_;refine BA g O O O He O (λbi ad h' o=>CY (St.all h') a8 (iq (n:=0) O) (iq (n:=1073741824) O) ad) λbi g=>AU ?_;cases g;exact AZ O
    have g:=HL ac g;cases g;exact BE O O
   refine AU ?_;obtain⟨ae,i,E⟩:=bd E;refine AY 5 44 (.bool ae) ?_ ?_
   ·cases af:ab
    ·have i:=HM af i;refine AU ?_;refine BA i O O O Js O (λbj ag h' o=>Ck (St.all h') a9 ag) λbj i=>AU ?_;cases i;exact AZ O
    have i:=HL af i;cases i;exact BE O O
   refine AU ?_;obtain⟨bk,j,E⟩:=bd E;refine AY 5 50 (.bool bk) ?_ ?_
   ·cases ah:ae
    ·have j:=HM ah j;refine AU ?_;refine BA j O O O He O (λbl ai h' o=>CY (St.all h') ba (iq (n:=0) O) (iq (n:=128) O) ai) λbl j=>AU ?_;cases j;exact AZ O
    have j:=HL ah j;cases j;exact BE O O
   refine BW (kp [50,9,8,1,10] O) λcl aj cm=>AH O E (λbm E=>?_) (λbm E=>?_)
   ·exact RT
   refine AU ?_;refine BK (AU ?_);refine WF.nil (λm p k l=>?_);have ak:=aj.drop .head;exact⟨(BO (s+1)),_,_,k.sub (kp [9,8,1,10] O),l,ak,EX,(BT _),E⟩
  refine BL O (λm p k l=>?_);exact⟨_,_,k.sub (kp [1] O),l,x,I,E⟩
 rintro m p ⟨z,A,k,l,am,bn,E⟩;refine AL ?_ k l;clear k l p m;rw[EW] at E;have bo:=k6.mono bn;have bp:=bo.fl Jy;obtain⟨bq,_,br⟩:=bp.ll;refine AU ?_;refine AS (λa w=>IV B z A (64,[]) a w [] (L) λ_ _=>GX N=some r) ?_ ?_
 ·refine A6 (λn3=>λa w=>∃(t:Int),IV B z A (64,[]) a w [(54,vI (↑b.Ak.length:Int)),(53,bq),(55,vI t)] (L) λ_ _=>AA t∧EU N b (GX N) n3 t=some r) N ?_ ?_ ?_
  ·intro m p k l;exact⟨0,_,_,k.sub (kp [54,53,55] O),l,am,(BF.refl z A),(iq (n:=0) O),E⟩
  ·rintro m p ⟨_,_,_,_,_,_,_,_,E⟩;rw[EU] at E;cases E
  rintro n3 m p ⟨t,cn,co,k,l,y,an,cp,E⟩;refine AL ?_ k l;clear k l p m;rw[EU] at E;refine AU ?_;refine AH O E (λbs E=>?_) (λbs E=>?_)
  ·refine AU ?_;refine A4 (AU ?_);have bt:=br.mono' an;refine BH E O O bt aX.1 O λbv E bw ao=>?_;obtain⟨bx,_,ap⟩:=ao.lv;refine AU ?_;refine Dp Zh O y λbz b0 C aq=>?_;have ar:=ap.mono aq;obtain⟨rfl,⟨b1,au⟩⟩:=DM.ex ar;refine Eh O O O O Z6.1 O C .head O λb2 D b3=>AU ?_;refine CW (.inl O) D (AU ?_);refine BA E O O O He O (λav F h' o=>CY (St.all h') au (iq (n:=0) O) (iq (n:=1073741824) O) F) λav E=>AU ?_;refine BW (kp [62,54,53,55] O) λb4 G b5=>AH O E (λaw E=>?_) (λaw E=>?_)
   ·exact RT
   refine AU ?_;refine BK (AU ?_);refine WF.nil (λm p k l=>?_);have H:=G.drop .head;exact⟨(BO (t+1)),_,_,k.sub (kp [54,53,55] O),l,H,EX,(BT _),E⟩
  refine BL O (λm p k l=>?_);exact⟨_,_,k.sub Sa,l,y,an,E⟩
 rintro m p ⟨b6,b7,k,l,bu,b8,E⟩;refine AL ?_ k l;clear k l p m;rw[GX] at E;exact RT
def OG (hs:St S L h) {g:Value}{b:AF}(s:Rd S h BZ g b) {r:Bool}(E:H4 N b=some r):
 CJ prog 81 #[g] S h (λv S' h'=>v= .bool r∧St S' (L) h'):=by
 refine CJ.go 47 func81 O ntmps81 O λB=>?_;rw[H4] at E;refine AU ?_;refine Cn O s CE O hs λq1 S2 h3 ae e5 k6=>?_;have k8:=k6.fl Ki;obtain⟨v9,_,af⟩:=k8.ll;refine AU ?_;refine AS (λa w=>IV B S2 h3 (47,[]) a w [] (L) λ_ _=>GC N=some r) ?_ ?_
 ·refine A6 (λn1=>λa w=>∃(j:Int),IV B S2 h3 (47,[]) a w [(8,vI (↑b.Ah.length:Int)),(7,v9),(1,q1),(9,vI j)] (L) λ_ _=>AA j∧EH N b (GC N) n1 j=some r) N ?_ ?_ ?_
  ·intro x y k m;exact⟨0,_,_,k.sub (kp [8,7,1,9] O),m,ae,(BF.refl S2 h3),(iq (n:=0) O),E⟩
  ·rintro x y ⟨_,_,_,_,_,_,_,_,E⟩;rw[EH] at E;cases E
  rintro n1 x y ⟨j,ba,bb,k,m,t,F,bc,E⟩;refine AL ?_ k m;clear k m y x;rw[EH] at E;refine AU ?_;refine AH O E (λag E=>?_) (λag E=>?_)
  ·refine AU ?_;refine A4 (AU ?_);have ah:=af.mono' F;refine BH E O O ah aZ.1 O λbe E bf ai=>?_;obtain⟨bg,_,aj⟩:=ai.lv;refine AU ?_;refine Dp Zj O t λbh bi G ak=>?_;have am:=aj.mono ak;obtain⟨rfl,⟨bj,an,ao,ap,aq⟩⟩:=Eg.ex am;refine Eh O O O O Z8.1 O G .head O λbk H bl=>AU ?_;refine CW (.inl O) H (AU ?_);refine BA E O O O He O (λI K h' o=>CY (St.all h') an (iq (n:=0) O) (iq (n:=2) O) K) λI E=>AU ?_;obtain⟨M,c,E⟩:=bd E;refine AY 5 22 (.bool M) ?_ ?_
   ·cases Q:(!I)
    ·have c:=HM Q c;refine AU ?_;refine BA c O O O He O (λar U h' o=>CY (St.all h') ap (iq (n:=0) O) (iq (n:=1099511627776) O) U) λar c=>AU ?_;cases c;exact AZ O
    have c:=HL Q c;cases c;exact BE O O
   refine AU ?_;obtain⟨au,d,E⟩:=bd E;refine AY 5 28 (.bool au) ?_ ?_
   ·cases V:M
    ·have d:=HM V d;refine AU ?_;refine BA d O O O He O (λav W h' o=>CY (St.all h') aq (iq (n:=0) O) (iq (n:=1440) O) W) λav d=>AU ?_;cases d;exact AZ O
    have d:=HL V d;cases d;exact BE O O
   refine BW (kp [28,4,8,7,1,9] O) λbm X bn=>AH O E (λaw E=>?_) (λaw E=>?_)
   ·exact RT
   have D:=k6.nw;have ax:=D.fl Ce;obtain⟨bo,_,ay⟩:=ax.ll;have az:=ay.le;have a0:=D.fl Mu;have a1:=a0.i;have a2:=D.fl HG;obtain⟨bp,_,a3⟩:=a2.ll;have a4:=a3.le;refine AU ?_;refine kH (cs:=[vI (↑b.A.length:Int),vI b.J,vI (↑b.C.length:Int)]) sD O O O (AU ?_);refine Dp mW O X λbq br Y bs=>?_;refine Eh O O O O nM.1 O Y .head O λbt u bu=>AU ?_;refine CW (.inr ⟨mo,by kernel_rfl⟩) u (AU ?_);obtain⟨a5,q,E⟩:=bd E;have Z:=vE q;refine sV O O sB Z.1 Z.2 O (kC (l:=([(↑b.A.length:Int),b.J,(↑b.C.length:Int)]:List Int)) (Value.int .i64) PT u O mh O q FE.1 O ?_);have a6:AA a5:=vD (p:=λz=>AA z) (all_cons (K4 az) (all_cons a1 (all_cons (K4 a4) jI))) q;refine BA E O O O P1 O (λa7 ab h' o=>Hy (St.all h') ao a6 ab) λa7 E=>AU ?_;refine BW (kp [45,8,7,1,9] O) λbv ac bw=>AH O E (λa8 E=>?_) (λa8 E=>?_)
   ·exact RT
   refine AU ?_;refine BK (AU ?_);refine WF.nil (λx y k m=>?_);have ad:=ac.sel [] 2 O;exact⟨(BO (j+1)),_,_,k.sub (kp [8,7,1,9] O),m,ad,EX,(BT _),E⟩
  refine BL O (λx y k m=>?_);exact⟨_,_,k.sub Sa,m,t,F,E⟩
 rintro x y ⟨bx,bz,k,m,a9,b0,E⟩;refine AL ?_ k m;clear k m y x;rw[GC] at E;exact RT
def Ot (hs:St S L h) {k:Value}{l:AF}(t:Rd S h BZ k l) {r:Bool}(E:If N l=some r):
 CJ prog 82 #[k] S h (λv S' h'=>v= .bool r∧St S' (L) h'):=by
 refine CJ.go 80 func82 O ntmps82 O λB=>?_;rw[If] at E;refine AU ?_;refine Cn O t CE O hs λq1 S2 h3 ai e5 k6=>?_;have k8:=k6.fl LM;obtain⟨v9,_,aj⟩:=k8.ll;refine AU ?_;refine AS (λa w=>IV B S2 h3 (80,[]) a w [] (L) λ_ _=>GY N=some r) ?_ ?_
 ·refine A6 (λn1=>λa w=>∃(m:Int),IV B S2 h3 (80,[]) a w [(7,vI (↑l.Ai.length:Int)),(6,v9),(1,q1),(8,vI m)] (L) λ_ _=>AA m∧EY N l (GY N) n1 m=some r) N ?_ ?_ ?_
  ·intro x y p q;exact⟨0,_,_,p.sub (kp [7,6,1,8] O),q,ai,(BF.refl S2 h3),(iq (n:=0) O),E⟩
  ·rintro x y ⟨_,_,_,_,_,_,_,_,E⟩;rw[EY] at E;cases E
  rintro n1 x y ⟨m,bm,bn,p,q,u,A,bo,E⟩;refine AL ?_ p q;clear p q y x;rw[EY] at E;refine AU ?_;refine AH O E (λak E=>?_) (λak E=>?_)
  ·refine AU ?_;refine A4 (AU ?_);have am:=aj.mono' A;refine BH E O O am aY.1 O λs E bp an=>?_;obtain⟨bq,_,ao⟩:=an.lv;refine AU ?_;refine Dp Zi O u λbr bs C ap=>?_;have aq:=ao.mono ap;obtain⟨rfl,⟨bt,ar,au,av,aw,ax,ay⟩⟩:=Gr.ex aq;refine Eh O O O O Z7.1 O C .head O λbu D bv=>AU ?_;refine CW (.inl O) D ?_;have F:=k6.nw;have az:=F.fl KC;obtain⟨bw,_,a0⟩:=az.ll;have a1:=a0.le;refine AU ?_;refine BA E O O O P1 O (λG H h' o=>Hy (St.all h') ar (K4 a1) H) λG E=>AU ?_;obtain⟨I,b,E⟩:=bd E;refine AY 12 31 (.bool I) ?_ ?_
   ·cases J:(!G)
    ·have b:=HM J b;refine AU ?_;refine BA b O O O P1 O (λa2 K h' o=>Hy (St.all h') au (BT _) K) λa2 b=>AU ?_;cases b;exact AZ O
    have b:=HL J b;cases b;exact BE O O
   refine AU ?_;obtain⟨Q,c,E⟩:=bd E;refine AY 5 44 (.bool Q) ?_ ?_
   ·cases U:(I||(decide (s.M=s.E)))
    ·have c:=HM U c;refine AU ?_;refine BA c O O O He O (λa3 V h' o=>CY (St.all h') av (iq (n:=1) O) (iq (n:=24) O) V) λa3 c=>AU ?_;cases c;exact AZ O
    have c:=HL U c;cases c;exact BE O O
   refine AU ?_;obtain⟨W,d,E⟩:=bd E;refine AY 5 50 (.bool W) ?_ ?_
   ·cases X:Q
    ·have d:=HM X d;refine AU ?_;refine BA d O O O He O (λa4 Y h' o=>CY (St.all h') aw (iq (n:=0) O) (iq (n:=1073741824) O) Y) λa4 d=>AU ?_;cases d;exact AZ O
    have d:=HL X d;cases d;exact BE O O
   refine AU ?_;obtain⟨a5,g,E⟩:=bd E;refine AY 5 56 (.bool a5) ?_ ?_
   ·cases Z:W
    ·have g:=HM Z g;refine AU ?_;refine BA g O O O Js O (λa6 ab h' o=>Ck (St.all h') ay ab) λa6 g=>AU ?_;cases g;exact AZ O
    have g:=HL Z g;cases g;exact BE O O
   refine BW (kp [56,4,7,6,1,8] O) λbx ac a7=>AH O E (λa8 E=>?_) (λa8 E=>?_)
   ·exact RT
   refine AU ?_;refine CW (.inl O) ac (AU ?_);obtain⟨a9,i,E⟩:=bd E;refine AY 13 78 (.bool a9) ?_ ?_
   ·cases ad:((decide (s.Bi=(-1)))&&(decide (s.Bk≠0)))
    ·have i:=HM ad i;refine AU ?_;obtain⟨ba,j,i⟩:=bd i;refine AY 8 77 (.bool ba) ?_ ?_
     ·cases ae:(decide (s.Bi≠(-1)))
      ·have j:=HM ae j;cases j;exact BE O O
      have j:=HL ae j;have bb:=F.mono a7;have bc:=bb.fl Ce;obtain⟨bz,_,be⟩:=bc.ll;have bf:=be.le;refine AU ?_;refine BA j O O O P1 O (λbg af h' o=>Hy (St.all h') ax (K4 bf) af) λbg j=>AU ?_;cases j;exact AZ O
     refine AU ?_;cases i;exact AZ O
    have i:=HL ad i;cases i;exact BE O O
   refine BW (kp [78,7,6,1,8] O) λb0 ag bi=>AH O E (λah E=>?_) (λah E=>?_)
   ·exact RT
   refine AU ?_;refine BK (AU ?_);refine WF.nil (λx y p q=>?_);have z:=ag.drop .head;exact⟨(BO (m+1)),_,_,p.sub (kp [7,6,1,8] O),q,z,EX,(BT _),E⟩
  refine BL O (λx y p q=>?_);exact⟨_,_,p.sub Sa,q,u,A,E⟩
 rintro x y ⟨bj,bk,p,q,bh,bl,E⟩;refine AL ?_ p q;clear p q y x;rw[GY] at E;exact RT
def N4 (hs:St S L h) {m:Value}{q:AF}(n:Rd S h BZ m q) {r:Bool}(E:Gg N q=some r):
 CJ prog 37 #[m] S h (λv S' h'=>v= .bool r∧St S' (L) h'):=by
 refine CJ.go 37 func37 O ntmps37 O λB=>?_;rw[Gg] at E;refine AU ?_;refine Cn O n CE O hs λq1 S2 h3 l e5 p=>AU ?_;refine CW (.inl O) l ?_;obtain⟨v7,_,k8⟩:=p.lv;refine AU ?_;refine BA E O O O wI O (λy9 Z h' o=>PW (St.all h') (k8.mono (o.all l.1)) Z) λy9 E=>AU ?_;obtain⟨s,a,E⟩:=bd E;refine AY 3 8 (.bool s) ?_ ?_
 ·cases t:y9
  ·have a:=HM t a;cases a;exact BE O O
  have a:=HL t a;obtain⟨au,_,aa⟩:=p.lv;refine AU ?_;refine BA a O O O wH O (λab u h' o=>Ou (St.all h') (aa.mono (o.all l.1)) u) λab a=>AU ?_;cases a;exact AZ O
 refine AU ?_;obtain⟨w,b,E⟩:=bd E;refine AY 3 12 (.bool w) ?_ ?_
 ·cases x:s
  ·have b:=HM x b;cases b;exact BE O O
  have b:=HL x b;obtain⟨av,_,ac⟩:=p.lv;refine AU ?_;refine BA b O O O wF O (λad y h' o=>OF (St.all h') (ac.mono (o.all l.1)) y) λad b=>AU ?_;cases b;exact AZ O
 refine AU ?_;obtain⟨z,c,E⟩:=bd E;refine AY 3 16 (.bool z) ?_ ?_
 ·cases A:w
  ·have c:=HM A c;cases c;exact BE O O
  have c:=HL A c;obtain⟨aw,_,ae⟩:=p.lv;refine AU ?_;refine BA c O O O wE O (λaf C h' o=>Ov (St.all h') (ae.mono (o.all l.1)) C) λaf c=>AU ?_;cases c;exact AZ O
 refine AU ?_;obtain⟨D,d,E⟩:=bd E;refine AY 3 20 (.bool D) ?_ ?_
 ·cases F:z
  ·have d:=HM F d;cases d;exact BE O O
  have d:=HL F d;obtain⟨ax,_,ag⟩:=p.lv;refine AU ?_;refine BA d O O O wD O (λah G h' o=>Nr (St.all h') (ag.mono (o.all l.1)) G) λah d=>AU ?_;cases d;exact AZ O
 refine AU ?_;obtain⟨H,g,E⟩:=bd E;refine AY 3 24 (.bool H) ?_ ?_
 ·cases I:D
  ·have g:=HM I g;cases g;exact BE O O
  have g:=HL I g;obtain⟨ay,_,ai⟩:=p.lv;refine AU ?_;refine BA g O O O wC O (λaj J h' o=>OE (St.all h') (ai.mono (o.all l.1)) J) λaj g=>AU ?_;cases g;exact AZ O
 refine AU ?_;obtain⟨K,i,E⟩:=bd E;refine AY 3 28 (.bool K) ?_ ?_
 ·cases M:H
  ·have i:=HM M i;cases i;exact BE O O
  have i:=HL M i;obtain⟨az,_,ak⟩:=p.lv;refine AU ?_;refine BA i O O O wB O (λal Q h' o=>Oq (St.all h') (ak.mono (o.all l.1)) Q) λal i=>AU ?_;cases i;exact AZ O
 refine AU ?_;obtain⟨U,j,E⟩:=bd E;refine AY 3 32 (.bool U) ?_ ?_
 ·cases V:K
  ·have j:=HM V j;cases j;exact BE O O
  have j:=HL V j;obtain⟨a0,_,am⟩:=p.lv;refine AU ?_;refine BA j O O O wA O (λan W h' o=>OG (St.all h') (am.mono (o.all l.1)) W) λan j=>AU ?_;cases j;exact AZ O
 refine AU ?_;obtain⟨ao,k,E⟩:=bd E;refine AY 3 36 (.bool ao) ?_ ?_
 ·cases X:U
  ·have k:=HM X k;cases k;exact BE O O
  have k:=HL X k;obtain⟨a1,_,ap⟩:=p.lv;refine AU ?_;refine BA k O O O vZ O (λaq Y h' o=>Ot (St.all h') (ap.mono (o.all l.1)) Y) λaq k=>AU ?_;cases k;exact AZ O
 refine AU ?_;exact BW (kp [2] O) λa2 ar a3=>RT
def Ob (z:St S L h) {b:Value}{c:(List Int)}(i:Sl S h AB b c) {r:Bool}(E:I5 N c=some r):
 CJ prog 204 #[b] S h (λv S' h'=>v= .bool r∧St S' (L) h'):=by
 refine CJ.go 24 func204 O ntmps204 O λB=>?_;rw[I5] at E;refine AU ?_;refine AS (λa w=>IV B S h (24,[]) a w [] (L) λ_ _=>HN N=some r) ?_ ?_
 ·refine A6 (λx=>λa w=>∃(o:Int) (p:Int),IV B S h (24,[]) a w [(7,vI (↑c.length:Int)),(6,b),(3,vI o),(8,vI p)] (L) λ_ _=>AA o∧AA p∧E9 N c (HN N) x o p=some r) N ?_ ?_ ?_
  ·intro k l d g;exact⟨0,0,_,_,d.sub (kp [7,6,3,8] O),g,z,(BF.refl S h),(iq (n:=0) O),(iq (n:=0) O),E⟩
  ·rintro k l ⟨_,_,_,_,_,_,_,_,_,_,E⟩;rw[E9] at E;cases E
  rintro x k l ⟨o,p,A,C,d,g,j,m,J,K,E⟩;refine AL ?_ d g;clear d g l k;rw[E9] at E;refine AU ?_;refine AH O E (λq E=>?_) (λq E=>?_)
  ·refine AU ?_;refine A4 (AU ?_);have s:=i.mono' m;refine BH E O O s CQ.1 O λt E D F=>AU ?_;refine AH O E (λu E=>?_) (λu E=>?_)
   ·exact RT
   refine AU ?_;refine BK (AU ?_);refine WF.nil (λk l d g=>?_);exact⟨(BO (o+t)),(BO (p+1)),_,_,d.sub (kp [7,6,3,8] O),g,j,m,(BT _),(BT _),E⟩
  refine BL O (λk l d g=>?_);exact⟨_,_,d.sub Sa,g,j,m,E⟩
 rintro k l ⟨G,H,d,g,y,I,E⟩;refine AL ?_ d g;clear d g l k;rw[HN] at E;exact RT
def Oc (k:St S L h) {c:Value}{d:(List Int)}(g:Sl S h AB c d) {a:Int}(i:AA a) {r:Bool}(E:KE N d a=some r):
 CJ prog 156 #[c,vI a] S h (λv S' h'=>v= .bool r∧St S' (L) h'):=by
 refine CJ.go 21 func156 O ntmps156 O λB=>?_;rw[KE] at E;refine AU ?_;refine CW (.inl O) k (AU ?_);obtain⟨m,b,E⟩:=bd E;refine AY 3 20 (.bool m) ?_ ?_
 ·cases l:(((decide (0≤a))&&(decide (a≤16)))&&(decide ((↑d.length:Int)=a)))
  ·have b:=HM l b;cases b;exact BE O O
  have b:=HL l b;refine AU ?_;refine BA b O O O dU O (λn j h' o=>Ob (St.all h') (g.mono' (o.all k.1)) j) λn b=>AU ?_;cases b;exact AZ O
 refine AU ?_;exact BW (kp [4] O) λs p q=>RT
def Ka (j:St S L h) {a:Int}(c:AA a) {b:Int}(d:AA b) {r:Int}(E:Hn N a b=some r):
 CJ prog 63 #[vI a,vI b] S h (λv S' h'=>v=vI r∧AA r∧St S' (L) h'):=by
 refine CJ.go 24 func63 O ntmps63 O λB=>?_;rw[Hn] at E;refine AU ?_;refine AH O E (λg E=>?_) (λg E=>?_)
 ·exact RT
 refine AU ?_;refine AH O E (λi E=>?_) (λi E=>?_)
 ·exact RT
 exact RT
def GZ (K:St S L h) {b:Value}{c:(List Int)}(k:Sl S h AB b c) {r:Int}(E:Es N c=some r):
 CJ prog 31 #[b] S h (λv S' h'=>v=vI r∧AA r∧St S' (L) h'):=by
 refine CJ.go 17 func31 O ntmps31 O λB=>?_;rw[Es] at E;refine AU ?_;refine AS (λa w=>∃(y:Int),IV B S h (17,[]) a w [(3,vI y)] (L) λ_ _=>AA y∧I0 N y=some r) ?_ ?_
 ·refine A6 (λH=>λa w=>∃(q:Int) (d:Int),IV B S h (17,[]) a w [(7,vI (↑c.length:Int)),(6,b),(3,vI q),(8,vI d)] (L) λ_ _=>AA q∧AA d∧HO N c (I0 N) H q d=some r) N ?_ ?_ ?_
  ·intro m p g j;exact⟨0,0,_,_,g.sub (kp [7,6,3,8] O),j,K,(BF.refl S h),(iq (n:=0) O),(iq (n:=0) O),E⟩
  ·rintro m p ⟨_,_,_,_,_,_,_,_,_,_,E⟩;rw[HO] at E;cases E
  rintro H m p ⟨q,d,M,Q,g,j,l,s,I,U,E⟩;refine AL ?_ g j;clear g j p m;rw[HO] at E;refine AU ?_;refine AH O E (λz E=>?_) (λz E=>?_)
  ·refine AU ?_;refine A4 (AU ?_);have A:=k.mono' s;refine BH E O O A CQ.1 O λV E W C=>?_;have D:=C.i;refine AU ?_;refine CW (.inl O) l (AU ?_);refine DF E O O O WG O (λt u h' o=>Ka (St.all h') I D u) λt E F=>?_;have G:=F;refine AU ?_;refine BW (kp [3,7,6,8] O) λX x Y=>BK (AU ?_);refine WF.nil (λm p g j=>?_);exact⟨t,(BO (d+1)),_,_,g.sub (kp [7,6,3,8] O),j,x,EX,G,(BT _),E⟩
  refine BL O (λm p g j=>?_);exact⟨q,_,_,g.sub (kp [3] O),j,l,s,I,E⟩
 rintro m p ⟨y,Z,ab,g,j,J,ac,r3,E⟩;refine AL ?_ g j;clear g j p m;rw[I0] at E;exact RT
def Hk (g:St S L h) {b:Int}(d:AA b) {a:Int}(c:AA a) {r:Bool}(E:G8 N b a=some r):
 CJ prog 113 #[vI b,vI a] S h (λv S' h'=>v= .bool r∧St S' (L) h'):=by
 refine CJ.go 12 func113 O ntmps113 O λB=>?_;rw[G8] at E;exact RT
def Rl (hs:St S L h) {p:Value}{j:AF}(F:Rd S h BZ p j) {q:Value}{i:AN}(H:Rd S h B3 q i) {r:Int×Bool}(E:KV N j i=some r):
 CJ prog 83 #[p,q] S h (λv S' h'=>v= .tuple #[vI r.1,.bool r.2]∧AA r.1∧St S' (L) h'):=by
 refine CJ.go 76 func83 O ntmps83 O λB=>?_;rw[KV] at E;refine AU ?_;refine Cn O F CE O hs λq1 S2 h3 bg e5 k6=>?_;have k7:=H.mono e5;refine Cn O k7 CE O bg λq8 S9 Y aj cr ak=>?_;have bh:=ak.fl Qo;obtain⟨bi,_,bj⟩:=bh.ll;refine AU ?_;refine AS (λa w=>∃(u:Int),IV B S9 Y (76,[]) a w [(3,q8),(2,q1),(6,vI u)] (L) λ_ _=>AA u∧Fx N j i u=some r) ?_ ?_
 ·refine A6 (λn1=>λa w=>∃(s:Int) (x:Int),IV B S9 Y (76,[]) a w [(14,vI (↑i.G.length:Int)),(13,bi),(3,q8),(2,q1),(6,vI s),(15,vI x)] (L) λ_ _=>AA s∧AA x∧Fw N j i (Fx N j i) n1 s x=some r) N ?_ ?_ ?_
  ·intro k l b g;exact⟨0,0,_,_,b.sub (kp [14,13,3,2,6,15] O),g,aj,(BF.refl S9 Y),(iq (n:=0) O),(iq (n:=0) O),E⟩
  ·rintro k l ⟨_,_,_,_,_,_,_,_,_,_,E⟩;rw[Fw] at E;cases E
  rintro n1 k l ⟨s,x,cs,ct,b,g,y,am,bk,cu,E⟩;refine AL ?_ b g;clear b g l k;rw[Fw] at E;refine AU ?_;refine AH O E (λbl E=>?_) (λbl E=>?_)
  ·refine AU ?_;refine A4 (AU ?_);have bm:=bj.mono' am;refine BH E O O bm Jl.1 O λcv E cw bn=>?_;obtain⟨cx,_,an⟩:=bn.ll;refine AU ?_;refine CW (.inl O) y ?_;have bo:=k6.nw;have bp:=bo.fl H0;obtain⟨cy,_,bq⟩:=bp.ll;have br:=bq.le;refine AU ?_;refine BA E O O O eG O (λbs ao h' o=>Oc (St.all h') (an.mono' (o.all y.1)) (K4 br) ao) λbs E=>AU ?_;refine BW (kp [24,8,14,13,3,2,6,15] O) λcz z bt=>AH O E (λbu E=>?_) (λbu E=>?_)
   ·refine AU ?_;refine CI (λk l b g=>?_);cases E;exact Kv b O g (Io (Jk b (v:=_) O) (Io (Jk b (v:=_) O) Ku)) O EX ⟨O,(iq (n:=0) O),z⟩
   refine AU ?_;refine CW (.inl O) z (AU ?_);have bv:=an.mono' bt;refine DF E O O O Pd O (λap aq h' o=>GZ (St.all h') (bv.mono' (o.all z.1)) aq) λap E bw=>?_;have c0:=bw;refine AU ?_;refine BW (kp [6,14,13,3,2,15] O) λc1 K c2=>AU ?_;refine AH O E (λbx E=>?_) (λbx E=>?_)
   ·refine AU ?_;refine CI (λk l b g=>?_);cases E;exact Kv b O g (Io (Jk b (v:=_) O) (Io (Jk b (v:=_) O) Ku)) O EX ⟨O,(iq (n:=0) O),K⟩
   refine AU ?_;refine BK (AU ?_);refine WF.nil (λk l b g=>?_);exact⟨(BO (s+ap)),(BO (x+1)),_,_,b.sub (kp [14,13,3,2,6,15] O),g,K,EX,(BT _),(BT _),E⟩
  refine BL O (λk l b g=>?_);exact⟨s,_,_,b.sub (kp [3,2,6] O),g,y,am,bk,E⟩
 rintro k l ⟨u,Z,ab,b,g,ar,bz,b0,E⟩;refine AL ?_ b g;clear b g l k;rw[Fx] at E;have au:=ak.mono bz;have b1:=au.fl O5;obtain⟨b2,_,b3⟩:=b1.ll;refine AU ?_;refine AS (λa w=>∃(J:Int),IV B Z ab (76,[]) a w [(6,vI J)] (L) λ_ _=>AA J∧IM N J=some r) ?_ ?_
 ·refine A6 (λn3=>λa w=>∃(t:Int) (A:Int),IV B Z ab (76,[]) a w [(34,vI (↑i.I.length:Int)),(33,b2),(3,q8),(2,q1),(6,vI t),(35,vI A)] (L) λ_ _=>AA t∧AA A∧Gt N j i (IM N) n3 t A=some r) N ?_ ?_ ?_
  ·intro k l b g;exact⟨u,0,_,_,b.sub (kp [34,33,3,2,6,35] O),g,ar,(BF.refl Z ab),b0,(iq (n:=0) O),E⟩
  ·rintro k l ⟨_,_,_,_,_,_,_,_,_,_,E⟩;rw[Gt] at E;cases E
  rintro n3 k l ⟨t,A,c3,c4,b,g,M,av,b4,c5,E⟩;refine AL ?_ b g;clear b g l k;rw[Gt] at E;refine AU ?_;refine AH O E (λb5 E=>?_) (λb5 E=>?_)
  ·refine AU ?_;refine A4 (AU ?_);have b6:=b3.mono' av;refine BH E O O b6 QI.1 O λb7 E c6 b8=>?_;obtain⟨c7,_,b9⟩:=b8.lv;refine AU ?_;refine Dp WY O M λc8 c9 aw ca=>?_;have cb:=b9.mono ca;obtain⟨cd,rfl,ce,ax,Q⟩:=AX.ex cb;refine JZ O O O ON We.1 O aw .head O λcf C ay=>AU ?_;refine CW (.inl O) C ?_;have cg:=au.nw;refine AU ?_;obtain⟨U,c,E⟩:=bd E;refine AY 8 52 (.bool U) ?_ ?_
   ·cases V:(decide (b7.Ba<i.B))
    ·have c:=HM V c;have az:=k6.nw;have a0:=az.fl Ce;obtain⟨ch,_,a1⟩:=a0.ll;have a2:=a1.le;refine AU ?_;refine BA c O O O Oi O (λa3 ac h' o=>Hk (St.all h') ax (K4 a2) ac) λa3 c=>AU ?_;cases c;exact AZ O
    have c:=HL V c;cases c;exact BE O O
   refine AU ?_;obtain⟨a4,d,E⟩:=bd E;refine AY 8 61 (.bool a4) ?_ ?_
   ·cases W:U
    ·have d:=HM W d;have a5:=k6.nw;have a6:=a5.fl H0;obtain⟨ci,_,a7⟩:=a6.ll;have a8:=a7.le;refine AU ?_;have a9:=Q.mono' ay;refine BA d O O O eG O (λba ad h' o=>Oc (St.all h') (a9.mono' (o.all C.1)) (K4 a8) ad) λba d=>AU ?_;cases d;exact AZ O
    have d:=HL W d;cases d;exact BE O O
   refine BW (kp [61,10,34,33,3,2,6,35] O) λcj m ck=>AH O E (λbb E=>?_) (λbb E=>?_)
   ·refine AU ?_;refine CI (λk l b g=>?_);have ae:=m.drop .head;cases E;exact Kv b O g (Io (Jk b (v:=_) O) (Io (Jk b (v:=_) O) Ku)) O EX ⟨O,(iq (n:=0) O),ae⟩
   refine AU ?_;refine CW (.inl O) m (AU ?_);have bc:=Q.nw;refine DF E O O O Pd O (λX af h' o=>GZ (St.all h') (bc.mono' (o.all m.1)) af) λX E be=>?_;have cl:=be;refine AU ?_;refine BW (kp [11,34,33,3,2,6,35] O) λcm D cn=>AU ?_;refine AH O E (λbf E=>?_) (λbf E=>?_)
   ·refine AU ?_;refine CI (λk l b g=>?_);have ag:=D.drop .head;cases E;exact Kv b O g (Io (Jk b (v:=_) O) (Io (Jk b (v:=_) O) Ku)) O EX ⟨O,(iq (n:=0) O),ag⟩
   refine AU ?_;refine BK (AU ?_);refine WF.nil (λk l b g=>?_);have ah:=D.drop .head;exact⟨(BO (t+X)),(BO (A+1)),_,_,b.sub (kp [34,33,3,2,6,35] O),g,ah,EX,(BT _),(BT _),E⟩
  refine BL O (λk l b g=>?_);exact⟨t,_,_,b.sub (kp [6] O),g,M,av,b4,E⟩
 rintro k l ⟨J,co,cp,b,g,ai,cq,cc,E⟩;refine AL ?_ b g;clear b g l k;rw[IM] at E;refine AU ?_;refine CI (λk l b g=>?_);cases E;exact Kv b O g (Io (Jk b (v:=_) O) (Io (Jk b (v:=_) O) Ku)) O EX ⟨O,cc,ai⟩
def NN (F:St S L h) {c:Value}{i:(List Int)}(l:Sl S h AB c i) {b:Int}(q:AA b) {r:Int×Bool}(E:JO N i b=some r):
 CJ prog 84 #[c,vI b] S h (λv S' h'=>v= .tuple #[vI r.1,.bool r.2]∧AA r.1∧St S' (L) h'):=by
 refine CJ.go 29 func84 O ntmps84 O λB=>?_;rw[JO] at E;refine AU ?_;refine AS (λa w=>∃(u:Int),IV B S h (29,[]) a w [(6,vI u)] (L) λ_ _=>AA u∧Hr N u=some r) ?_ ?_
 ·refine A6 (λD=>λa w=>∃(s:Int) (j:Int),IV B S h (29,[]) a w [(10,vI (↑i.length:Int)),(9,c),(1,vI b),(6,vI s),(11,vI j)] (L) λ_ _=>AA s∧AA j∧GP N i b (Hr N) D s j=some r) N ?_ ?_ ?_
  ·intro m o d g;exact⟨0,0,_,_,d.sub (kp [10,9,1,6,11] O),g,F,(BF.refl S h),(iq (n:=0) O),(iq (n:=0) O),E⟩
  ·rintro m o ⟨_,_,_,_,_,_,_,_,_,_,E⟩;rw[GP] at E;cases E
  rintro D m o ⟨s,j,G,H,d,g,k,p,I,J,E⟩;refine AL ?_ d g;clear d g o m;rw[GP] at E;refine AU ?_;refine AH O E (λx E=>?_) (λx E=>?_)
  ·refine AU ?_;refine A4 (AU ?_);have y:=l.mono' p;refine BH E O O y CQ.1 O λz E K M=>AU ?_;refine AH O E (λA E=>?_) (λA E=>?_)
   ·refine AU ?_;refine CI (λm o d g=>?_);cases E;exact Kv d O g (Io (Jk d (v:=_) O) (Io (Jk d (v:=_) O) Ku)) O p ⟨O,(iq (n:=0) O),k⟩
   refine AU ?_;refine BK (AU ?_);refine WF.nil (λm o d g=>?_);exact⟨(BO (s+z)),(BO (j+1)),_,_,d.sub (kp [10,9,1,6,11] O),g,k,p,(BT _),(BT _),E⟩
  refine BL O (λm o d g=>?_);exact⟨s,_,_,d.sub (kp [6] O),g,k,p,I,E⟩
 rintro m o ⟨u,Q,U,d,g,t,C,V,E⟩;refine AL ?_ d g;clear d g o m;rw[Hr] at E;refine AU ?_;refine CI (λm o d g=>?_);cases E;exact Kv d O g (Io (Jk d (v:=_) O) (Io (Jk d (v:=_) O) Ku)) O C ⟨O,V,t⟩
def OR (hs:St S L h) {p:Value}{c:AF}(F:Rd S h BZ p c) {q:Value}{d:AN}(G:Rd S h B3 q d) {r:Bool}(E:KD N c d=some r):
 CJ prog 38 #[p,q] S h (λv S' h'=>v= .bool r∧St S' (L) h'):=by
 refine CJ.go 168 func38 O ntmps38 O λB=>?_;rw[KD] at E;refine AU ?_;refine Cn O F CE O hs λq1 S2 h3 b5 e5 k6=>?_;have k7:=G.mono e5;refine Cn O k7 CE O b5 λq8 S9 V ak s W=>?_;have en:=k6.mono s;have eo:=k6.mono s;have ep:=k6.mono s;have eq:=k6.mono s;have er:=k6.mono s;refine AU ?_;refine AH O E (λb6 E=>?_) (λb6 E=>?_)
 ·exact RT
 have am:=k6.mono s;have b7:=am.fl Ce;obtain⟨b8,_,b9⟩:=b7.ll;refine AU ?_;refine AS (λa w=>IV B S9 V (168,[]) a w [(3,q8),(2,q1)] (L) λ_ _=>Gp N c d=some r) ?_ ?_
 ·refine A6 (λn1=>λa w=>∃(t:Int),IV B S9 V (168,[]) a w [(68,vI (↑c.A.length:Int)),(67,b8),(3,q8),(2,q1),(69,vI t)] (L) λ_ _=>AA t∧Gm N c d (Gp N c d) n1 t=some r) N ?_ ?_ ?_
  ·intro k l g i;exact⟨0,_,_,g.sub (kp [68,67,3,2,69] O),i,ak,(BF.refl S9 V),(iq (n:=0) O),E⟩
  ·rintro k l ⟨_,_,_,_,_,_,_,_,E⟩;rw[Gm] at E;cases E
  rintro n1 k l ⟨t,es,eu,g,i,H,an,ev,E⟩;refine AL ?_ g i;clear g i l k;rw[Gm] at E;refine AU ?_;refine AH O E (λca E=>?_) (λca E=>?_)
  ·refine AU ?_;refine A4 (AU ?_);have cb:=b9.mono' an;refine BH E O O cb Mx.1 O λew E ey ao=>?_;obtain⟨cd,_,ap⟩:=ao.lv;refine AU ?_;refine Dp Pk O H λce cf X aq=>AU ?_;have ar:=ap.mono aq;obtain⟨cg,ch,ci,rfl,cj,ck,cl,cm,cn,co,cp,cq,cr,cs,ct,cu⟩:=BY.ex ar;refine JZ O O O ON Po.1 O X .head O λcv Y cw=>AU ?_;refine H7 (.inr ⟨mo,by kernel_rfl⟩) ?_;have I:=W.nw;have au:=I.fl Ny;obtain⟨cx,_,av⟩:=au.ll;refine AU ?_;refine BH E O O av CQ.1 O λaw E cy cz=>AU ?_;obtain⟨ax,b,E⟩:=bd E;refine AY 11 91 (.bool ax) ?_ ?_
   ·cases J:(decide (aw<0))
    ·have b:=HM J b;have ay:=I.fl Ny;obtain⟨c0,_,az⟩:=ay.ll;refine AU ?_;refine BH b O O az CQ.1 O λc1 b c2 c3=>AU ?_;refine RI O O O (AU ?_);cases b;exact AZ O
    have b:=HL J b;cases b;exact BE O O
   refine AU ?_;refine AH O E (λa0 E=>?_) (λa0 E=>?_)
   ·exact RT
   refine AU ?_;refine BK (AU ?_);refine WF.nil (λk l g i=>?_);have Z:=Y.drop .head;exact⟨(BO (t+1)),_,_,g.sub (kp [68,67,3,2,69] O),i,Z,EX,(BT _),E⟩
  refine BL O (λk l g i=>?_);exact⟨_,_,g.sub (kp [3,2] O),i,H,an,E⟩
 rintro k l ⟨u,x,g,i,ab,a1,E⟩;refine AL ?_ g i;clear g i l k;rw[Gp] at E;have K:=am.mono a1;have a2:=K.fl HG;obtain⟨a3,_,a4⟩:=a2.ll;refine AU ?_;refine AS (λa w=>IV B u x (168,[]) a w [(3,q8),(2,q1)] (L) λ_ _=>Gn N c d=some r) ?_ ?_
 ·refine A6 (λn3=>λa w=>∃(j:Int),IV B u x (168,[]) a w [(95,vI (↑c.C.length:Int)),(94,a3),(3,q8),(2,q1),(96,vI j)] (L) λ_ _=>AA j∧Gl N c d (Gn N c d) n3 j=some r) N ?_ ?_ ?_
  ·intro k l g i;exact⟨0,_,_,g.sub (kp [95,94,3,2,96] O),i,ab,(BF.refl u x),(iq (n:=0) O),E⟩
  ·rintro k l ⟨_,_,_,_,_,_,_,_,E⟩;rw[Gl] at E;cases E
  rintro n3 k l ⟨j,c4,c5,g,i,y,M,c6,E⟩;refine AL ?_ g i;clear g i l k;rw[Gl] at E;refine AU ?_;refine AH O E (λa5 E=>?_) (λa5 E=>?_)
  ·refine AU ?_;refine A4 (AU ?_);have a6:=a4.mono' M;refine BH E O O a6 N2.1 O λc7 E c8 a7=>?_;obtain⟨c9,_,a8⟩:=a7.lv;refine AU ?_;refine Dp OI O y λda db ac a9=>AU ?_;have ba:=a8.mono a9;obtain⟨dc,dd,de,rfl,df,dg,dh,di,dj,dk,dl,dm,dn,dp,dq,dr,ds,dt,du,dv,dw,dx⟩:=B8.ex ba;refine JZ O O O ON OM.1 O ac .head O λdy ad dz=>?_;have bb:=W.nw;have bc:=bb.fl O6;obtain⟨d0,_,be⟩:=bc.ll;refine AU ?_;refine BH E O O be Pb.1 O λd1 E d2 bf=>?_;obtain⟨d3,_,bg⟩:=bf.lv;refine AU ?_;refine Dp SD O ad λd4 d5 ae bh=>?_;have bi:=bg.mono bh;obtain⟨rfl,⟨d6,d7⟩⟩:=BQ.ex bi;refine Eh O O O O Ip.1 O ae .head O λd8 af d9=>AU ?_;refine AH O E (λbj E=>?_) (λbj E=>?_)
   ·exact RT
   refine AU ?_;refine AH O E (λbk E=>?_) (λbk E=>?_)
   ·exact RT
   refine AU ?_;refine BK (AU ?_);refine WF.nil (λk l g i=>?_);have ag:=af.sel [] 2 O;exact⟨(BO (j+1)),_,_,g.sub (kp [95,94,3,2,96] O),i,ag,EX,(BT _),E⟩
  refine BL O (λk l g i=>?_);exact⟨_,_,g.sub (kp [3,2] O),i,y,M,E⟩
 rintro k l ⟨ea,eb,g,i,m,bl,E⟩;refine AL ?_ g i;clear g i l k;rw[Gn] at E;refine AU ?_;refine CW (.inl O) m ?_;have bm:=K.mono bl;obtain⟨ec,_,bn⟩:=bm.lv;have Q:=W.nw;obtain⟨ed,_,bo⟩:=Q.lv;refine AU ?_;refine DF E O O O vY O (λbp ah h' o=>Rl (St.all h') (bn.mono (o.all m.1)) (bo.mono (o.all m.1)) ah) λbp E bq=>?_;have ee:=bq;refine AU ?_;refine BW (kp [11,10,3] O) λef z br=>AU ?_;refine AH O E (λbs E=>?_) (λbs E=>?_)
 ·exact RT
 refine AU ?_;refine CW (.inl O) z ?_;have U:=Q.mono br;have bt:=U.fl AN.f_In;obtain⟨eg,_,bu⟩:=bt.ll;refine AU ?_;refine DF E O O O mJ O (λbv ai h' o=>NN (St.all h') (bu.mono' (o.all z.1)) (iq (n:=1152921504606846976) O) ai) λbv E bw=>?_;have eh:=bw;refine AU ?_;refine BW (kp [11,12,10,3] O) λei D bx=>AU ?_;refine AH O E (λbz E=>?_) (λbz E=>?_)
 ·exact RT
 refine AU ?_;refine CW (.inl O) D ?_;have b0:=U.mono bx;have b1:=b0.fl Qp;obtain⟨ej,_,b2⟩:=b1.ll;refine AU ?_;refine DF E O O O mJ O (λb3 aj h' o=>NN (St.all h') (b2.mono' (o.all D.1)) (BT _) aj) λb3 E b4=>?_;have ek:=b4;refine AU ?_;exact BW (kp [11] O) λel cc em=>RT
def MN (k:St S L h) {b:Value}{c:(List (List Int))}(a:Sl S h (A5.sl AB) b c) {r:(List (List Int))}(E:GG N c=some r):
 CJ prog 132 #[b] S h (λv S' h'=>St S' (OS (A5.sl AB) 29 v r::L) h'):=by
 refine CJ.go 8 func132 O ntmps132 O λB=>?_;rw[GG] at E;rcases a.cases with ⟨rfl,rfl⟩|⟨n,m,rfl,a⟩
 ·have s:(some ([]:List (List Int)))=some r:=by simpa [chk,HJ] using E
  refine AU ?_;refine JD O O O Zu (AU ?_);refine J7 O (AU ?_);have d:=k.nil (A5.sl AB) 29;cases E;exact Fp d O O EX
 refine AU ?_;refine J9 O O O Zu (AU ?_);refine J8 O (AU ?_);refine KB (r:=(A5.sl AB)) V9 O O k λv1 t g o=>AU ?_;have p:=a.mono' o;obtain⟨i,E⟩:=LX E;refine GU (r:=(A5.sl AB)) (l:=([]:List (List Int))) (xs:=c) O O V9 O (Sl.src p) O i O g (λ_=> .head) λu w j q=>AU ?_;cases E;exact Fp j O O EX
def Iw (k:St S L h) {b:Value}{c:(List AV)}(a:Sl S h AX b c) {r:(List AV)}(E:Cq N c=some r):
 CJ prog 133 #[b] S h (λv S' h'=>St S' (OS AX 103 v r::L) h'):=by
 refine CJ.go 8 func133 O ntmps133 O λB=>?_;rw[Cq] at E;rcases a.cases with ⟨rfl,rfl⟩|⟨n,m,rfl,a⟩
 ·have s:(some ([]:List AV))=some r:=by simpa [chk,HJ] using E
  refine AU ?_;refine JD O O O Zt (AU ?_);refine J7 O (AU ?_);have d:=k.nil AX 103;cases E;exact Fp d O O EX
 refine AU ?_;refine J9 O O O Zt (AU ?_);refine J8 O (AU ?_);refine KB (r:=AX) Rb O O k λv1 t g o=>AU ?_;have p:=a.mono' o;obtain⟨i,E⟩:=LX E;refine GU (r:=AX) (l:=([]:List AV)) (xs:=c) O O Rb O (Sl.src p) O i O g (λ_=> .head) λu w j q=>AU ?_;cases E;exact Fp j O O EX
def GE (k:St S L h) {b:Value}{c:(List A0)}(a:Sl S h BQ b c) {r:(List A0)}(E:BR N c=some r):
 CJ prog 112 #[b] S h (λv S' h'=>St S' (OS BQ 107 v r::L) h'):=by
 refine CJ.go 8 func112 O ntmps112 O λB=>?_;rw[BR] at E;rcases a.cases with ⟨rfl,rfl⟩|⟨n,m,rfl,a⟩
 ·have s:(some ([]:List A0))=some r:=by simpa [chk,HJ] using E
  refine AU ?_;refine JD O O O Zs (AU ?_);refine J7 O (AU ?_);have d:=k.nil BQ 107;cases E;exact Fp d O O EX
 refine AU ?_;refine J9 O O O Zs (AU ?_);refine J8 O (AU ?_);refine KB (r:=BQ) dF O O k λv1 t g o=>AU ?_;have p:=a.mono' o;obtain⟨i,E⟩:=LX E;refine GU (r:=BQ) (l:=([]:List A0)) (xs:=c) O O dF O (Sl.src p) O i O g (λ_=> .head) λu w j q=>AU ?_;cases E;exact Fp j O O EX
def Ok (hs:St S L h) {am:Value}{q:AN}(a6:Rd S h B3 am q) {r:AN}(E:Ia N q=some r):
 CJ prog 71 #[am] S h (λv S' h'=>Rd S' h' B3 v r∧St S' (L) h'):=by
 refine CJ.go 66 func71 O ntmps71 O λB=>?_;rw[Ia] at E;refine AU ?_;obtain⟨v3,v5,v7,v9,ab,K,rfl,r2,k4,k6,k8,d9,eb,ec⟩:=B3.ex a6;refine NC O O O hs λA hi cm hj=>Dp P9 O cm λG hk cn hl=>AU ?_;refine DK (AU ?_);have ed:=k4.nw;refine GH E O O O rO O (λt co=>MN cn ed co) λt E hm bf hn ho p=>?_;have a8:=p;refine AU ?_;obtain⟨j,c,rfl,hp⟩:=a8.oslen mh;refine GN (cs':=[vI q.B,(.slice j t.length c),v5,v7,v9,ab,K]) O O O O VS.1 O a8 (.tail (.tail .head)) O O λbg cp hq=>AU ?_;refine AS (λa w=>∃(ac:List (List Int)),IV B bf bg (66,[]) a w [(2,vP G 0),(1,vP A 0)] (OS (A5.sl AB) 29 (.slice j t.length c) ac::Bx G 36 [vI 0,vN,vN,vN,vN,vN,vN]::Bx A 36 [vI q.B,(.slice j t.length c),v5,v7,v9,ab,K]::L) λ_ _=>EO N q ac=some r) ?_ ?_
 ·refine A6 (λn1=>λa w=>∃(z:Int) (aq:List (List Int)),IV B bf bg (66,[]) a w [(11,vI (↑t.length:Int)),(2,vP G 0),(1,vP A 0),(12,vI z)] (OS (A5.sl AB) 29 (.slice j t.length c) aq::Bx G 36 [vI 0,vN,vN,vN,vN,vN,vN]::Bx A 36 [vI q.B,(.slice j t.length c),v5,v7,v9,ab,K]::L) λ_ _=>AA z∧Dr N t (EO N q) n1 z aq=some r) N ?_ ?_ ?_
  ·intro aa ww C D;exact⟨0,t,_,_,C.sub (kp [11,2,1,12] O),D,cp,(BF.refl bf bg),(iq (n:=0) O),E⟩
  ·rintro aa ww ⟨_,_,_,_,_,_,_,_,_,E⟩;rw[Dr] at E;cases E
  rintro n1 aa ww ⟨z,aq,cq,cr,C,D,H,ee,hr,E⟩;refine AL ?_ C D;clear C D ww aa;rw[Dr] at E;refine AU ?_;refine AH O E (λef E=>?_) (λef E=>?_)
  ·refine AU ?_;refine A4 (AU ?_);refine RA (kp [3,11,2,1,12] O) ?_;obtain⟨ht,cs,E⟩:=bd E;obtain⟨ct,cu,E⟩:=bd E;obtain⟨bh,cv,E⟩:=bd E;obtain⟨hu,cw,E⟩:=bd E;refine M0 (m:=[(3,vI z),(11,vI (↑t.length:Int)),(2,vP G 0),(1,vP A 0),(12,vI z)]) 10 (λi v hh=>match i with|0=>v=vP A 1|1=>v=(.slice j t.length c)|2=>v=vI z∧AA z|3=>v=vP A 1|4=>v=(.slice j t.length c)|5=>v=vI z∧AA z|6=>EP (.slice j t.length c) (z.toNat*((A5.sl AB)).sz+0) v|7=>Sl cq hh AB v ct|8=>Sl (SN cq cr hh) hh AB v bh|9=>EP (.slice j t.length c) (z.toNat*((A5.sl AB)).sz+0) v|_=>False) [[],[(0,15)],[],[],[(3,18)],[],[(4,19),(5,20)],[(6,21)],[(7,22)],[(1,16),(2,17)]] [(8,23),(9,24)] mo (by kernel_rfl) [3,11,2,1,12] O (by kernel_rfl) (by kernel_rfl) (by kernel_rfl) (kp [3,11,2,1,12] O) MO ?_ ?_
   ·refine A3.cons O Fe (A3.cons O Fe (A3.cons O Fe (A3.cons O Fe (A3.cons O Fe (A3.cons O Fe (A3.cons O ?_ ?_))))))
    ·intro mq hh o;intro hv eg hx eh;have u:=o.st H;cases eg;obtain⟨rfl,hy⟩:=eh;refine AU ?_;refine BS u mh O O Jl.1 cs O λhz cx=>AU ?_;exact BV cx
    refine A3.cons O ?_ ?_
    ·intro mq hh o;intro h0 ei;have u:=o.st H;refine AU ?_;have ej:=u.epAt mh cu Fd.id ei;refine Hp Hi (λ_ x=>x) O ej GD.1 O λh1 ek=>AU ?_;exact BV ek
    refine A3.cons O ?_ ?_
    ·intro mq hh o;intro el ar;have u:=SN.st H o;have ar:=Sl.sn cr ar;have ar:Sl _ _ AB el ct:=ar;have M:=u.fz;refine FZ O O O Mp O M (B4 (St.all _) (ar.mono M.ea.1 M.ea.2) cv) λh2 h3 h4 es h5 em p=>?_;have cy:=p;have a9:=M.join em cy ⟨OS.flat (λ{_ _ _ _ _ _} k=>k),trivial⟩;simp only[Aa5,Aa6] at a9;obtain⟨h6,bi,eu,cz⟩:=a9.pubs .head;have au:=Fz.done o EX bi;exact A7 au.1 (Sl.mono' cz au.2)
    refine A3.cons O ?_ ?_
    ·intro mq hh o;intro ev c0 ew c1;have u:=o.st H;cases c0;obtain⟨rfl,ey⟩:=c1;refine AU ?_;refine BS u mh O O Jl.1 cw O λez bj=>AU ?_;exact BV bj
    exact trivial
   intro e0 c2 c3 av e1 c4;have bk:=SN.st H c2;have av:Sl _ _ AB c3 bh:=av;obtain⟨c5,bl,E⟩:=bd E;refine EM (r:=(A5.sl AB)) (l:=aq) (i:=z) (x:=c5) O O (Jx av) c4 bl L7.id GD.1 (λ_=>rfl) bk .head λe2 bm e3=>AU ?_;refine BK (AU ?_);refine WF.nil (λaa ww C D=>?_);exact⟨(BO (z+1)),(upd aq z bh),_,_,C.sub (kp [11,2,1,12] O),D,bm,EX,(BT _),E⟩
  refine BL O (λaa ww C D=>?_);exact⟨aq,_,_,C.sub (kp [2,1] O),D,H,ee,E⟩
 rintro aa ww ⟨ac,e4,e5,C,D,bn,e6,E⟩;refine AL ?_ C D;clear C D ww aa;rw[EO] at E;refine AU ?_;refine DK (AU ?_);have c6:=k8.nw;refine GH E O O O rN O (λg bo=>Iw bn c6 bo) λg E e7 aw e8 e9 p=>?_;have ax:=p;refine AU ?_;obtain⟨d,b,rfl,fa⟩:=ax.oslen mh;refine GN (cs':=[vI q.B,(.slice j t.length c),v5,(.slice d g.length b),v9,ab,K]) O O O O XZ.1 O ax (.tail (.tail (.tail .head))) O O λay bp fb=>AU ?_;refine AS (λa w=>∃(an:List AV),IV B aw ay (66,[]) a w [(2,vP G 0),(1,vP A 0)] (OS AX 103 (.slice d g.length b) an::OS (A5.sl AB) 29 (.slice j t.length c) ac::Bx G 36 [vI 0,vN,vN,vN,vN,vN,vN]::Bx A 36 [vI q.B,(.slice j t.length c),v5,(.slice d g.length b),v9,ab,K]::L) λ_ _=>EN N q ac an=some r) ?_ ?_
 ·refine A6 (λn3=>λa w=>∃(s:Int) (I:List AV),IV B aw ay (66,[]) a w [(32,vI (↑g.length:Int)),(2,vP G 0),(1,vP A 0),(33,vI s)] (OS AX 103 (.slice d g.length b) I::OS (A5.sl AB) 29 (.slice j t.length c) ac::Bx G 36 [vI 0,vN,vN,vN,vN,vN,vN]::Bx A 36 [vI q.B,(.slice j t.length c),v5,(.slice d g.length b),v9,ab,K]::L) λ_ _=>AA s∧Dq N g (EN N q ac) n3 s I=some r) N ?_ ?_ ?_
  ·intro aa ww C D;exact⟨0,g,_,_,C.sub (kp [32,2,1,33] O),D,bp,(BF.refl aw ay),(iq (n:=0) O),E⟩
  ·rintro aa ww ⟨_,_,_,_,_,_,_,_,_,E⟩;rw[Dq] at E;cases E
  rintro n3 aa ww ⟨s,I,ba,bb,C,D,y,c7,fc,E⟩;refine AL ?_ C D;clear C D ww aa;rw[Dq] at E;refine AU ?_;refine AH O E (λc8 E=>?_) (λc8 E=>?_)
  ·refine AU ?_;refine A4 (AU ?_);refine RA (kp [4,32,2,1,33] O) ?_;obtain⟨fd,bq,E⟩:=bd E;obtain⟨bc,br,E⟩:=bd E;obtain⟨az,bs,E⟩:=bd E;obtain⟨fe,bt,E⟩:=bd E;refine M0 (m:=[(4,vI s),(32,vI (↑g.length:Int)),(2,vP G 0),(1,vP A 0),(33,vI s)]) 12 (λi v hh=>match i with|0=>v=vP A 3|1=>v=(.slice d g.length b)|2=>v=vI s∧AA s|3=>v=vP A 3|4=>v=(.slice d g.length b)|5=>v=vI s∧AA s|6=>EP (.slice d g.length b) (s.toNat*(AX).sz+0) v|7=>EP (.slice d g.length b) (s.toNat*(AX).sz+2) v|8=>Sl ba hh AB v bc.W|9=>Sl (SN ba bb hh) hh AB v az|10=>EP (.slice d g.length b) (s.toNat*(AX).sz+0) v|11=>EP (.slice d g.length b) (s.toNat*(AX).sz+2) v|_=>False) [[],[(0,36)],[],[],[(3,39)],[],[(4,40),(5,41)],[(6,42)],[(7,43)],[(8,44)],[(1,37),(2,38)],[(10,46)]] [(9,45),(11,47)] mo (by kernel_rfl) [4,32,2,1,33] O (by kernel_rfl) (by kernel_rfl) (by kernel_rfl) (kp [4,32,2,1,33] O) MO ?_ ?_
   ·refine A3.cons O Fe (A3.cons O Fe (A3.cons O Fe (A3.cons O Fe (A3.cons O Fe (A3.cons O Fe (A3.cons O ?_ ?_))))))
    ·intro mq hh o;intro ff c9 fg da;have u:=o.st y;cases c9;obtain⟨rfl,fh⟩:=da;refine AU ?_;refine BS u mh O O QI.1 bq O λfi bu=>AU ?_;exact BV bu
    refine A3.cons O ?_ ?_
    ·intro mq hh o;intro fj db;have u:=o.st y;refine AU ?_;refine Ju O db V7.1 O λfk bv=>AU ?_;exact BV bv
    refine A3.cons O ?_ ?_
    ·intro mq hh o;intro fl dc;have u:=o.st y;refine AU ?_;have dd:=u.epAt mh br AV.f_Part dc;refine Hp Hi (λ_ x=>x) O dd GD.1 O λfm de=>AU ?_;exact BV de
    refine A3.cons O ?_ ?_
    ·intro mq hh o;intro df ad;have u:=SN.st y o;have ad:=Sl.sn bb ad;have ad:Sl _ _ AB df bc.W:=ad;have M:=u.fz;refine FZ O O O Mp O M (B4 (St.all _) (ad.mono M.ea.1 M.ea.2) bs) λfn fo fp en fq dg p=>?_;have bw:=p;have a0:=M.join dg bw ⟨OS.flat (λ{_ _ _ _ _ _} k=>k),trivial⟩;simp only[Aa5,Aa6] at a0;obtain⟨fr,bx,fs,dh⟩:=a0.pubs .head;have a1:=Fz.done o EX bx;exact A7 a1.1 (Sl.mono' dh a1.2)
    refine A3.cons O ?_ ?_
    ·intro mq hh o;intro ft di fu dj;have u:=o.st y;cases di;obtain⟨rfl,fv⟩:=dj;refine AU ?_;refine BS u mh O O QI.1 bt O λfw bz=>AU ?_;exact BV bz
    refine A3.cons O ?_ ?_
    ·intro mq hh o;intro fx dk;have u:=o.st y;refine AU ?_;refine Ju O dk V7.1 O λfy b0=>AU ?_;exact BV b0
    exact trivial
   intro f0 dl dm a2 f1 dn;have b1:=SN.st y dl;have a2:Sl _ _ AB dm az:=a2;obtain⟨be,b2,E⟩:=bd E;refine EM (r:=AX) (l:=I) (i:=s) (x:=be) O O (Jx a2) dn b2 AV.u_Part GD.1 (λ_=>rfl) b1 .head λf2 b3 f3=>AU ?_;refine BK (AU ?_);refine WF.nil (λaa ww C D=>?_);exact⟨(BO (s+1)),(upd I s ({ be with W:=az})),_,_,C.sub (kp [32,2,1,33] O),D,b3,EX,(BT _),E⟩
  refine BL O (λaa ww C D=>?_);exact⟨I,_,_,C.sub (kp [2,1] O),D,y,c7,E⟩
 rintro aa ww ⟨an,f4,f5,C,D,Q,f6,E⟩;refine AL ?_ C D;clear C D ww aa;rw[EN] at E;refine AU ?_;refine DK (AU ?_);have dp:=k6.nw;refine DN E O O O Mp O Q (λJ b4=>B4 (St.all _) (dp.mono Q.ea.1 Q.ea.2) b4) λJ E f7 f8 f9 eo ga dq p=>?_;have b5:=p;have ag:=Q.join dq b5 ⟨OS.flat (λ{_ _ _ _ _ _} k=>k),trivial⟩;simp only[Aa5,Aa6] at ag;refine AU ?_;obtain⟨U,F,rfl,gb⟩:=ag.oslen mh;refine GN (cs':=[vI q.B,(.slice j t.length c),(.slice U J.length F),(.slice d g.length b),v9,ab,K]) O O O O GD.1 O ag (.tail (.tail (.tail (.tail .head)))) O O λgc V ge=>AU ?_;refine DK (AU ?_);have dr:=d9.nw;refine DN E O O O eL O V (λaf b6=>GE (St.all _) (dr.mono V.ea.1 V.ea.2) b6) λaf E gf gg gh ep gi ds p=>?_;have b7:=p;have ah:=V.join ds b7 ⟨OS.flat (λ{_ _ _ _ _ _} k=>k),trivial⟩;simp only[Aa5,Aa6] at ah;refine AU ?_;obtain⟨ai,X,rfl,gj⟩:=ah.oslen mh;refine GN (cs':=[vI q.B,(.slice j t.length c),(.slice U J.length F),(.slice d g.length b),(.slice ai af.length X),ab,K]) O O O O lB.1 O ah (.tail (.tail (.tail (.tail (.tail .head))))) O O λgl Y gm=>AU ?_;refine DK (AU ?_);have dt:=eb.nw;refine DN E O O O Mp O Y (λao b8=>B4 (St.all _) (dt.mono Y.ea.1 Y.ea.2) b8) λao E gn gp gq eq gr du p=>?_;have b9:=p;have aj:=Y.join du b9 ⟨OS.flat (λ{_ _ _ _ _ _} k=>k),trivial⟩;simp only[Aa5,Aa6] at aj;refine AU ?_;obtain⟨a3,ap,rfl,gs⟩:=aj.oslen mh;refine GN (cs':=[vI q.B,(.slice j t.length c),(.slice U J.length F),(.slice d g.length b),(.slice ai af.length X),(.slice a3 ao.length ap),K]) O O O O GD.1 O aj (.tail (.tail (.tail (.tail (.tail (.tail .head)))))) O O λgu Z gv=>AU ?_;refine DK (AU ?_);have dv:=ec.nw;refine DN E O O O Mp O Z (λa4 ca=>B4 (St.all _) (dv.mono Z.ea.1 Z.ea.2) ca) λa4 E gw gx gy er gz dw p=>?_;have cb:=p;have ak:=Z.join dw cb ⟨OS.flat (λ{_ _ _ _ _ _} k=>k),trivial⟩;simp only[Aa5,Aa6] at ak;refine AU ?_;obtain⟨cc,a7,rfl,g0⟩:=ak.oslen mh;refine GN (cs':=[vI q.B,(.slice j t.length c),(.slice U J.length F),(.slice d g.length b),(.slice ai af.length X),(.slice a3 ao.length ap),(.slice cc a4.length a7)]) O O O O GD.1 O ak (.tail (.tail (.tail (.tail (.tail (.tail (.tail .head))))))) O O λg1 cd g2=>AU ?_;refine Eh O O O O J0.1 O cd (.tail (.tail (.tail (.tail (.tail (.tail .head)))))) O λg3 ce g4=>AU ?_;refine CI (λaa ww C D=>?_);obtain⟨g5,cf,g6,dx⟩:=ce.pubs (.tail (.tail (.tail (.tail (.tail .head)))));obtain⟨g7,cg,g8,dy⟩:=cf.pubs (.tail (.tail (.tail .head)));obtain⟨g9,ch,ha,dz⟩:=cg.pubs (.tail (.tail (.tail .head)));obtain⟨hb,ci,hc,d0⟩:=ch.pubs (.tail (.tail .head));obtain⟨hd,cj,he,d1⟩:=ci.pubs (.tail .head)
 obtain⟨hg,ck,d2,d3⟩:=cj.pubs .head;have a5:=ck.drop (.tail .head);have d4:=dx.nw;have d5:=dy.nw;have d6:=dz.nw;have d7:=d0.nw;have d8:=d1.mono' d2;have cl:=a5.drop .head;cases E;exact Kv C O D (Io (Wm C D a5 O mh J0.1 O) Ku) O EX ⟨(B3.mk (x:=(⟨q.B,ac,J,an,af,ao,a4⟩:AN)) r2 d4 d5 d6 d7 d8 d3),cl⟩
end Go.Proofs.YtabonambpbofgaaGreat
