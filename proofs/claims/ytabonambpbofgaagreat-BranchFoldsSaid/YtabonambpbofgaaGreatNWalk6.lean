import Derived.Test.YtabonambpbofgaaGreatNInst
import Derived.Test.YtabonambpbofgaaGreatNForms
import Derived.Test.YtabonambpbofgaaGreatNSort5
import Derived.Test.YtabonambpbofgaaGreatNSortD
import Derived.Test.YtabonambpbofgaaGreatNWalk1
import Derived.Test.YtabonambpbofgaaGreatNWalk3
import Derived.Test.YtabonambpbofgaaGreatNWalk4
namespace Go.Proofs.YtabonambpbofgaaGreat
set_option linter.all false
open Go.RowKit
open Go.Proofs.Tryz
set_option maxRecDepth 10000
set_option maxHeartbeats 20000000
variable {N:Nat}{S:Nat→Prop}{L:List HP}{h:AS}
def PR (hs:St S L h) {q:Value}{b:AF}(u:Rd S h B3 q b) {r:Bool}(E:Iv N b=some r):
 CL prog 80 #[q] S h (λv S' h'=>v= .bool r∧St S' (L) h'):=by
 refine CL.go 64 func80 O ntmps80 O λB=>?_;rw[Iv] at E;refine AU ?_;refine CZ O u CE O hs λq1 S2 h3 ax e5 k6=>?_;have k8:=k6.fl KZ;obtain⟨v9,_,ay⟩:=k8.ll;refine AU ?_;refine AV (λa w=>IV B S2 h3 (64,[]) a w [(1,q1)] (L) λ_ _=>Ek N b=some r) ?_ ?_
 ·refine A9 (λn1=>λa w=>∃(s:Int),IV B S2 h3 (64,[]) a w [(9,vI (↑b.Af.length:Int)),(8,v9),(1,q1),(10,vI s)] (L) λ_ _=>AA s∧Ej N b (Ek N b) n1 s=some r) N ?_ ?_ ?_
  ·intro m p k l;exact⟨0,_,_,k.sub (kp [9,8,1,10] O),l,ax,(CJ.refl S2 h3),(iq (n:=0) O),E⟩
  ·rintro m p ⟨_,_,_,_,_,_,_,_,E⟩;rw[Ej] at E;cases E
  rintro n1 m p ⟨s,b9,ca,k,l,x,I,cb,E⟩;refine AK ?_ k l;clear k l p m;rw[Ej] at E;refine AU ?_;refine AH O E (λaz E=>?_) (λaz E=>?_)
  ·refine AU ?_;refine A6 (AU ?_);have a0:=ay.mono' I;refine BK E O O a0 cI.1 O λcc E cd a1=>?_;obtain⟨ce,_,a2⟩:=a1.lv;refine AU ?_;refine Dp aH O x λcf cg J a3=>?_;have a4:=a2.mono a3;obtain⟨rfl,⟨ch,a5,a6,a7,a8,a9,ba⟩⟩:=HN.ex a4;refine FK O O O O bG.1 O J .head O λci K cj=>AU ?_;refine CX (.inl O) K ?_;have bb:=k6.nw;have bc:=bb.fl Cp;obtain⟨ck,_,be⟩:=bc.ll;have bf:=be.le;refine AU ?_;refine BE E O O O Qb O (λM Q h' o=>IG (St.all h') a5 (Ls bf) Q) λM E=>AU ?_;obtain⟨U,c,E⟩:=bd E;refine AZ 5 26 (.bool U) ?_ ?_
   ·cases V:(!M)
    ·have c:=HX V c;refine AU ?_;refine BE c O O O KD O (λbg W h' o=>Cu (St.all h') a6 W) λbg c=>AU ?_;cases c;exact A0 O
    have c:=HW V c;cases c;exact BI O O
   refine AU ?_;obtain⟨X,d,E⟩:=bd E;refine AZ 5 32 (.bool X) ?_ ?_
   ·cases Y:U
    ·have d:=HX Y d;refine AU ?_;refine BE d O O O Hw O (λbh Z h' o=>Ci (St.all h') a7 (iq (n:=0) O) (iq (n:=24) O) Z) λbh d=>AU ?_;cases d;exact A0 O
    have d:=HW Y d;cases d;exact BI O O
   refine AU ?_;obtain⟨ab,g,E⟩:=bd E;refine AZ 5 38 (.bool ab) ?_ ?_
   ·cases ac:X
    ·have g:=HX ac g;refine AU ?_;refine BE g O O O Hw O (λbi ad h' o=>Ci (St.all h') a8 (iq (n:=0) O) (iq (n:=1073741824) O) ad) λbi g=>AU ?_;cases g;exact A0 O
    have g:=HW ac g;cases g;exact BI O O
   refine AU ?_;obtain⟨ae,i,E⟩:=bd E;refine AZ 5 44 (.bool ae) ?_ ?_
   ·cases af:ab
    ·have i:=HX af i;refine AU ?_;refine BE i O O O KD O (λbj ag h' o=>Cu (St.all h') a9 ag) λbj i=>AU ?_;cases i;exact A0 O
    have i:=HW af i;cases i;exact BI O O
   refine AU ?_;obtain⟨bk,j,E⟩:=bd E;refine AZ 5 50 (.bool bk) ?_ ?_
   ·cases ah:ae
    ·have j:=HX ah j;refine AU ?_;refine BE j O O O Hw O (λbl ai h' o=>Ci (St.all h') ba (iq (n:=0) O) (iq (n:=128) O) ai) λbl j=>AU ?_;cases j;exact A0 O
    have j:=HW ah j;cases j;exact BI O O
   refine By (kp [50,9,8,1,10] O) λcl aj cm=>AH O E (λbm E=>?_) (λbm E=>?_)
   ·exact RT
   refine AU ?_;refine BP (AU ?_);refine WF.nil (λm p k l=>?_);have ak:=aj.drop .head;exact⟨(BT (s+1)),_,_,k.sub (kp [9,8,1,10] O),l,ak,EX,(BV _),E⟩
  refine BM O (λm p k l=>?_);exact⟨_,_,k.sub (kp [1] O),l,x,I,E⟩
 rintro m p ⟨z,A,k,l,am,bn,E⟩;refine AK ?_ k l;clear k l p m;rw[Ek] at E;have bo:=k6.mono bn;have bp:=bo.fl KK;obtain⟨bq,_,br⟩:=bp.ll;refine AU ?_;refine AV (λa w=>IV B z A (64,[]) a w [] (L) λ_ _=>Gl N=some r) ?_ ?_
 ·refine A9 (λn3=>λa w=>∃(t:Int),IV B z A (64,[]) a w [(54,vI (↑b.Ak.length:Int)),(53,bq),(55,vI t)] (L) λ_ _=>AA t∧Ei N b (Gl N) n3 t=some r) N ?_ ?_ ?_
  ·intro m p k l;exact⟨0,_,_,k.sub (kp [54,53,55] O),l,am,(CJ.refl z A),(iq (n:=0) O),E⟩
  ·rintro m p ⟨_,_,_,_,_,_,_,_,E⟩;rw[Ei] at E;cases E
  rintro n3 m p ⟨t,cn,co,k,l,y,an,cp,E⟩;refine AK ?_ k l;clear k l p m;rw[Ei] at E;refine AU ?_;refine AH O E (λbs E=>?_) (λbs E=>?_)
  ·refine AU ?_;refine A6 (AU ?_);have bt:=br.mono' an;refine BK E O O bt cF.1 O λbv E bw ao=>?_;obtain⟨bx,_,ap⟩:=ao.lv;refine AU ?_;refine Dp aE O y λbz b0 C aq=>?_;have ar:=ap.mono aq;obtain⟨rfl,⟨b1,au⟩⟩:=DW.ex ar;refine FK O O O O bD.1 O C .head O λb2 D b3=>AU ?_;refine CX (.inl O) D (AU ?_);refine BE E O O O Hw O (λav F h' o=>Ci (St.all h') au (iq (n:=0) O) (iq (n:=1073741824) O) F) λav E=>AU ?_;refine By (kp [62,54,53,55] O) λb4 G b5=>AH O E (λaw E=>?_) (λaw E=>?_)
   ·exact RT
   refine AU ?_;refine BP (AU ?_);refine WF.nil (λm p k l=>?_);have H:=G.drop .head;exact⟨(BT (t+1)),_,_,k.sub (kp [54,53,55] O),l,H,EX,(BV _),E⟩
  refine BM O (λm p k l=>?_);exact⟨_,_,k.sub R5,l,y,an,E⟩
 rintro m p ⟨b6,b7,k,l,bu,b8,E⟩;refine AK ?_ k l;clear k l p m;rw[Gl] at E;exact RT
def Oq (hs:St S L h) {g:Value}{b:AF}(s:Rd S h B3 g b) {r:Bool}(E:IP N b=some r):
 CL prog 81 #[g] S h (λv S' h'=>v= .bool r∧St S' (L) h'):=by
 refine CL.go 47 func81 O ntmps81 O λB=>?_;rw[IP] at E;refine AU ?_;refine CZ O s CE O hs λq1 S2 h3 ae e5 k6=>?_;have k8:=k6.fl K2;obtain⟨v9,_,af⟩:=k8.ll;refine AU ?_;refine AV (λa w=>IV B S2 h3 (47,[]) a w [] (L) λ_ _=>GV N=some r) ?_ ?_
 ·refine A9 (λn1=>λa w=>∃(j:Int),IV B S2 h3 (47,[]) a w [(8,vI (↑b.Ah.length:Int)),(7,v9),(1,q1),(9,vI j)] (L) λ_ _=>AA j∧EV N b (GV N) n1 j=some r) N ?_ ?_ ?_
  ·intro x y k m;exact⟨0,_,_,k.sub (kp [8,7,1,9] O),m,ae,(CJ.refl S2 h3),(iq (n:=0) O),E⟩
  ·rintro x y ⟨_,_,_,_,_,_,_,_,E⟩;rw[EV] at E;cases E
  rintro n1 x y ⟨j,ba,bb,k,m,t,F,bc,E⟩;refine AK ?_ k m;clear k m y x;rw[EV] at E;refine AU ?_;refine AH O E (λag E=>?_) (λag E=>?_)
  ·refine AU ?_;refine A6 (AU ?_);have ah:=af.mono' F;refine BK E O O ah cH.1 O λbe E bf ai=>?_;obtain⟨bg,_,aj⟩:=ai.lv;refine AU ?_;refine Dp aG O t λbh bi G ak=>?_;have am:=aj.mono ak;obtain⟨rfl,⟨bj,an,ao,ap,aq⟩⟩:=Et.ex am;refine FK O O O O bF.1 O G .head O λbk H bl=>AU ?_;refine CX (.inl O) H (AU ?_);refine BE E O O O Hw O (λI J h' o=>Ci (St.all h') an (iq (n:=0) O) (iq (n:=2) O) J) λI E=>AU ?_;obtain⟨M,c,E⟩:=bd E;refine AZ 5 22 (.bool M) ?_ ?_
   ·cases Q:(!I)
    ·have c:=HX Q c;refine AU ?_;refine BE c O O O Hw O (λar U h' o=>Ci (St.all h') ap (iq (n:=0) O) (iq (n:=1099511627776) O) U) λar c=>AU ?_;cases c;exact A0 O
    have c:=HW Q c;cases c;exact BI O O
   refine AU ?_;obtain⟨au,d,E⟩:=bd E;refine AZ 5 28 (.bool au) ?_ ?_
   ·cases V:M
    ·have d:=HX V d;refine AU ?_;refine BE d O O O Hw O (λav W h' o=>Ci (St.all h') aq (iq (n:=0) O) (iq (n:=1440) O) W) λav d=>AU ?_;cases d;exact A0 O
    have d:=HW V d;cases d;exact BI O O
   refine By (kp [28,4,8,7,1,9] O) λbm X bn=>AH O E (λaw E=>?_) (λaw E=>?_)
   ·exact RT
   have D:=k6.nw;have ax:=D.fl Cp;obtain⟨bo,_,ay⟩:=ax.ll;have az:=ay.le;have a0:=D.fl NV;have a1:=a0.i;have a2:=D.fl HY;obtain⟨bp,_,a3⟩:=a2.ll;have a4:=a3.le;refine AU ?_;refine mE (cs:=[vI (↑b.A.length:Int),vI b.K,vI (↑b.C.length:Int)]) uF O O O (AU ?_);refine Dp pC O X λbq br Y bs=>?_;refine FK O O O O pS.1 O Y .head O λbt u bu=>AU ?_;refine CX (.inr ⟨mo,by kernel_rfl⟩) u (AU ?_);obtain⟨a5,q,E⟩:=bd E;have Z:=xO q;refine uY O O uD Z.1 Z.2 O (mB (l:=([(↑b.A.length:Int),b.K,(↑b.C.length:Int)]:List Int)) (Value.int .i64) P3 u O mh O q Fa.1 O ?_);have a6:AA a5:=xN (p:=λz=>AA z) (all_cons (Ls az) (all_cons a1 (all_cons (Ls a4) lH))) q;refine BE E O O O Qb O (λa7 ab h' o=>IG (St.all h') ao a6 ab) λa7 E=>AU ?_;refine By (kp [45,8,7,1,9] O) λbv ac bw=>AH O E (λa8 E=>?_) (λa8 E=>?_)
   ·exact RT
   refine AU ?_;refine BP (AU ?_);refine WF.nil (λx y k m=>?_);have ad:=ac.sel [] 2 O;exact⟨(BT (j+1)),_,_,k.sub (kp [8,7,1,9] O),m,ad,EX,(BV _),E⟩
  refine BM O (λx y k m=>?_);exact⟨_,_,k.sub R5,m,t,F,E⟩
 rintro x y ⟨bx,bz,k,m,a9,b0,E⟩;refine AK ?_ k m;clear k m y x;rw[GV] at E;exact RT
def PT (hs:St S L h) {k:Value}{l:AF}(t:Rd S h B3 k l) {r:Bool}(E:Iw N l=some r):
 CL prog 82 #[k] S h (λv S' h'=>v= .bool r∧St S' (L) h'):=by
 refine CL.go 80 func82 O ntmps82 O λB=>?_;rw[Iw] at E;refine AU ?_;refine CZ O t CE O hs λq1 S2 h3 ai e5 k6=>?_;have k8:=k6.fl Lo;obtain⟨v9,_,aj⟩:=k8.ll;refine AU ?_;refine AV (λa w=>IV B S2 h3 (80,[]) a w [] (L) λ_ _=>Gm N=some r) ?_ ?_
 ·refine A9 (λn1=>λa w=>∃(m:Int),IV B S2 h3 (80,[]) a w [(7,vI (↑l.Ai.length:Int)),(6,v9),(1,q1),(8,vI m)] (L) λ_ _=>AA m∧El N l (Gm N) n1 m=some r) N ?_ ?_ ?_
  ·intro x y p q;exact⟨0,_,_,p.sub (kp [7,6,1,8] O),q,ai,(CJ.refl S2 h3),(iq (n:=0) O),E⟩
  ·rintro x y ⟨_,_,_,_,_,_,_,_,E⟩;rw[El] at E;cases E
  rintro n1 x y ⟨m,bm,bn,p,q,u,A,bo,E⟩;refine AK ?_ p q;clear p q y x;rw[El] at E;refine AU ?_;refine AH O E (λak E=>?_) (λak E=>?_)
  ·refine AU ?_;refine A6 (AU ?_);have am:=aj.mono' A;refine BK E O O am cG.1 O λs E bp an=>?_;obtain⟨bq,_,ao⟩:=an.lv;refine AU ?_;refine Dp aF O u λbr bs C ap=>?_;have aq:=ao.mono ap;obtain⟨rfl,⟨bt,ar,au,av,aw,ax,ay⟩⟩:=G5.ex aq;refine FK O O O O bE.1 O C .head O λbu D bv=>AU ?_;refine CX (.inl O) D ?_;have F:=k6.nw;have az:=F.fl KZ;obtain⟨bw,_,a0⟩:=az.ll;have a1:=a0.le;refine AU ?_;refine BE E O O O Qb O (λG H h' o=>IG (St.all h') ar (Ls a1) H) λG E=>AU ?_;obtain⟨I,b,E⟩:=bd E;refine AZ 12 31 (.bool I) ?_ ?_
   ·cases J:(!G)
    ·have b:=HX J b;refine AU ?_;refine BE b O O O Qb O (λa2 K h' o=>IG (St.all h') au (BV _) K) λa2 b=>AU ?_;cases b;exact A0 O
    have b:=HW J b;cases b;exact BI O O
   refine AU ?_;obtain⟨Q,c,E⟩:=bd E;refine AZ 5 44 (.bool Q) ?_ ?_
   ·cases U:(I||(decide (s.M=s.E)))
    ·have c:=HX U c;refine AU ?_;refine BE c O O O Hw O (λa3 V h' o=>Ci (St.all h') av (iq (n:=1) O) (iq (n:=24) O) V) λa3 c=>AU ?_;cases c;exact A0 O
    have c:=HW U c;cases c;exact BI O O
   refine AU ?_;obtain⟨W,d,E⟩:=bd E;refine AZ 5 50 (.bool W) ?_ ?_
   ·cases X:Q
    ·have d:=HX X d;refine AU ?_;refine BE d O O O Hw O (λa4 Y h' o=>Ci (St.all h') aw (iq (n:=0) O) (iq (n:=1073741824) O) Y) λa4 d=>AU ?_;cases d;exact A0 O
    have d:=HW X d;cases d;exact BI O O
   refine AU ?_;obtain⟨a5,g,E⟩:=bd E;refine AZ 5 56 (.bool a5) ?_ ?_
   ·cases Z:W
    ·have g:=HX Z g;refine AU ?_;refine BE g O O O KD O (λa6 ab h' o=>Cu (St.all h') ay ab) λa6 g=>AU ?_;cases g;exact A0 O
    have g:=HW Z g;cases g;exact BI O O
   refine By (kp [56,4,7,6,1,8] O) λbx ac a7=>AH O E (λa8 E=>?_) (λa8 E=>?_)
   ·exact RT
   refine AU ?_;refine CX (.inl O) ac (AU ?_);obtain⟨a9,i,E⟩:=bd E;refine AZ 13 78 (.bool a9) ?_ ?_
   ·cases ad:((decide (s.Bl=(-1)))&&(decide (s.Bn≠0)))
    ·have i:=HX ad i;refine AU ?_;obtain⟨ba,j,i⟩:=bd i;refine AZ 8 77 (.bool ba) ?_ ?_
     ·cases ae:(decide (s.Bl≠(-1)))
      ·have j:=HX ae j;cases j;exact BI O O
      have j:=HW ae j;have bb:=F.mono a7;have bc:=bb.fl Cp;obtain⟨bz,_,be⟩:=bc.ll;have bf:=be.le;refine AU ?_;refine BE j O O O Qb O (λbg af h' o=>IG (St.all h') ax (Ls bf) af) λbg j=>AU ?_;cases j;exact A0 O
     refine AU ?_;cases i;exact A0 O
    have i:=HW ad i;cases i;exact BI O O
   refine By (kp [78,7,6,1,8] O) λb0 ag bi=>AH O E (λah E=>?_) (λah E=>?_)
   ·exact RT
   refine AU ?_;refine BP (AU ?_);refine WF.nil (λx y p q=>?_);have z:=ag.drop .head;exact⟨(BT (m+1)),_,_,p.sub (kp [7,6,1,8] O),q,z,EX,(BV _),E⟩
  refine BM O (λx y p q=>?_);exact⟨_,_,p.sub R5,q,u,A,E⟩
 rintro x y ⟨bj,bk,p,q,bh,bl,E⟩;refine AK ?_ p q;clear p q y x;rw[Gm] at E;exact RT
def Od (hs:St S L h) {m:Value}{q:AF}(n:Rd S h B3 m q) {r:Bool}(E:Gv N q=some r):
 CL prog 37 #[m] S h (λv S' h'=>v= .bool r∧St S' (L) h'):=by
 refine CL.go 37 func37 O ntmps37 O λB=>?_;rw[Gv] at E;refine AU ?_;refine CZ O n CE O hs λq1 S2 h3 l e5 p=>AU ?_;refine CX (.inl O) l ?_;obtain⟨v7,_,k8⟩:=p.lv;refine AU ?_;refine BE E O O O yO O (λy9 Z h' o=>P6 (St.all h') (k8.mono (o.all l.1)) Z) λy9 E=>AU ?_;obtain⟨s,a,E⟩:=bd E;refine AZ 3 8 (.bool s) ?_ ?_
 ·cases t:y9
  ·have a:=HX t a;cases a;exact BI O O
  have a:=HW t a;obtain⟨au,_,aa⟩:=p.lv;refine AU ?_;refine BE a O O O yN O (λab u h' o=>PU (St.all h') (aa.mono (o.all l.1)) u) λab a=>AU ?_;cases a;exact A0 O
 refine AU ?_;obtain⟨w,b,E⟩:=bd E;refine AZ 3 12 (.bool w) ?_ ?_
 ·cases x:s
  ·have b:=HX x b;cases b;exact BI O O
  have b:=HW x b;obtain⟨av,_,ac⟩:=p.lv;refine AU ?_;refine BE b O O O yM O (λad y h' o=>Oo (St.all h') (ac.mono (o.all l.1)) y) λad b=>AU ?_;cases b;exact A0 O
 refine AU ?_;obtain⟨z,c,E⟩:=bd E;refine AZ 3 16 (.bool z) ?_ ?_
 ·cases A:w
  ·have c:=HX A c;cases c;exact BI O O
  have c:=HW A c;obtain⟨aw,_,ae⟩:=p.lv;refine AU ?_;refine BE c O O O yL O (λaf C h' o=>PV (St.all h') (ae.mono (o.all l.1)) C) λaf c=>AU ?_;cases c;exact A0 O
 refine AU ?_;obtain⟨D,d,E⟩:=bd E;refine AZ 3 20 (.bool D) ?_ ?_
 ·cases F:z
  ·have d:=HX F d;cases d;exact BI O O
  have d:=HW F d;obtain⟨ax,_,ag⟩:=p.lv;refine AU ?_;refine BE d O O O yK O (λah G h' o=>OL (St.all h') (ag.mono (o.all l.1)) G) λah d=>AU ?_;cases d;exact A0 O
 refine AU ?_;obtain⟨H,g,E⟩:=bd E;refine AZ 3 24 (.bool H) ?_ ?_
 ·cases I:D
  ·have g:=HX I g;cases g;exact BI O O
  have g:=HW I g;obtain⟨ay,_,ai⟩:=p.lv;refine AU ?_;refine BE g O O O yJ O (λaj J h' o=>On (St.all h') (ai.mono (o.all l.1)) J) λaj g=>AU ?_;cases g;exact A0 O
 refine AU ?_;obtain⟨K,i,E⟩:=bd E;refine AZ 3 28 (.bool K) ?_ ?_
 ·cases M:H
  ·have i:=HX M i;cases i;exact BI O O
  have i:=HW M i;obtain⟨az,_,ak⟩:=p.lv;refine AU ?_;refine BE i O O O yI O (λal Q h' o=>PR (St.all h') (ak.mono (o.all l.1)) Q) λal i=>AU ?_;cases i;exact A0 O
 refine AU ?_;obtain⟨U,j,E⟩:=bd E;refine AZ 3 32 (.bool U) ?_ ?_
 ·cases V:K
  ·have j:=HX V j;cases j;exact BI O O
  have j:=HW V j;obtain⟨a0,_,am⟩:=p.lv;refine AU ?_;refine BE j O O O yH O (λan W h' o=>Oq (St.all h') (am.mono (o.all l.1)) W) λan j=>AU ?_;cases j;exact A0 O
 refine AU ?_;obtain⟨ao,k,E⟩:=bd E;refine AZ 3 36 (.bool ao) ?_ ?_
 ·cases X:U
  ·have k:=HX X k;cases k;exact BI O O
  have k:=HW X k;obtain⟨a1,_,ap⟩:=p.lv;refine AU ?_;refine BE k O O O yG O (λaq Y h' o=>PT (St.all h') (ap.mono (o.all l.1)) Y) λaq k=>AU ?_;cases k;exact A0 O
 refine AU ?_;exact By (kp [2] O) λa2 ar a3=>RT
def PB (z:St S L h) {b:Value}{c:(List Int)}(i:Sl S h AB b c) {r:Bool}(E:JP N c=some r):
 CL prog 204 #[b] S h (λv S' h'=>v= .bool r∧St S' (L) h'):=by
 refine CL.go 24 func204 O ntmps204 O λB=>?_;rw[JP] at E;refine AU ?_;refine AV (λa w=>IV B S h (24,[]) a w [] (L) λ_ _=>Hh N=some r) ?_ ?_
 ·refine A9 (λx=>λa w=>∃(o:Int) (p:Int),IV B S h (24,[]) a w [(7,vI (↑c.length:Int)),(6,b),(3,vI o),(8,vI p)] (L) λ_ _=>AA o∧AA p∧FT N c (Hh N) x o p=some r) N ?_ ?_ ?_
  ·intro k l d g;exact⟨0,0,_,_,d.sub (kp [7,6,3,8] O),g,z,(CJ.refl S h),(iq (n:=0) O),(iq (n:=0) O),E⟩
  ·rintro k l ⟨_,_,_,_,_,_,_,_,_,_,E⟩;rw[FT] at E;cases E
  rintro x k l ⟨o,p,A,C,d,g,j,m,J,K,E⟩;refine AK ?_ d g;clear d g l k;rw[FT] at E;refine AU ?_;refine AH O E (λq E=>?_) (λq E=>?_)
  ·refine AU ?_;refine A6 (AU ?_);have s:=i.mono' m;refine BK E O O s Ck.1 O λt E D F=>AU ?_;refine AH O E (λu E=>?_) (λu E=>?_)
   ·exact RT
   refine AU ?_;refine BP (AU ?_);refine WF.nil (λk l d g=>?_);exact⟨(BT (o+t)),(BT (p+1)),_,_,d.sub (kp [7,6,3,8] O),g,j,m,(BV _),(BV _),E⟩
  refine BM O (λk l d g=>?_);exact⟨_,_,d.sub R5,g,j,m,E⟩
 rintro k l ⟨G,H,d,g,y,I,E⟩;refine AK ?_ d g;clear d g l k;rw[Hh] at E;exact RT
def PC (k:St S L h) {c:Value}{d:(List Int)}(g:Sl S h AB c d) {a:Int}(i:AA a) {r:Bool}(E:Kb N d a=some r):
 CL prog 156 #[c,vI a] S h (λv S' h'=>v= .bool r∧St S' (L) h'):=by
 refine CL.go 21 func156 O ntmps156 O λB=>?_;rw[Kb] at E;refine AU ?_;refine CX (.inl O) k (AU ?_);obtain⟨m,b,E⟩:=bd E;refine AZ 3 20 (.bool m) ?_ ?_
 ·cases l:(((decide (0≤a))&&(decide (a≤16)))&&(decide ((↑d.length:Int)=a)))
  ·have b:=HX l b;cases b;exact BI O O
  have b:=HW l b;refine AU ?_;refine BE b O O O fV O (λn j h' o=>PB (St.all h') (g.mono' (o.all k.1)) j) λn b=>AU ?_;cases b;exact A0 O
 refine AU ?_;exact By (kp [4] O) λs p q=>RT
def Ks (j:St S L h) {a:Int}(c:AA a) {b:Int}(d:AA b) {r:Int}(E:H4 N a b=some r):
 CL prog 63 #[vI a,vI b] S h (λv S' h'=>v=vI r∧AA r∧St S' (L) h'):=by
 refine CL.go 24 func63 O ntmps63 O λB=>?_;rw[H4] at E;refine AU ?_;refine AH O E (λg E=>?_) (λg E=>?_)
 ·exact RT
 refine AU ?_;refine AH O E (λi E=>?_) (λi E=>?_)
 ·exact RT
 exact RT
def Gp (K:St S L h) {b:Value}{c:(List Int)}(k:Sl S h AB b c) {r:Int}(E:FC N c=some r):
 CL prog 31 #[b] S h (λv S' h'=>v=vI r∧AA r∧St S' (L) h'):=by
 refine CL.go 17 func31 O ntmps31 O λB=>?_;rw[FC] at E;refine AU ?_;refine AV (λa w=>∃(y:Int),IV B S h (17,[]) a w [(3,vI y)] (L) λ_ _=>AA y∧JK N y=some r) ?_ ?_
 ·refine A9 (λH=>λa w=>∃(q:Int) (d:Int),IV B S h (17,[]) a w [(7,vI (↑c.length:Int)),(6,b),(3,vI q),(8,vI d)] (L) λ_ _=>AA q∧AA d∧Hi N c (JK N) H q d=some r) N ?_ ?_ ?_
  ·intro m p g j;exact⟨0,0,_,_,g.sub (kp [7,6,3,8] O),j,K,(CJ.refl S h),(iq (n:=0) O),(iq (n:=0) O),E⟩
  ·rintro m p ⟨_,_,_,_,_,_,_,_,_,_,E⟩;rw[Hi] at E;cases E
  rintro H m p ⟨q,d,M,Q,g,j,l,s,I,U,E⟩;refine AK ?_ g j;clear g j p m;rw[Hi] at E;refine AU ?_;refine AH O E (λz E=>?_) (λz E=>?_)
  ·refine AU ?_;refine A6 (AU ?_);have A:=k.mono' s;refine BK E O O A Ck.1 O λV E W C=>?_;have D:=C.i;refine AU ?_;refine CX (.inl O) l (AU ?_);refine DM E O O O Wq O (λt u h' o=>Ks (St.all h') I D u) λt E F=>?_;have G:=F;refine AU ?_;refine By (kp [3,7,6,8] O) λX x Y=>BP (AU ?_);refine WF.nil (λm p g j=>?_);exact⟨t,(BT (d+1)),_,_,g.sub (kp [7,6,3,8] O),j,x,EX,G,(BV _),E⟩
  refine BM O (λm p g j=>?_);exact⟨q,_,_,g.sub (kp [3] O),j,l,s,I,E⟩
 rintro m p ⟨y,Z,ab,g,j,J,ac,r3,E⟩;refine AK ?_ g j;clear g j p m;rw[JK] at E;exact RT
def H1 (g:St S L h) {b:Int}(d:AA b) {a:Int}(c:AA a) {r:Bool}(E:HR N b a=some r):
 CL prog 113 #[vI b,vI a] S h (λv S' h'=>v= .bool r∧St S' (L) h'):=by
 refine CL.go 12 func113 O ntmps113 O λB=>?_;rw[HR] at E;exact RT
def SL (hs:St S L h) {p:Value}{j:AF}(F:Rd S h B3 p j) {q:Value}{i:AI}(G:Rd S h BU q i) {r:Int×Bool}(E:Km N j i=some r):
 CL prog 83 #[p,q] S h (λv S' h'=>v= .tuple #[vI r.1,.bool r.2]∧AA r.1∧St S' (L) h'):=by
 refine CL.go 76 func83 O ntmps83 O λB=>?_;rw[Km] at E;refine AU ?_;refine CZ O F CE O hs λq1 S2 h3 bg e5 k6=>?_;have k7:=G.mono e5;refine CZ O k7 CE O bg λq8 S9 Y aj cr ak=>?_;have bh:=ak.fl M1;obtain⟨bi,_,bj⟩:=bh.ll;refine AU ?_;refine AV (λa w=>∃(u:Int),IV B S9 Y (76,[]) a w [(3,q8),(2,q1),(6,vI u)] (L) λ_ _=>AA u∧GM N j i u=some r) ?_ ?_
 ·refine A9 (λn1=>λa w=>∃(s:Int) (x:Int),IV B S9 Y (76,[]) a w [(14,vI (↑i.H.length:Int)),(13,bi),(3,q8),(2,q1),(6,vI s),(15,vI x)] (L) λ_ _=>AA s∧AA x∧GL N j i (GM N j i) n1 s x=some r) N ?_ ?_ ?_
  ·intro k l b g;exact⟨0,0,_,_,b.sub (kp [14,13,3,2,6,15] O),g,aj,(CJ.refl S9 Y),(iq (n:=0) O),(iq (n:=0) O),E⟩
  ·rintro k l ⟨_,_,_,_,_,_,_,_,_,_,E⟩;rw[GL] at E;cases E
  rintro n1 k l ⟨s,x,cs,ct,b,g,y,am,bk,cu,E⟩;refine AK ?_ b g;clear b g l k;rw[GL] at E;refine AU ?_;refine AH O E (λbl E=>?_) (λbl E=>?_)
  ·refine AU ?_;refine A6 (AU ?_);have bm:=bj.mono' am;refine BK E O O bm Jl.1 O λcv E cw bn=>?_;obtain⟨cx,_,an⟩:=bn.ll;refine AU ?_;refine CX (.inl O) y ?_;have bo:=k6.nw;have bp:=bo.fl IJ;obtain⟨cy,_,bq⟩:=bp.ll;have br:=bq.le;refine AU ?_;refine BE E O O O gG O (λbs ao h' o=>PC (St.all h') (an.mono' (o.all y.1)) (Ls br) ao) λbs E=>AU ?_;refine By (kp [24,8,14,13,3,2,6,15] O) λcz z bt=>AH O E (λbu E=>?_) (λbu E=>?_)
   ·refine AU ?_;refine CO (λk l b g=>?_);cases E;exact K6 b O g (Iy (J7 b (v:=_) O) (Iy (J7 b (v:=_) O) K5)) O EX ⟨O,(iq (n:=0) O),z⟩
   refine AU ?_;refine CX (.inl O) z (AU ?_);have bv:=an.mono' bt;refine DM E O O O QD O (λap aq h' o=>Gp (St.all h') (bv.mono' (o.all z.1)) aq) λap E bw=>?_;have c0:=bw;refine AU ?_;refine By (kp [6,14,13,3,2,15] O) λc1 K c2=>AU ?_;refine AH O E (λbx E=>?_) (λbx E=>?_)
   ·refine AU ?_;refine CO (λk l b g=>?_);cases E;exact K6 b O g (Iy (J7 b (v:=_) O) (Iy (J7 b (v:=_) O) K5)) O EX ⟨O,(iq (n:=0) O),K⟩
   refine AU ?_;refine BP (AU ?_);refine WF.nil (λk l b g=>?_);exact⟨(BT (s+ap)),(BT (x+1)),_,_,b.sub (kp [14,13,3,2,6,15] O),g,K,EX,(BV _),(BV _),E⟩
  refine BM O (λk l b g=>?_);exact⟨s,_,_,b.sub (kp [3,2,6] O),g,y,am,bk,E⟩
 rintro k l ⟨u,Z,ab,b,g,ar,bz,b0,E⟩;refine AK ?_ b g;clear b g l k;rw[GM] at E;have au:=ak.mono bz;have b1:=au.fl Li;obtain⟨b2,_,b3⟩:=b1.ll;refine AU ?_;refine AV (λa w=>∃(J:Int),IV B Z ab (76,[]) a w [(6,vI J)] (L) λ_ _=>AA J∧Ig N J=some r) ?_ ?_
 ·refine A9 (λn3=>λa w=>∃(t:Int) (A:Int),IV B Z ab (76,[]) a w [(34,vI (↑i.I.length:Int)),(33,b2),(3,q8),(2,q1),(6,vI t),(35,vI A)] (L) λ_ _=>AA t∧AA A∧G7 N j i (Ig N) n3 t A=some r) N ?_ ?_ ?_
  ·intro k l b g;exact⟨u,0,_,_,b.sub (kp [34,33,3,2,6,35] O),g,ar,(CJ.refl Z ab),b0,(iq (n:=0) O),E⟩
  ·rintro k l ⟨_,_,_,_,_,_,_,_,_,_,E⟩;rw[G7] at E;cases E
  rintro n3 k l ⟨t,A,c3,c4,b,g,M,av,b4,c5,E⟩;refine AK ?_ b g;clear b g l k;rw[G7] at E;refine AU ?_;refine AH O E (λb5 E=>?_) (λb5 E=>?_)
  ·refine AU ?_;refine A6 (AU ?_);have b6:=b3.mono' av;refine BK E O O b6 O2.1 O λb7 E c6 b8=>?_;obtain⟨c7,_,b9⟩:=b8.lv;refine AU ?_;refine Dp Sn O M λc8 c9 aw ca=>?_;have cb:=b9.mono ca;obtain⟨cd,rfl,ce,ax,Q⟩:=AY.ex cb;refine IH O O O ON Su.1 O aw .head O λcf C ay=>AU ?_;refine CX (.inl O) C ?_;have cg:=au.nw;refine AU ?_;obtain⟨U,c,E⟩:=bd E;refine AZ 8 52 (.bool U) ?_ ?_
   ·cases V:(decide (b7.At<i.B))
    ·have c:=HX V c;have az:=k6.nw;have a0:=az.fl Cp;obtain⟨ch,_,a1⟩:=a0.ll;have a2:=a1.le;refine AU ?_;refine BE c O O O PJ O (λa3 ac h' o=>H1 (St.all h') ax (Ls a2) ac) λa3 c=>AU ?_;cases c;exact A0 O
    have c:=HW V c;cases c;exact BI O O
   refine AU ?_;obtain⟨a4,d,E⟩:=bd E;refine AZ 8 61 (.bool a4) ?_ ?_
   ·cases W:U
    ·have d:=HX W d;have a5:=k6.nw;have a6:=a5.fl IJ;obtain⟨ci,_,a7⟩:=a6.ll;have a8:=a7.le;refine AU ?_;have a9:=Q.mono' ay;refine BE d O O O gG O (λba ad h' o=>PC (St.all h') (a9.mono' (o.all C.1)) (Ls a8) ad) λba d=>AU ?_;cases d;exact A0 O
    have d:=HW W d;cases d;exact BI O O
   refine By (kp [61,10,34,33,3,2,6,35] O) λcj m ck=>AH O E (λbb E=>?_) (λbb E=>?_)
   ·refine AU ?_;refine CO (λk l b g=>?_);have ae:=m.drop .head;cases E;exact K6 b O g (Iy (J7 b (v:=_) O) (Iy (J7 b (v:=_) O) K5)) O EX ⟨O,(iq (n:=0) O),ae⟩
   refine AU ?_;refine CX (.inl O) m (AU ?_);have bc:=Q.nw;refine DM E O O O QD O (λX af h' o=>Gp (St.all h') (bc.mono' (o.all m.1)) af) λX E be=>?_;have cl:=be;refine AU ?_;refine By (kp [11,34,33,3,2,6,35] O) λcm D cn=>AU ?_;refine AH O E (λbf E=>?_) (λbf E=>?_)
   ·refine AU ?_;refine CO (λk l b g=>?_);have ag:=D.drop .head;cases E;exact K6 b O g (Iy (J7 b (v:=_) O) (Iy (J7 b (v:=_) O) K5)) O EX ⟨O,(iq (n:=0) O),ag⟩
   refine AU ?_;refine BP (AU ?_);refine WF.nil (λk l b g=>?_);have ah:=D.drop .head;exact⟨(BT (t+X)),(BT (A+1)),_,_,b.sub (kp [34,33,3,2,6,35] O),g,ah,EX,(BV _),(BV _),E⟩
  refine BM O (λk l b g=>?_);exact⟨t,_,_,b.sub (kp [6] O),g,M,av,b4,E⟩
 rintro k l ⟨J,co,cp,b,g,ai,cq,cc,E⟩;refine AK ?_ b g;clear b g l k;rw[Ig] at E;refine AU ?_;refine CO (λk l b g=>?_);cases E;exact K6 b O g (Iy (J7 b (v:=_) O) (Iy (J7 b (v:=_) O) K5)) O EX ⟨O,cc,ai⟩
def Nt (F:St S L h) {c:Value}{i:(List Int)}(l:Sl S h AB c i) {b:Int}(q:AA b) {r:Int×Bool}(E:Jn N i b=some r):
 CL prog 84 #[c,vI b] S h (λv S' h'=>v= .tuple #[vI r.1,.bool r.2]∧AA r.1∧St S' (L) h'):=by
 refine CL.go 29 func84 O ntmps84 O λB=>?_;rw[Jn] at E;refine AU ?_;refine AV (λa w=>∃(u:Int),IV B S h (29,[]) a w [(6,vI u)] (L) λ_ _=>AA u∧H8 N u=some r) ?_ ?_
 ·refine A9 (λD=>λa w=>∃(s:Int) (j:Int),IV B S h (29,[]) a w [(10,vI (↑i.length:Int)),(9,c),(1,vI b),(6,vI s),(11,vI j)] (L) λ_ _=>AA s∧AA j∧Gf N i b (H8 N) D s j=some r) N ?_ ?_ ?_
  ·intro m o d g;exact⟨0,0,_,_,d.sub (kp [10,9,1,6,11] O),g,F,(CJ.refl S h),(iq (n:=0) O),(iq (n:=0) O),E⟩
  ·rintro m o ⟨_,_,_,_,_,_,_,_,_,_,E⟩;rw[Gf] at E;cases E
  rintro D m o ⟨s,j,G,H,d,g,k,p,I,J,E⟩;refine AK ?_ d g;clear d g o m;rw[Gf] at E;refine AU ?_;refine AH O E (λx E=>?_) (λx E=>?_)
  ·refine AU ?_;refine A6 (AU ?_);have y:=l.mono' p;refine BK E O O y Ck.1 O λz E K M=>AU ?_;refine AH O E (λA E=>?_) (λA E=>?_)
   ·refine AU ?_;refine CO (λm o d g=>?_);cases E;exact K6 d O g (Iy (J7 d (v:=_) O) (Iy (J7 d (v:=_) O) K5)) O p ⟨O,(iq (n:=0) O),k⟩
   refine AU ?_;refine BP (AU ?_);refine WF.nil (λm o d g=>?_);exact⟨(BT (s+z)),(BT (j+1)),_,_,d.sub (kp [10,9,1,6,11] O),g,k,p,(BV _),(BV _),E⟩
  refine BM O (λm o d g=>?_);exact⟨s,_,_,d.sub (kp [6] O),g,k,p,I,E⟩
 rintro m o ⟨u,Q,U,d,g,t,C,V,E⟩;refine AK ?_ d g;clear d g o m;rw[H8] at E;refine AU ?_;refine CO (λm o d g=>?_);cases E;exact K6 d O g (Iy (J7 d (v:=_) O) (Iy (J7 d (v:=_) O) K5)) O C ⟨O,V,t⟩
def O1 (hs:St S L h) {p:Value}{c:AF}(F:Rd S h B3 p c) {q:Value}{d:AI}(G:Rd S h BU q d) {r:Bool}(E:Ka N c d=some r):
 CL prog 38 #[p,q] S h (λv S' h'=>v= .bool r∧St S' (L) h'):=by
 refine CL.go 168 func38 O ntmps38 O λB=>?_;rw[Ka] at E;refine AU ?_;refine CZ O F CE O hs λq1 S2 h3 b5 e5 k6=>?_;have k7:=G.mono e5;refine CZ O k7 CE O b5 λq8 S9 V ak s W=>?_;have en:=k6.mono s;have eo:=k6.mono s;have ep:=k6.mono s;have eq:=k6.mono s;have er:=k6.mono s;refine AU ?_;refine AH O E (λb6 E=>?_) (λb6 E=>?_)
 ·exact RT
 have am:=k6.mono s;have b7:=am.fl Cp;obtain⟨b8,_,b9⟩:=b7.ll;refine AU ?_;refine AV (λa w=>IV B S9 V (168,[]) a w [(3,q8),(2,q1)] (L) λ_ _=>G3 N c d=some r) ?_ ?_
 ·refine A9 (λn1=>λa w=>∃(t:Int),IV B S9 V (168,[]) a w [(68,vI (↑c.A.length:Int)),(67,b8),(3,q8),(2,q1),(69,vI t)] (L) λ_ _=>AA t∧G1 N c d (G3 N c d) n1 t=some r) N ?_ ?_ ?_
  ·intro k l g i;exact⟨0,_,_,g.sub (kp [68,67,3,2,69] O),i,ak,(CJ.refl S9 V),(iq (n:=0) O),E⟩
  ·rintro k l ⟨_,_,_,_,_,_,_,_,E⟩;rw[G1] at E;cases E
  rintro n1 k l ⟨t,es,eu,g,i,H,an,ev,E⟩;refine AK ?_ g i;clear g i l k;rw[G1] at E;refine AU ?_;refine AH O E (λca E=>?_) (λca E=>?_)
  ·refine AU ?_;refine A6 (AU ?_);have cb:=b9.mono' an;refine BK E O O cb NZ.1 O λew E ey ao=>?_;obtain⟨cd,_,ap⟩:=ao.lv;refine AU ?_;refine Dp QL O H λce cf X aq=>AU ?_;have ar:=ap.mono aq;obtain⟨cg,ch,ci,rfl,cj,ck,cl,cm,cn,co,cp,cq,cr,cs,ct,cu⟩:=B1.ex ar;refine IH O O O ON QO.1 O X .head O λcv Y cw=>AU ?_;refine ID (.inr ⟨mo,by kernel_rfl⟩) ?_;have I:=W.nw;have au:=I.fl Lh;obtain⟨cx,_,av⟩:=au.ll;refine AU ?_;refine BK E O O av Ck.1 O λaw E cy cz=>AU ?_;obtain⟨ax,b,E⟩:=bd E;refine AZ 11 91 (.bool ax) ?_ ?_
   ·cases J:(decide (aw<0))
    ·have b:=HX J b;have ay:=I.fl Lh;obtain⟨c0,_,az⟩:=ay.ll;refine AU ?_;refine BK b O O az Ck.1 O λc1 b c2 c3=>AU ?_;refine Rw O O O (AU ?_);cases b;exact A0 O
    have b:=HW J b;cases b;exact BI O O
   refine AU ?_;refine AH O E (λa0 E=>?_) (λa0 E=>?_)
   ·exact RT
   refine AU ?_;refine BP (AU ?_);refine WF.nil (λk l g i=>?_);have Z:=Y.drop .head;exact⟨(BT (t+1)),_,_,g.sub (kp [68,67,3,2,69] O),i,Z,EX,(BV _),E⟩
  refine BM O (λk l g i=>?_);exact⟨_,_,g.sub (kp [3,2] O),i,H,an,E⟩
 rintro k l ⟨u,x,g,i,ab,a1,E⟩;refine AK ?_ g i;clear g i l k;rw[G3] at E;have K:=am.mono a1;have a2:=K.fl HY;obtain⟨a3,_,a4⟩:=a2.ll;refine AU ?_;refine AV (λa w=>IV B u x (168,[]) a w [(3,q8),(2,q1)] (L) λ_ _=>G2 N c d=some r) ?_ ?_
 ·refine A9 (λn3=>λa w=>∃(j:Int),IV B u x (168,[]) a w [(95,vI (↑c.C.length:Int)),(94,a3),(3,q8),(2,q1),(96,vI j)] (L) λ_ _=>AA j∧G0 N c d (G2 N c d) n3 j=some r) N ?_ ?_ ?_
  ·intro k l g i;exact⟨0,_,_,g.sub (kp [95,94,3,2,96] O),i,ab,(CJ.refl u x),(iq (n:=0) O),E⟩
  ·rintro k l ⟨_,_,_,_,_,_,_,_,E⟩;rw[G0] at E;cases E
  rintro n3 k l ⟨j,c4,c5,g,i,y,M,c6,E⟩;refine AK ?_ g i;clear g i l k;rw[G0] at E;refine AU ?_;refine AH O E (λa5 E=>?_) (λa5 E=>?_)
  ·refine AU ?_;refine A6 (AU ?_);have a6:=a4.mono' M;refine BK E O O a6 Ob.1 O λc7 E c8 a7=>?_;obtain⟨c9,_,a8⟩:=a7.lv;refine AU ?_;refine Dp Ov O y λda db ac a9=>AU ?_;have ba:=a8.mono a9;obtain⟨dc,dd,de,rfl,df,dg,dh,di,dj,dk,dl,dm,dn,dp,dq,dr,ds,dt,du,dv,dw,dx⟩:=CB.ex ba;refine IH O O O ON Oy.1 O ac .head O λdy ad dz=>?_;have bb:=W.nw;have bc:=bb.fl Lj;obtain⟨d0,_,be⟩:=bc.ll;refine AU ?_;refine BK E O O be Oa.1 O λd1 E d2 bf=>?_;obtain⟨d3,_,bg⟩:=bf.lv;refine AU ?_;refine Dp Sm O ad λd4 d5 ae bh=>?_;have bi:=bg.mono bh;obtain⟨rfl,⟨d6,d7⟩⟩:=BQ.ex bi;refine FK O O O O I6.1 O ae .head O λd8 af d9=>AU ?_;refine AH O E (λbj E=>?_) (λbj E=>?_)
   ·exact RT
   refine AU ?_;refine AH O E (λbk E=>?_) (λbk E=>?_)
   ·exact RT
   refine AU ?_;refine BP (AU ?_);refine WF.nil (λk l g i=>?_);have ag:=af.sel [] 2 O;exact⟨(BT (j+1)),_,_,g.sub (kp [95,94,3,2,96] O),i,ag,EX,(BV _),E⟩
  refine BM O (λk l g i=>?_);exact⟨_,_,g.sub (kp [3,2] O),i,y,M,E⟩
 rintro k l ⟨ea,eb,g,i,m,bl,E⟩;refine AK ?_ g i;clear g i l k;rw[G2] at E;refine AU ?_;refine CX (.inl O) m ?_;have bm:=K.mono bl;obtain⟨ec,_,bn⟩:=bm.lv;have Q:=W.nw;obtain⟨ed,_,bo⟩:=Q.lv;refine AU ?_;refine DM E O O O yF O (λbp ah h' o=>SL (St.all h') (bn.mono (o.all m.1)) (bo.mono (o.all m.1)) ah) λbp E bq=>?_;have ee:=bq;refine AU ?_;refine By (kp [11,10,3] O) λef z br=>AU ?_;refine AH O E (λbs E=>?_) (λbs E=>?_)
 ·exact RT
 refine AU ?_;refine CX (.inl O) z ?_;have U:=Q.mono br;have bt:=U.fl AI.f_In;obtain⟨eg,_,bu⟩:=bt.ll;refine AU ?_;refine DM E O O O oK O (λbv ai h' o=>Nt (St.all h') (bu.mono' (o.all z.1)) (iq (n:=1152921504606846976) O) ai) λbv E bw=>?_;have eh:=bw;refine AU ?_;refine By (kp [11,12,10,3] O) λei D bx=>AU ?_;refine AH O E (λbz E=>?_) (λbz E=>?_)
 ·exact RT
 refine AU ?_;refine CX (.inl O) D ?_;have b0:=U.mono bx;have b1:=b0.fl M2;obtain⟨ej,_,b2⟩:=b1.ll;refine AU ?_;refine DM E O O O oK O (λb3 aj h' o=>Nt (St.all h') (b2.mono' (o.all D.1)) (BV _) aj) λb3 E b4=>?_;have ek:=b4;refine AU ?_;exact By (kp [11] O) λel cc em=>RT
def Mt (k:St S L h) {b:Value}{c:(List (List Int))}(a:Sl S h (A5.sl AB) b c) {r:(List (List Int))}(E:GY N c=some r):
 CL prog 132 #[b] S h (λv S' h'=>St S' (OS (A5.sl AB) 29 v r::L) h'):=by
 refine CL.go 8 func132 O ntmps132 O λB=>?_;rw[GY] at E;rcases a.cases with ⟨rfl,rfl⟩|⟨n,m,rfl,a⟩
 ·have s:(some ([]:List (List Int)))=some r:=by simpa [chk,HQ] using E
  refine AU ?_;refine JY O O O aR (AU ?_);refine KV O (AU ?_);have d:=k.nil (A5.sl AB) 29;cases E;exact GE d O O EX
 refine AU ?_;refine KX O O O aR (AU ?_);refine KW O (AU ?_);refine JI (r:=(A5.sl AB)) Wk O O k λv1 t g o=>AU ?_;have p:=a.mono' o;obtain⟨i,E⟩:=Lt E;refine Eb (r:=(A5.sl AB)) (l:=([]:List (List Int))) (xs:=c) O O Wk O (Sl.src p) O i O g (λ_=> .head) λu w j q=>AU ?_;cases E;exact GE j O O EX
def JE (k:St S L h) {b:Value}{c:(List AT)}(a:Sl S h AY b c) {r:(List AT)}(E:Cz N c=some r):
 CL prog 133 #[b] S h (λv S' h'=>St S' (OS AY 103 v r::L) h'):=by
 refine CL.go 8 func133 O ntmps133 O λB=>?_;rw[Cz] at E;rcases a.cases with ⟨rfl,rfl⟩|⟨n,m,rfl,a⟩
 ·have s:(some ([]:List AT))=some r:=by simpa [chk,HQ] using E
  refine AU ?_;refine JY O O O aQ (AU ?_);refine KV O (AU ?_);have d:=k.nil AY 103;cases E;exact GE d O O EX
 refine AU ?_;refine KX O O O aQ (AU ?_);refine KW O (AU ?_);refine JI (r:=AY) SE O O k λv1 t g o=>AU ?_;have p:=a.mono' o;obtain⟨i,E⟩:=Lt E;refine Eb (r:=AY) (l:=([]:List AT)) (xs:=c) O O SE O (Sl.src p) O i O g (λ_=> .head) λu w j q=>AU ?_;cases E;exact GE j O O EX
def GW (k:St S L h) {b:Value}{c:(List A3)}(a:Sl S h BQ b c) {r:(List A3)}(E:BW N c=some r):
 CL prog 112 #[b] S h (λv S' h'=>St S' (OS BQ 107 v r::L) h'):=by
 refine CL.go 8 func112 O ntmps112 O λB=>?_;rw[BW] at E;rcases a.cases with ⟨rfl,rfl⟩|⟨n,m,rfl,a⟩
 ·have s:(some ([]:List A3))=some r:=by simpa [chk,HQ] using E
  refine AU ?_;refine JY O O O aP (AU ?_);refine KV O (AU ?_);have d:=k.nil BQ 107;cases E;exact GE d O O EX
 refine AU ?_;refine KX O O O aP (AU ?_);refine KW O (AU ?_);refine JI (r:=BQ) fD O O k λv1 t g o=>AU ?_;have p:=a.mono' o;obtain⟨i,E⟩:=Lt E;refine Eb (r:=BQ) (l:=([]:List A3)) (xs:=c) O O fD O (Sl.src p) O i O g (λ_=> .head) λu w j q=>AU ?_;cases E;exact GE j O O EX
def PL (hs:St S L h) {am:Value}{q:AI}(a6:Rd S h BU am q) {r:AI}(E:Is N q=some r):
 CL prog 71 #[am] S h (λv S' h'=>Rd S' h' BU v r∧St S' (L) h'):=by
 refine CL.go 66 func71 O ntmps71 O λB=>?_;rw[Is] at E;refine AU ?_;obtain⟨v3,v5,v7,v9,ab,K,rfl,r2,k4,k6,k8,d9,eb,ec⟩:=BU.ex a6;refine NQ O O O hs λA hi cm hj=>Dp Ou O cm λG hk cn hl=>AU ?_;refine DQ (AU ?_);have ed:=k4.nw;refine Ga E O O O tR O (λt co=>Mt cn ed co) λt E hm bf hn ho p=>?_;have a8:=p;refine AU ?_;obtain⟨j,c,rfl,hp⟩:=a8.oslen mh;refine Ge (cs':=[vI q.B,(.slice j t.length c),v5,v7,v9,ab,K]) O O O O V1.1 O a8 (.tail (.tail .head)) O O λbg cp hq=>AU ?_;refine AV (λa w=>∃(ac:List (List Int)),IV B bf bg (66,[]) a w [(2,vP G 0),(1,vP A 0)] (OS (A5.sl AB) 29 (.slice j t.length c) ac::Bx G 36 [vI 0,vN,vN,vN,vN,vN,vN]::Bx A 36 [vI q.B,(.slice j t.length c),v5,v7,v9,ab,K]::L) λ_ _=>Ef N q ac=some r) ?_ ?_
 ·refine A9 (λn1=>λa w=>∃(z:Int) (aq:List (List Int)),IV B bf bg (66,[]) a w [(11,vI (↑t.length:Int)),(2,vP G 0),(1,vP A 0),(12,vI z)] (OS (A5.sl AB) 29 (.slice j t.length c) aq::Bx G 36 [vI 0,vN,vN,vN,vN,vN,vN]::Bx A 36 [vI q.B,(.slice j t.length c),v5,v7,v9,ab,K]::L) λ_ _=>AA z∧D6 N t (Ef N q) n1 z aq=some r) N ?_ ?_ ?_
  ·intro aa ww C D;exact⟨0,t,_,_,C.sub (kp [11,2,1,12] O),D,cp,(CJ.refl bf bg),(iq (n:=0) O),E⟩
  ·rintro aa ww ⟨_,_,_,_,_,_,_,_,_,E⟩;rw[D6] at E;cases E
  rintro n1 aa ww ⟨z,aq,cq,cr,C,D,H,ee,hr,E⟩;refine AK ?_ C D;clear C D ww aa;rw[D6] at E;refine AU ?_;refine AH O E (λef E=>?_) (λef E=>?_)
  ·refine AU ?_;refine A6 (AU ?_);refine Rp (kp [3,11,2,1,12] O) ?_;obtain⟨ht,cs,E⟩:=bd E;obtain⟨ct,cu,E⟩:=bd E;obtain⟨bh,cv,E⟩:=bd E;obtain⟨hu,cw,E⟩:=bd E;refine Nd (m:=[(3,vI z),(11,vI (↑t.length:Int)),(2,vP G 0),(1,vP A 0),(12,vI z)]) 10 (λi v hh=>match i with|0=>v=vP A 1|1=>v=(.slice j t.length c)|2=>v=vI z∧AA z|3=>v=vP A 1|4=>v=(.slice j t.length c)|5=>v=vI z∧AA z|6=>EP (.slice j t.length c) (z.toNat*((A5.sl AB)).sz+0) v|7=>Sl cq hh AB v ct|8=>Sl (SN cq cr hh) hh AB v bh|9=>EP (.slice j t.length c) (z.toNat*((A5.sl AB)).sz+0) v|_=>False) [[],[(0,15)],[],[],[(3,18)],[],[(4,19),(5,20)],[(6,21)],[(7,22)],[(1,16),(2,17)]] [(8,23),(9,24)] mo (by kernel_rfl) [3,11,2,1,12] O (by kernel_rfl) (by kernel_rfl) (by kernel_rfl) (kp [3,11,2,1,12] O) MO ?_ ?_
   ·refine A7.cons O Fy (A7.cons O Fy (A7.cons O Fy (A7.cons O Fy (A7.cons O Fy (A7.cons O Fy (A7.cons O ?_ ?_))))))
    ·intro mq hh o;intro hv eg hx eh;have u:=o.st H;cases eg;obtain⟨rfl,hy⟩:=eh;refine AU ?_;refine BY u mh O O Jl.1 cs O λhz cx=>AU ?_;exact B0 cx
    refine A7.cons O ?_ ?_
    ·intro mq hh o;intro h0 ei;have u:=o.st H;refine AU ?_;have ej:=u.epAt mh cu FZ.id ei;refine G6 Hc (λ_ x=>x) O ej GH.1 O λh1 ek=>AU ?_;exact B0 ek
    refine A7.cons O ?_ ?_
    ·intro mq hh o;intro el ar;have u:=SN.st H o;have ar:=Sl.sn cr ar;have ar:Sl _ _ AB el ct:=ar;have M:=u.fz;refine E9 O O O NN O M (B7 (St.all _) (ar.mono M.ea.1 M.ea.2) cv) λh2 h3 h4 es h5 em p=>?_;have cy:=p;have a9:=M.join em cy ⟨OS.flat (λ{_ _ _ _ _ _} k=>k),trivial⟩;simp only[Acu,Acs] at a9;obtain⟨h6,bi,eu,cz⟩:=a9.pubs .head;have au:=Fz.done o EX bi;exact BB au.1 (Sl.mono' cz au.2)
    refine A7.cons O ?_ ?_
    ·intro mq hh o;intro ev c0 ew c1;have u:=o.st H;cases c0;obtain⟨rfl,ey⟩:=c1;refine AU ?_;refine BY u mh O O Jl.1 cw O λez bj=>AU ?_;exact B0 bj
    exact trivial
   intro e0 c2 c3 av e1 c4;have bk:=SN.st H c2;have av:Sl _ _ AB c3 bh:=av;obtain⟨c5,bl,E⟩:=bd E;refine Ed (r:=(A5.sl AB)) (l:=aq) (i:=z) (x:=c5) O O (KH av) c4 bl Mh.id GH.1 (λ_=>rfl) bk .head λe2 bm e3=>AU ?_;refine BP (AU ?_);refine WF.nil (λaa ww C D=>?_);exact⟨(BT (z+1)),(upd aq z bh),_,_,C.sub (kp [11,2,1,12] O),D,bm,EX,(BV _),E⟩
  refine BM O (λaa ww C D=>?_);exact⟨aq,_,_,C.sub (kp [2,1] O),D,H,ee,E⟩
 rintro aa ww ⟨ac,e4,e5,C,D,bn,e6,E⟩;refine AK ?_ C D;clear C D ww aa;rw[Ef] at E;refine AU ?_;refine DQ (AU ?_);have c6:=k8.nw;refine Ga E O O O tQ O (λg bo=>JE bn c6 bo) λg E e7 aw e8 e9 p=>?_;have ax:=p;refine AU ?_;obtain⟨d,b,rfl,fa⟩:=ax.oslen mh;refine Ge (cs':=[vI q.B,(.slice j t.length c),v5,(.slice d g.length b),v9,ab,K]) O O O O X8.1 O ax (.tail (.tail (.tail .head))) O O λay bp fb=>AU ?_;refine AV (λa w=>∃(an:List AT),IV B aw ay (66,[]) a w [(2,vP G 0),(1,vP A 0)] (OS AY 103 (.slice d g.length b) an::OS (A5.sl AB) 29 (.slice j t.length c) ac::Bx G 36 [vI 0,vN,vN,vN,vN,vN,vN]::Bx A 36 [vI q.B,(.slice j t.length c),v5,(.slice d g.length b),v9,ab,K]::L) λ_ _=>Ee N q ac an=some r) ?_ ?_
 ·refine A9 (λn3=>λa w=>∃(s:Int) (I:List AT),IV B aw ay (66,[]) a w [(32,vI (↑g.length:Int)),(2,vP G 0),(1,vP A 0),(33,vI s)] (OS AY 103 (.slice d g.length b) I::OS (A5.sl AB) 29 (.slice j t.length c) ac::Bx G 36 [vI 0,vN,vN,vN,vN,vN,vN]::Bx A 36 [vI q.B,(.slice j t.length c),v5,(.slice d g.length b),v9,ab,K]::L) λ_ _=>AA s∧D5 N g (Ee N q ac) n3 s I=some r) N ?_ ?_ ?_
  ·intro aa ww C D;exact⟨0,g,_,_,C.sub (kp [32,2,1,33] O),D,bp,(CJ.refl aw ay),(iq (n:=0) O),E⟩
  ·rintro aa ww ⟨_,_,_,_,_,_,_,_,_,E⟩;rw[D5] at E;cases E
  rintro n3 aa ww ⟨s,I,ba,bb,C,D,y,c7,fc,E⟩;refine AK ?_ C D;clear C D ww aa;rw[D5] at E;refine AU ?_;refine AH O E (λc8 E=>?_) (λc8 E=>?_)
  ·refine AU ?_;refine A6 (AU ?_);refine Rp (kp [4,32,2,1,33] O) ?_;obtain⟨fd,bq,E⟩:=bd E;obtain⟨bc,br,E⟩:=bd E;obtain⟨az,bs,E⟩:=bd E;obtain⟨fe,bt,E⟩:=bd E;refine Nd (m:=[(4,vI s),(32,vI (↑g.length:Int)),(2,vP G 0),(1,vP A 0),(33,vI s)]) 12 (λi v hh=>match i with|0=>v=vP A 3|1=>v=(.slice d g.length b)|2=>v=vI s∧AA s|3=>v=vP A 3|4=>v=(.slice d g.length b)|5=>v=vI s∧AA s|6=>EP (.slice d g.length b) (s.toNat*(AY).sz+0) v|7=>EP (.slice d g.length b) (s.toNat*(AY).sz+2) v|8=>Sl ba hh AB v bc.V|9=>Sl (SN ba bb hh) hh AB v az|10=>EP (.slice d g.length b) (s.toNat*(AY).sz+0) v|11=>EP (.slice d g.length b) (s.toNat*(AY).sz+2) v|_=>False) [[],[(0,36)],[],[],[(3,39)],[],[(4,40),(5,41)],[(6,42)],[(7,43)],[(8,44)],[(1,37),(2,38)],[(10,46)]] [(9,45),(11,47)] mo (by kernel_rfl) [4,32,2,1,33] O (by kernel_rfl) (by kernel_rfl) (by kernel_rfl) (kp [4,32,2,1,33] O) MO ?_ ?_
   ·refine A7.cons O Fy (A7.cons O Fy (A7.cons O Fy (A7.cons O Fy (A7.cons O Fy (A7.cons O Fy (A7.cons O ?_ ?_))))))
    ·intro mq hh o;intro ff c9 fg da;have u:=o.st y;cases c9;obtain⟨rfl,fh⟩:=da;refine AU ?_;refine BY u mh O O O2.1 bq O λfi bu=>AU ?_;exact B0 bu
    refine A7.cons O ?_ ?_
    ·intro mq hh o;intro fj db;have u:=o.st y;refine AU ?_;refine KF O db Wj.1 O λfk bv=>AU ?_;exact B0 bv
    refine A7.cons O ?_ ?_
    ·intro mq hh o;intro fl dc;have u:=o.st y;refine AU ?_;have dd:=u.epAt mh br AT.f_Part dc;refine G6 Hc (λ_ x=>x) O dd GH.1 O λfm de=>AU ?_;exact B0 de
    refine A7.cons O ?_ ?_
    ·intro mq hh o;intro df ad;have u:=SN.st y o;have ad:=Sl.sn bb ad;have ad:Sl _ _ AB df bc.V:=ad;have M:=u.fz;refine E9 O O O NN O M (B7 (St.all _) (ad.mono M.ea.1 M.ea.2) bs) λfn fo fp en fq dg p=>?_;have bw:=p;have a0:=M.join dg bw ⟨OS.flat (λ{_ _ _ _ _ _} k=>k),trivial⟩;simp only[Acu,Acs] at a0;obtain⟨fr,bx,fs,dh⟩:=a0.pubs .head;have a1:=Fz.done o EX bx;exact BB a1.1 (Sl.mono' dh a1.2)
    refine A7.cons O ?_ ?_
    ·intro mq hh o;intro ft di fu dj;have u:=o.st y;cases di;obtain⟨rfl,fv⟩:=dj;refine AU ?_;refine BY u mh O O O2.1 bt O λfw bz=>AU ?_;exact B0 bz
    refine A7.cons O ?_ ?_
    ·intro mq hh o;intro fx dk;have u:=o.st y;refine AU ?_;refine KF O dk Wj.1 O λfy b0=>AU ?_;exact B0 b0
    exact trivial
   intro f0 dl dm a2 f1 dn;have b1:=SN.st y dl;have a2:Sl _ _ AB dm az:=a2;obtain⟨be,b2,E⟩:=bd E;refine Ed (r:=AY) (l:=I) (i:=s) (x:=be) O O (KH a2) dn b2 AT.u_Part GH.1 (λ_=>rfl) b1 .head λf2 b3 f3=>AU ?_;refine BP (AU ?_);refine WF.nil (λaa ww C D=>?_);exact⟨(BT (s+1)),(upd I s ({ be with V:=az})),_,_,C.sub (kp [32,2,1,33] O),D,b3,EX,(BV _),E⟩
  refine BM O (λaa ww C D=>?_);exact⟨I,_,_,C.sub (kp [2,1] O),D,y,c7,E⟩
 rintro aa ww ⟨an,f4,f5,C,D,Q,f6,E⟩;refine AK ?_ C D;clear C D ww aa;rw[Ee] at E;refine AU ?_;refine DQ (AU ?_);have dp:=k6.nw;refine DX E O O O NN O Q (λJ b4=>B7 (St.all _) (dp.mono Q.ea.1 Q.ea.2) b4) λJ E f7 f8 f9 eo ga dq p=>?_;have b5:=p;have ag:=Q.join dq b5 ⟨OS.flat (λ{_ _ _ _ _ _} k=>k),trivial⟩;simp only[Acu,Acs] at ag;refine AU ?_;obtain⟨U,F,rfl,gb⟩:=ag.oslen mh;refine Ge (cs':=[vI q.B,(.slice j t.length c),(.slice U J.length F),(.slice d g.length b),v9,ab,K]) O O O O GH.1 O ag (.tail (.tail (.tail (.tail .head)))) O O λgc W ge=>AU ?_;refine DQ (AU ?_);have dr:=d9.nw;refine DX E O O O gJ O W (λaf b6=>GW (St.all _) (dr.mono W.ea.1 W.ea.2) b6) λaf E gf gg gh ep gi ds p=>?_;have b7:=p;have ah:=W.join ds b7 ⟨OS.flat (λ{_ _ _ _ _ _} k=>k),trivial⟩;simp only[Acu,Acs] at ah;refine AU ?_;obtain⟨ai,X,rfl,gj⟩:=ah.oslen mh;refine Ge (cs':=[vI q.B,(.slice j t.length c),(.slice U J.length F),(.slice d g.length b),(.slice ai af.length X),ab,K]) O O O O nA.1 O ah (.tail (.tail (.tail (.tail (.tail .head))))) O O λgl Y gm=>AU ?_;refine DQ (AU ?_);have dt:=eb.nw;refine DX E O O O NN O Y (λao b8=>B7 (St.all _) (dt.mono Y.ea.1 Y.ea.2) b8) λao E gn gp gq eq gr du p=>?_;have b9:=p;have aj:=Y.join du b9 ⟨OS.flat (λ{_ _ _ _ _ _} k=>k),trivial⟩;simp only[Acu,Acs] at aj;refine AU ?_;obtain⟨a3,ap,rfl,gs⟩:=aj.oslen mh;refine Ge (cs':=[vI q.B,(.slice j t.length c),(.slice U J.length F),(.slice d g.length b),(.slice ai af.length X),(.slice a3 ao.length ap),K]) O O O O GH.1 O aj (.tail (.tail (.tail (.tail (.tail (.tail .head)))))) O O λgu Z gv=>AU ?_;refine DQ (AU ?_);have dv:=ec.nw;refine DX E O O O NN O Z (λa4 ca=>B7 (St.all _) (dv.mono Z.ea.1 Z.ea.2) ca) λa4 E gw gx gy er gz dw p=>?_;have cb:=p;have ak:=Z.join dw cb ⟨OS.flat (λ{_ _ _ _ _ _} k=>k),trivial⟩;simp only[Acu,Acs] at ak;refine AU ?_;obtain⟨cc,a7,rfl,g0⟩:=ak.oslen mh;refine Ge (cs':=[vI q.B,(.slice j t.length c),(.slice U J.length F),(.slice d g.length b),(.slice ai af.length X),(.slice a3 ao.length ap),(.slice cc a4.length a7)]) O O O O GH.1 O ak (.tail (.tail (.tail (.tail (.tail (.tail (.tail .head))))))) O O λg1 cd g2=>AU ?_;refine FK O O O O Ij.1 O cd (.tail (.tail (.tail (.tail (.tail (.tail .head)))))) O λg3 ce g4=>AU ?_;refine CO (λaa ww C D=>?_);obtain⟨g5,cf,g6,dx⟩:=ce.pubs (.tail (.tail (.tail (.tail (.tail .head)))));obtain⟨g7,cg,g8,dy⟩:=cf.pubs (.tail (.tail (.tail .head)));obtain⟨g9,ch,ha,dz⟩:=cg.pubs (.tail (.tail (.tail .head)));obtain⟨hb,ci,hc,d0⟩:=ch.pubs (.tail (.tail .head));obtain⟨hd,cj,he,d1⟩:=ci.pubs (.tail .head)
 obtain⟨hg,ck,d2,d3⟩:=cj.pubs .head;have a5:=ck.drop (.tail .head);have d4:=dx.nw;have d5:=dy.nw;have d6:=dz.nw;have d7:=d0.nw;have d8:=d1.mono' d2;have cl:=a5.drop .head;cases E;exact K6 C O D (Iy (W5 C D a5 O mh Ij.1 O) K5) O EX ⟨(BU.mk (x:=(⟨q.B,ac,J,an,af,ao,a4⟩:AI)) r2 d4 d5 d6 d7 d8 d3),cl⟩
end Go.Proofs.YtabonambpbofgaaGreat
