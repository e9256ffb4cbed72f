import Derived.Test.YtabonambpbofgaaGreatQInst
import Derived.Test.YtabonambpbofgaaGreatQForms
import Derived.Test.YtabonambpbofgaaGreatQWalk1
import Derived.Test.YtabonambpbofgaaGreatQSortD
import Derived.Test.YtabonambpbofgaaGreatQWalk4
namespace Go.Proofs.YtabonambpbofgaaGreat
set_option linter.all false
open Go.RowKit
open Go.Proofs.Tryz
set_option maxRecDepth 10000
set_option maxHeartbeats 20000000
variable {r:Bool}{a3 ak b c g j k m p:Value}{l:AF}{a:Int}{d:xq}{s:AH}
variable{N:Nat}{S:Nat->Prop}{L:List HP}{h:AV}
def QN(hs:St S L h){q:Value}{b:AF}(u:Rd S h Bz q b)(E:JQ N b=some r):
 CG prog 80 #[q] S h (λv S' h'=>v= .bool r/\St S' (L) h'):=by
 refine CG.go 64 func80 O ntmps80 O λB=>?_;rw[JQ]at E;refine AU ?_;refine CC O u CE O hs λq1 S2 h3 ax e5 k6=>?_;have k8:=k6.fl LC;obtain⟨v9,_,ay⟩:=k8.ll;refine AU ?_;refine AT (λa w=>IV B S2 h3 (64,[]) a w [(1,q1)] (L) λ_ _=>Eu N b=some r) ?_ ?_
 ·refine A0 (λn1=>λa w=>∃(s:Int),IV B S2 h3 (64,[]) a w [(9,vI (↑b.Af.length:Int)),(8,v9),(1,q1),(10,vI s)] (L) λ_ _=>AB s/\Et N b (Eu N b) n1 s=some r) N ?_ ?_ ?_
  ·intro m p k l;exact⟨0,_,_,k.sub (kp [9,8,1,10] O),l,ax,(CO.refl S2 h3),(iq (n:=0) O),E⟩
  ·rintro m p⟨_,_,_,_,_,_,_,_,E⟩;rw[Et]at E;cases E
  rintro n1 m p⟨s,b9,ca,k,l,x,I,cb,E⟩;refine AL ?_ k l;clear k l p m;rw[Et]at E;refine AU ?_;refine AK O E (λaz E=>?_) (λaz E=>?_)
  ·refine AU ?_;refine AW (AU ?_);have a0:=ay.mono' I;refine BE E O O a0 iO.1 O λcc E cd a1=>?_;obtain⟨ce,_,a2⟩:=a1.lv;refine AU ?_;refine DT eZ O x λcf cg J a3=>?_;have a4:=a2.mono a3;obtain⟨rfl,⟨ch,a5,a6,a7,a8,a9,ba⟩⟩:=Hj.ex a4;refine EM O O O O gJ.1 O J .head O λci K cj=>AU ?_;refine CP (.inl O) K ?_;have bb:=k6.nw;have bc:=bb.fl Ck;obtain⟨ck,_,be⟩:=bc.ll;have bf:=be.le;refine AU ?_;refine BD E O O O Rk O (λM Q h' o=>Ig (St.all h') a5 (Mk bf) Q) λM E=>AU ?_;obtain⟨U,c,E⟩:=bd E;refine A3 5 26 (.bool U) ?_ ?_
   ·cases V:(!M)
    ·have c:=Hl V c;refine AU ?_;refine BD c O O O Kq O (λbg W h' o=>Cs (St.all h') a6 W) λbg c=>AU ?_;cases c;exact A4 O
    have c:=Hk V c;cases c;exact BK O O
   refine AU ?_;obtain⟨X,d,E⟩:=bd E;refine A3 5 32 (.bool X) ?_ ?_
   ·cases Y:U
    ·have d:=Hl Y d;refine AU ?_;refine BD d O O O IJ O (λbh Z h' o=>Cd (St.all h') a7 (iq (n:=0) O) (iq (n:=24) O) Z) λbh d=>AU ?_;cases d;exact A4 O
    have d:=Hk Y d;cases d;exact BK O O
   refine AU ?_;obtain⟨ab,g,E⟩:=bd E;refine A3 5 38 (.bool ab) ?_ ?_
   ·cases ac:X
    ·have g:=Hl ac g;refine AU ?_;refine BD g O O O IJ O (λbi ad h' o=>Cd (St.all h') a8 (iq (n:=0) O) (iq (n:=1073741824) O) ad) λbi g=>AU ?_;cases g;exact A4 O
    have g:=Hk ac g;cases g;exact BK O O
   refine AU ?_;obtain⟨ae,i,E⟩:=bd E;refine A3 5 44 (.bool ae) ?_ ?_
   ·cases af:ab
    ·have i:=Hl af i;refine AU ?_;refine BD i O O O Kq O (λbj ag h' o=>Cs (St.all h') a9 ag) λbj i=>AU ?_;cases i;exact A4 O
    have i:=Hk af i;cases i;exact BK O O
   refine AU ?_;obtain⟨bk,j,E⟩:=bd E;refine A3 5 50 (.bool bk) ?_ ?_
   ·cases ah:ae
    ·have j:=Hl ah j;refine AU ?_;refine BD j O O O IJ O (λbl ai h' o=>Cd (St.all h') ba (iq (n:=0) O) (iq (n:=128) O) ai) λbl j=>AU ?_;cases j;exact A4 O
    have j:=Hk ah j;cases j;exact BK O O
   refine BW (kp [50,9,8,1,10] O) λcl aj cm=>AK O E (λbm E=>?_) (λbm E=>?_)
   ·exact RT
   refine AU ?_;refine BF (AU ?_);refine WF.nil (λm p k l=>?_);have ak:=aj.drop .head;exact⟨(BO (s+1)),_,_,k.sub (kp [9,8,1,10] O),l,ak,EX,(BQ _),E⟩
  refine BL O (λm p k l=>?_);exact⟨_,_,k.sub (kp [1] O),l,x,I,E⟩
 rintro m p⟨z,A,k,l,am,bn,E⟩;refine AL ?_ k l;clear k l p m;rw[Eu]at E;have bo:=k6.mono bn;have bp:=bo.fl Ky;obtain⟨bq,_,br⟩:=bp.ll;refine AU ?_;refine AT (λa w=>IV B z A (64,[]) a w [] (L) λ_ _=>G2 N=some r) ?_ ?_
 ·refine A0 (λn3=>λa w=>∃(t:Int),IV B z A (64,[]) a w [(54,vI (↑b.Ak.length:Int)),(53,bq),(55,vI t)] (L) λ_ _=>AB t/\Es N b (G2 N) n3 t=some r) N ?_ ?_ ?_
  ·intro m p k l;exact⟨0,_,_,k.sub (kp [54,53,55] O),l,am,(CO.refl z A),(iq (n:=0) O),E⟩
  ·rintro m p⟨_,_,_,_,_,_,_,_,E⟩;rw[Es]at E;cases E
  rintro n3 m p⟨t,cn,co,k,l,y,an,cp,E⟩;refine AL ?_ k l;clear k l p m;rw[Es]at E;refine AU ?_;refine AK O E (λbs E=>?_) (λbs E=>?_)
  ·refine AU ?_;refine AW (AU ?_);have bt:=br.mono' an;refine BE E O O bt iL.1 O λbv E bw ao=>?_;obtain⟨bx,_,ap⟩:=ao.lv;refine AU ?_;refine DT eV O y λbz b0 C aq=>?_;have ar:=ap.mono aq;obtain⟨rfl,⟨b1,au⟩⟩:=Db.ex ar;refine EM O O O O gG.1 O C .head O λb2 D b3=>AU ?_;refine CP (.inl O) D (AU ?_);refine BD E O O O IJ O (λav F h' o=>Cd (St.all h') au (iq (n:=0) O) (iq (n:=1073741824) O) F) λav E=>AU ?_;refine BW (kp [62,54,53,55] O) λb4 G b5=>AK O E (λaw E=>?_) (λaw E=>?_)
   ·exact RT
   refine AU ?_;refine BF (AU ?_);refine WF.nil (λm p k l=>?_);have H:=G.drop .head;exact⟨(BO (t+1)),_,_,k.sub (kp [54,53,55] O),l,H,EX,(BQ _),E⟩
  refine BL O (λm p k l=>?_);exact⟨_,_,k.sub Ts,l,y,an,E⟩
 rintro m p⟨b6,b7,k,l,bu,b8,E⟩;refine AL ?_ k l;clear k l p m;rw[G2]at E;exact RT
def Pj(hs:St S L h){b:AF}(s:Rd S h Bz g b)(E:In N b=some r):
 CG prog 81 #[g] S h (λv S' h'=>v= .bool r/\St S' (L) h'):=by
 refine CG.go 47 func81 O ntmps81 O λB=>?_;rw[In]at E;refine AU ?_;refine CC O s CE O hs λq1 S2 h3 ac e5 k6=>?_;have k8:=k6.fl Lr;obtain⟨v9,_,ad⟩:=k8.ll;refine AU ?_;refine AT (λa w=>IV B S2 h3 (47,[]) a w [] (L) λ_ _=>Gf N=some r) ?_ ?_
 ·refine A0 (λn1=>λa w=>∃(j:Int),IV B S2 h3 (47,[]) a w [(8,vI (↑b.Ah.length:Int)),(7,v9),(1,q1),(9,vI j)] (L) λ_ _=>AB j/\Ed N b (Gf N) n1 j=some r) N ?_ ?_ ?_
  ·intro x y k m;exact⟨0,_,_,k.sub (kp [8,7,1,9] O),m,ac,(CO.refl S2 h3),(iq (n:=0) O),E⟩
  ·rintro x y⟨_,_,_,_,_,_,_,_,E⟩;rw[Ed]at E;cases E
  rintro n1 x y⟨j,a8,a9,k,m,t,D,ba,E⟩;refine AL ?_ k m;clear k m y x;rw[Ed]at E;refine AU ?_;refine AK O E (λae E=>?_) (λae E=>?_)
  ·refine AU ?_;refine AW (AU ?_);have af:=ad.mono' D;refine BE E O O af iN.1 O λbb E bc ag=>?_;obtain⟨be,_,ah⟩:=ag.lv;refine AU ?_;refine DT eY O t λbf bg F ai=>?_;have aj:=ah.mono ai;obtain⟨rfl,⟨bh,ak,am,an,ao⟩⟩:=E7.ex aj;refine EM O O O O gI.1 O F .head O λbi G bj=>AU ?_;refine CP (.inl O) G (AU ?_);refine BD E O O O IJ O (λH I h' o=>Cd (St.all h') ak (iq (n:=0) O) (iq (n:=2) O) I) λH E=>AU ?_;obtain⟨J,c,E⟩:=bd E;refine A3 5 22 (.bool J) ?_ ?_
   ·cases K:(!H)
    ·have c:=Hl K c;refine AU ?_;refine BD c O O O IJ O (λap M h' o=>Cd (St.all h') an (iq (n:=0) O) (iq (n:=1099511627776) O) M) λap c=>AU ?_;cases c;exact A4 O
    have c:=Hk K c;cases c;exact BK O O
   refine AU ?_;obtain⟨aq,d,E⟩:=bd E;refine A3 5 28 (.bool aq) ?_ ?_
   ·cases Q:J
    ·have d:=Hl Q d;refine AU ?_;refine BD d O O O IJ O (λar U h' o=>Cd (St.all h') ao (iq (n:=0) O) (iq (n:=1440) O) U) λar d=>AU ?_;cases d;exact A4 O
    have d:=Hk Q d;cases d;exact BK O O
   refine BW (kp [28,4,8,7,1,9] O) λbk V bl=>AK O E (λau E=>?_) (λau E=>?_)
   ·exact RT
   have C:=k6.nw;have av:=C.fl Ck;obtain⟨bm,_,aw⟩:=av.ll;have ax:=aw.le;have ay:=C.fl OH;have az:=ay.i;have a0:=C.fl Hu;obtain⟨bn,_,a1⟩:=a0.ll;have a2:=a1.le;refine AU ?_;refine rP (cs:=[vI (↑b.A.length:Int),vI b.L,vI (↑b.E.length:Int)]) Aac O O O (AU ?_);refine DT uL O V λbo bp W bq=>?_;refine EM O O O O vC.1 O W .head O λbr u bs=>AU ?_;refine CP (.inr ⟨mo,Γ⟩) u (AU ?_);obtain⟨a3,q,E⟩:=bd E;have X:=Acm q;refine Aav O O Aaa X.1 X.2 O (rM (l:=([(↑b.A.length:Int),b.L,(↑b.E.length:Int)]:xq)) (Value.int .i64) OK u O mh O q Fl.1 O ?_);have a4:AB a3:=Acl (p:=λz=>AB z) (all_cons (Mk ax) (all_cons az (all_cons (Mk a2) qS))) q;refine BD E O O O Rk O (λa5 Y h' o=>Ig (St.all h') am a4 Y) λa5 E=>AU ?_;refine BW (kp [45,8,7,1,9] O) λbt Z bu=>AK O E (λa6 E=>?_) (λa6 E=>?_)
   ·exact RT
   refine AU ?_;refine BF (AU ?_);refine WF.nil (λx y k m=>?_);have ab:=Z.sel [] 2 O;exact⟨(BO (j+1)),_,_,k.sub (kp [8,7,1,9] O),m,ab,EX,(BQ _),E⟩
  refine BL O (λx y k m=>?_);exact⟨_,_,k.sub Ts,m,t,D,E⟩
 rintro x y⟨bv,bw,k,m,a7,bx,E⟩;refine AL ?_ k m;clear k m y x;rw[Gf]at E;exact RT
def QO(hs:St S L h)(t:Rd S h Bz k l)(E:JR N l=some r):
 CG prog 82 #[k] S h (λv S' h'=>v= .bool r/\St S' (L) h'):=by
 refine CG.go 80 func82 O ntmps82 O λB=>?_;rw[JR]at E;refine AU ?_;refine CC O t CE O hs λq1 S2 h3 aj e5 k6=>?_;have k8:=k6.fl Mg;obtain⟨v9,_,ak⟩:=k8.ll;refine AU ?_;refine AT (λa w=>IV B S2 h3 (80,[]) a w [] (L) λ_ _=>G3 N=some r) ?_ ?_
 ·refine A0 (λn1=>λa w=>∃(m:Int),IV B S2 h3 (80,[]) a w [(7,vI (↑l.Ai.length:Int)),(6,v9),(1,q1),(8,vI m)] (L) λ_ _=>AB m/\Ev N l (G3 N) n1 m=some r) N ?_ ?_ ?_
  ·intro x y p q;exact⟨0,_,_,p.sub (kp [7,6,1,8] O),q,aj,(CO.refl S2 h3),(iq (n:=0) O),E⟩
  ·rintro x y⟨_,_,_,_,_,_,_,_,E⟩;rw[Ev]at E;cases E
  rintro n1 x y⟨m,bn,bo,p,q,u,A,bp,E⟩;refine AL ?_ p q;clear p q y x;rw[Ev]at E;refine AU ?_;refine AK O E (λam E=>?_) (λam E=>?_)
  ·refine AU ?_;refine AW (AU ?_);have an:=ak.mono' A;refine BE E O O an iM.1 O λs E bq ao=>?_;obtain⟨br,_,ap⟩:=ao.lv;refine AU ?_;refine DT eW O u λbs bt D aq=>?_;have ar:=ap.mono aq;obtain⟨rfl,⟨bu,au,av,aw,ax,ay,az⟩⟩:=HC.ex ar;refine EM O O O O gH.1 O D .head O λbv F bw=>AU ?_;refine CP (.inl O) F ?_;have G:=k6.nw;have a0:=G.fl LC;obtain⟨bx,_,a1⟩:=a0.ll;have a2:=a1.le;refine AU ?_;refine BD E O O O Rk O (λH I h' o=>Ig (St.all h') au (Mk a2) I) λH E=>AU ?_;obtain⟨K,b,E⟩:=bd E;refine A3 12 31 (.bool K) ?_ ?_
   ·cases M:(!H)
    ·have b:=Hl M b;refine AU ?_;refine BD b O O O Rk O (λa3 Q h' o=>Ig (St.all h') av (BQ _) Q) λa3 b=>AU ?_;cases b;exact A4 O
    have b:=Hk M b;cases b;exact BK O O
   refine AU ?_;obtain⟨U,c,E⟩:=bd E;refine A3 5 44 (.bool U) ?_ ?_
   ·cases V:(K||(decide (s.J=s.C)))
    ·have c:=Hl V c;refine AU ?_;refine BD c O O O IJ O (λa4 W h' o=>Cd (St.all h') aw (iq (n:=1) O) (iq (n:=24) O) W) λa4 c=>AU ?_;cases c;exact A4 O
    have c:=Hk V c;cases c;exact BK O O
   refine AU ?_;obtain⟨X,d,E⟩:=bd E;refine A3 5 50 (.bool X) ?_ ?_
   ·cases Y:U
    ·have d:=Hl Y d;refine AU ?_;refine BD d O O O IJ O (λa5 Z h' o=>Cd (St.all h') ax (iq (n:=0) O) (iq (n:=1073741824) O) Z) λa5 d=>AU ?_;cases d;exact A4 O
    have d:=Hk Y d;cases d;exact BK O O
   refine AU ?_;obtain⟨a6,g,E⟩:=bd E;refine A3 5 56 (.bool a6) ?_ ?_
   ·cases ab:X
    ·have g:=Hl ab g;refine AU ?_;refine BD g O O O Kq O (λa7 ac h' o=>Cs (St.all h') az ac) λa7 g=>AU ?_;cases g;exact A4 O
    have g:=Hk ab g;cases g;exact BK O O
   refine BW (kp [56,4,7,6,1,8] O) λbz ad a8=>AK O E (λa9 E=>?_) (λa9 E=>?_)
   ·exact RT
   refine AU ?_;refine CP (.inl O) ad (AU ?_);obtain⟨ba,i,E⟩:=bd E;refine A3 13 78 (.bool ba) ?_ ?_
   ·cases ae:((decide (s.Bj=(-1)))&&(decide (s.Bl≠0)))
    ·have i:=Hl ae i;refine AU ?_;obtain⟨bb,j,i⟩:=bd i;refine A3 8 77 (.bool bb) ?_ ?_
     ·cases af:(decide (s.Bj≠(-1)))
      ·have j:=Hl af j;cases j;exact BK O O
      have j:=Hk af j;have bc:=G.mono a8;have be:=bc.fl Ck;obtain⟨b0,_,bf⟩:=be.ll;have bg:=bf.le;refine AU ?_;refine BD j O O O Rk O (λbh ag h' o=>Ig (St.all h') ay (Mk bg) ag) λbh j=>AU ?_;cases j;exact A4 O
     refine AU ?_;cases i;exact A4 O
    have i:=Hk ae i;cases i;exact BK O O
   refine BW (kp [78,7,6,1,8] O) λb1 ah bj=>AK O E (λai E=>?_) (λai E=>?_)
   ·exact RT
   refine AU ?_;refine BF (AU ?_);refine WF.nil (λx y p q=>?_);have z:=ah.drop .head;exact⟨(BO (m+1)),_,_,p.sub (kp [7,6,1,8] O),q,z,EX,(BQ _),E⟩
  refine BL O (λx y p q=>?_);exact⟨_,_,p.sub Ts,q,u,A,E⟩
 rintro x y⟨bk,bl,p,q,bi,bm,E⟩;refine AL ?_ p q;clear p q y x;rw[G3]at E;exact RT
def PW(hs:St S L h){q:AF}(n:Rd S h Bz m q)(E:HA N q=some r):
 CG prog 37 #[m] S h (λv S' h'=>v= .bool r/\St S' (L) h'):=by
 refine CG.go 37 func37 O ntmps37 O λB=>?_;rw[HA]at E;refine AU ?_;refine CC O n CE O hs λq1 S2 h3 l e5 p=>AU ?_;refine CP (.inl O) l ?_;obtain⟨v7,_,k8⟩:=p.lv;refine AU ?_;refine BD E O O O Adc O (λy9 Z h' o=>Q9 (St.all h') (k8.mono (o.all l.1)) Z) λy9 E=>AU ?_;obtain⟨s,a,E⟩:=bd E;refine A3 3 8 (.bool s) ?_ ?_
 ·cases t:y9
  ·have a:=Hl t a;cases a;exact BK O O
  have a:=Hk t a;obtain⟨au,_,aa⟩:=p.lv;refine AU ?_;refine BD a O O O Adb O (λab u h' o=>QP (St.all h') (aa.mono (o.all l.1)) u) λab a=>AU ?_;cases a;exact A4 O
 refine AU ?_;obtain⟨w,b,E⟩:=bd E;refine A3 3 12 (.bool w) ?_ ?_
 ·cases x:s
  ·have b:=Hl x b;cases b;exact BK O O
  have b:=Hk x b;obtain⟨av,_,ac⟩:=p.lv;refine AU ?_;refine BD b O O O Ada O (λad y h' o=>Pi (St.all h') (ac.mono (o.all l.1)) y) λad b=>AU ?_;cases b;exact A4 O
 refine AU ?_;obtain⟨z,c,E⟩:=bd E;refine A3 3 16 (.bool z) ?_ ?_
 ·cases A:w
  ·have c:=Hl A c;cases c;exact BK O O
  have c:=Hk A c;obtain⟨aw,_,ae⟩:=p.lv;refine AU ?_;refine BD c O O O Ac9 O (λaf C h' o=>QQ (St.all h') (ae.mono (o.all l.1)) C) λaf c=>AU ?_;cases c;exact A4 O
 refine AU ?_;obtain⟨D,d,E⟩:=bd E;refine A3 3 20 (.bool D) ?_ ?_
 ·cases F:z
  ·have d:=Hl F d;cases d;exact BK O O
  have d:=Hk F d;obtain⟨ax,_,ag⟩:=p.lv;refine AU ?_;refine BD d O O O Ac8 O (λah G h' o=>PJ (St.all h') (ag.mono (o.all l.1)) G) λah d=>AU ?_;cases d;exact A4 O
 refine AU ?_;obtain⟨H,g,E⟩:=bd E;refine A3 3 24 (.bool H) ?_ ?_
 ·cases I:D
  ·have g:=Hl I g;cases g;exact BK O O
  have g:=Hk I g;obtain⟨ay,_,ai⟩:=p.lv;refine AU ?_;refine BD g O O O Ac7 O (λaj J h' o=>Ph (St.all h') (ai.mono (o.all l.1)) J) λaj g=>AU ?_;cases g;exact A4 O
 refine AU ?_;obtain⟨K,i,E⟩:=bd E;refine A3 3 28 (.bool K) ?_ ?_
 ·cases M:H
  ·have i:=Hl M i;cases i;exact BK O O
  have i:=Hk M i;obtain⟨az,_,ak⟩:=p.lv;refine AU ?_;refine BD i O O O Ac6 O (λal Q h' o=>QN (St.all h') (ak.mono (o.all l.1)) Q) λal i=>AU ?_;cases i;exact A4 O
 refine AU ?_;obtain⟨U,j,E⟩:=bd E;refine A3 3 32 (.bool U) ?_ ?_
 ·cases V:K
  ·have j:=Hl V j;cases j;exact BK O O
  have j:=Hk V j;obtain⟨a0,_,am⟩:=p.lv;refine AU ?_;refine BD j O O O Ac5 O (λan W h' o=>Pj (St.all h') (am.mono (o.all l.1)) W) λan j=>AU ?_;cases j;exact A4 O
 refine AU ?_;obtain⟨ao,k,E⟩:=bd E;refine A3 3 36 (.bool ao) ?_ ?_
 ·cases X:U
  ·have k:=Hl X k;cases k;exact BK O O
  have k:=Hk X k;obtain⟨a1,_,ap⟩:=p.lv;refine AU ?_;refine BD k O O O Ac4 O (λaq Y h' o=>QO (St.all h') (ap.mono (o.all l.1)) Y) λaq k=>AU ?_;cases k;exact A4 O
 refine AU ?_;exact BW (kp [2] O) λa2 ar a3=>RT
def P6(z:St S L h){c:xq}(i:Sl S h AC b c)(E:Jv N c=some r):
 CG prog 204 #[b] S h (λv S' h'=>v= .bool r/\St S' (L) h'):=by
 refine CG.go 24 func204 O ntmps204 O λB=>?_;rw[Jv]at E;refine AU ?_;refine AT (λa w=>IV B S h (24,[]) a w [] (L) λ_ _=>H0 N=some r) ?_ ?_
 ·refine A0 (λx=>λa w=>∃(o:Int)(p:Int),IV B S h (24,[]) a w [(7,vI (↑c.length:Int)),(6,b),(3,vI o),(8,vI p)] (L) λ_ _=>AB o/\AB p/\Ff N c (H0 N) x o p=some r) N ?_ ?_ ?_
  ·intro k l d g;exact⟨0,0,_,_,d.sub (kp [7,6,3,8] O),g,z,(CO.refl S h),(iq (n:=0) O),(iq (n:=0) O),E⟩
  ·rintro k l⟨_,_,_,_,_,_,_,_,_,_,E⟩;rw[Ff]at E;cases E
  rintro x k l⟨o,p,A,C,d,g,j,m,J,K,E⟩;refine AL ?_ d g;clear d g l k;rw[Ff]at E;refine AU ?_;refine AK O E (λq E=>?_) (λq E=>?_)
  ·refine AU ?_;refine AW (AU ?_);have s:=i.mono' m;refine BE E O O s CW.1 O λt E D F=>AU ?_;refine AK O E (λu E=>?_) (λu E=>?_)
   ·exact RT
   refine AU ?_;refine BF (AU ?_);refine WF.nil (λk l d g=>?_);exact⟨(BO (o+t)),(BO (p+1)),_,_,d.sub (kp [7,6,3,8] O),g,j,m,(BQ _),(BQ _),E⟩
  refine BL O (λk l d g=>?_);exact⟨_,_,d.sub Ts,g,j,m,E⟩
 rintro k l⟨G,H,d,g,y,I,E⟩;refine AL ?_ d g;clear d g l k;rw[H0]at E;exact RT
def P7(k:St S L h)(g:Sl S h AC c d)(i:AB a)(E:LH N d a=some r):
 CG prog 156 #[c,vI a] S h (λv S' h'=>v= .bool r/\St S' (L) h'):=by
 refine CG.go 21 func156 O ntmps156 O λB=>?_;rw[LH]at E;refine AU ?_;refine CP (.inl O) k (AU ?_);obtain⟨m,b,E⟩:=bd E;refine A3 3 20 (.bool m) ?_ ?_
 ·cases l:(((decide (0<=a))&&(decide (a<=16)))&&(decide ((↑d.length:Int)=a)))
  ·have b:=Hl l b;cases b;exact BK O O
  have b:=Hk l b;refine AU ?_;refine BD b O O O lZ O (λn j h' o=>P6 (St.all h') (g.mono' (o.all k.1)) j) λn b=>AU ?_;cases b;exact A4 O
 refine AU ?_;exact BW (kp [4] O) λs p q=>RT
def KA(j:St S L h)(c:AB a){b:Int}(d:AB b){r:Int}(E:Hb N a b=some r):
 CG prog 63 #[vI a,vI b] S h (λv S' h'=>v=vI r/\AB r/\St S' (L) h'):=by
 refine CG.go 24 func63 O ntmps63 O λB=>?_;rw[Hb]at E;refine AU ?_;refine AK O E (λg E=>?_) (λg E=>?_)
 ·exact RT
 refine AU ?_;refine AK O E (λi E=>?_) (λi E=>?_)
 ·exact RT
 exact RT
def ES(K:St S L h){c:xq}(k:Sl S h AC b c){r:Int}(E:Dr N c=some r):
 CG prog 31 #[b] S h (λv S' h'=>v=vI r/\AB r/\St S' (L) h'):=by
 refine CG.go 17 func31 O ntmps31 O λB=>?_;rw[Dr]at E;refine AU ?_;refine AT (λa w=>∃(y:Int),IV B S h (17,[]) a w [(3,vI y)] (L) λ_ _=>AB y/\Jp N y=some r) ?_ ?_
 ·refine A0 (λH=>λa w=>∃(q:Int)(d:Int),IV B S h (17,[]) a w [(7,vI (↑c.length:Int)),(6,b),(3,vI q),(8,vI d)] (L) λ_ _=>AB q/\AB d/\H1 N c (Jp N) H q d=some r) N ?_ ?_ ?_
  ·intro m p g j;exact⟨0,0,_,_,g.sub (kp [7,6,3,8] O),j,K,(CO.refl S h),(iq (n:=0) O),(iq (n:=0) O),E⟩
  ·rintro m p⟨_,_,_,_,_,_,_,_,_,_,E⟩;rw[H1]at E;cases E
  rintro H m p⟨q,d,M,Q,g,j,l,s,I,U,E⟩;refine AL ?_ g j;clear g j p m;rw[H1]at E;refine AU ?_;refine AK O E (λz E=>?_) (λz E=>?_)
  ·refine AU ?_;refine AW (AU ?_);have A:=k.mono' s;refine BE E O O A CW.1 O λV E W C=>?_;have D:=C.i;refine AU ?_;refine CP (.inl O) l (AU ?_);refine DO E O O O Ux O (λt u h' o=>KA (St.all h') I D u) λt E F=>?_;have G:=F;refine AU ?_;refine BW (kp [3,7,6,8] O) λX x Y=>BF (AU ?_);refine WF.nil (λm p g j=>?_);exact⟨t,(BO (d+1)),_,_,g.sub (kp [7,6,3,8] O),j,x,EX,G,(BQ _),E⟩
  refine BL O (λm p g j=>?_);exact⟨q,_,_,g.sub (kp [3] O),j,l,s,I,E⟩
 rintro m p⟨y,Z,ab,g,j,J,ac,r3,E⟩;refine AL ?_ g j;clear g j p m;rw[Jp]at E;exact RT
def IP(g:St S L h){b:Int}(d:AB b)(c:AB a)(E:Hm N b a=some r):
 CG prog 113 #[vI b,vI a] S h (λv S' h'=>v= .bool r/\St S' (L) h'):=by
 refine CG.go 12 func113 O ntmps113 O λB=>?_;rw[Hm]at E;exact RT
def Tm(hs:St S L h){j:AF}(H:Rd S h Bz p j){q:Value}{i:AH}(I:Rd S h BP q i){r:Int×Bool}(E:Lb N j i=some r):
 CG prog 83 #[p,q] S h (λv S' h'=>v= .tuple #[vI r.1,.bool r.2]/\AB r.1/\St S' (L) h'):=by
 refine CG.go 76 func83 O ntmps83 O λB=>?_;rw[Lb]at E;refine AU ?_;refine CC O H CE O hs λq1 S2 h3 bg e5 k6=>?_;have k7:=I.mono e5;refine CC O k7 CE O bg λq8 S9 Y aj cr ak=>?_;have bh:=ak.fl LR;obtain⟨bi,_,bj⟩:=bh.ll;refine AU ?_;refine AT (λa w=>∃(u:Int),IV B S9 Y (76,[]) a w [(3,q8),(2,q1),(6,vI u)] (L) λ_ _=>AB u/\GT N j i u=some r) ?_ ?_
 ·refine A0 (λn1=>λa w=>∃(s:Int)(x:Int),IV B S9 Y (76,[]) a w [(14,vI (↑i.D.length:Int)),(13,bi),(3,q8),(2,q1),(6,vI s),(15,vI x)] (L) λ_ _=>AB s/\AB x/\GS N j i (GT N j i) n1 s x=some r) N ?_ ?_ ?_
  ·intro k l b g;exact⟨0,0,_,_,b.sub (kp [14,13,3,2,6,15] O),g,aj,(CO.refl S9 Y),(iq (n:=0) O),(iq (n:=0) O),E⟩
  ·rintro k l⟨_,_,_,_,_,_,_,_,_,_,E⟩;rw[GS]at E;cases E
  rintro n1 k l⟨s,x,cs,ct,b,g,y,am,bk,cu,E⟩;refine AL ?_ b g;clear b g l k;rw[GS]at E;refine AU ?_;refine AK O E (λbl E=>?_) (λbl E=>?_)
  ·refine AU ?_;refine AW (AU ?_);have bm:=bj.mono' am;refine BE E O O bm Js.1 O λcv E cw bn=>?_;obtain⟨cx,_,an⟩:=bn.ll;refine AU ?_;refine CP (.inl O) y ?_;have bo:=k6.nw;have bp:=bo.fl Ij;obtain⟨cy,_,bq⟩:=bp.ll;have br:=bq.le;refine AU ?_;refine BD E O O O mI O (λbs ao h' o=>P7 (St.all h') (an.mono' (o.all y.1)) (Mk br) ao) λbs E=>AU ?_;refine BW (kp [24,8,14,13,3,2,6,15] O) λcz z bt=>AK O E (λbu E=>?_) (λbu E=>?_)
   ·refine AU ?_;refine CM (λk l b g=>?_);cases E;exact K0 b O g (Iv (KR b (v:=_) O) (Iv (KR b (v:=_) O) Kz)) O EX ⟨O,(iq (n:=0) O),z⟩
   refine AU ?_;refine CP (.inl O) z (AU ?_);have bv:=an.mono' bt;refine DO E O O O OR O (λap aq h' o=>ES (St.all h') (bv.mono' (o.all z.1)) aq) λap E bw=>?_;have c0:=bw;refine AU ?_;refine BW (kp [6,14,13,3,2,15] O) λc1 K c2=>AU ?_;refine AK O E (λbx E=>?_) (λbx E=>?_)
   ·refine AU ?_;refine CM (λk l b g=>?_);cases E;exact K0 b O g (Iv (KR b (v:=_) O) (Iv (KR b (v:=_) O) Kz)) O EX ⟨O,(iq (n:=0) O),K⟩
   refine AU ?_;refine BF (AU ?_);refine WF.nil (λk l b g=>?_);exact⟨(BO (s+ap)),(BO (x+1)),_,_,b.sub (kp [14,13,3,2,6,15] O),g,K,EX,(BQ _),(BQ _),E⟩
  refine BL O (λk l b g=>?_);exact⟨s,_,_,b.sub (kp [3,2,6] O),g,y,am,bk,E⟩
 rintro k l⟨u,Z,ab,b,g,ar,bz,b0,E⟩;refine AL ?_ b g;clear b g l k;rw[GT]at E;have au:=ak.mono bz;have b1:=au.fl KQ;obtain⟨b2,_,b3⟩:=b1.ll;refine AU ?_;refine AT (λa w=>∃(J:Int),IV B Z ab (76,[]) a w [(6,vI J)] (L) λ_ _=>AB J/\I6 N J=some r) ?_ ?_
 ·refine A0 (λn3=>λa w=>∃(t:Int)(A:Int),IV B Z ab (76,[]) a w [(34,vI (↑i.F.length:Int)),(33,b2),(3,q8),(2,q1),(6,vI t),(35,vI A)] (L) λ_ _=>AB t/\AB A/\HQ N j i (I6 N) n3 t A=some r) N ?_ ?_ ?_
  ·intro k l b g;exact⟨u,0,_,_,b.sub (kp [34,33,3,2,6,35] O),g,ar,(CO.refl Z ab),b0,(iq (n:=0) O),E⟩
  ·rintro k l⟨_,_,_,_,_,_,_,_,_,_,E⟩;rw[HQ]at E;cases E
  rintro n3 k l⟨t,A,c3,c4,b,g,M,av,b4,c5,E⟩;refine AL ?_ b g;clear b g l k;rw[HQ]at E;refine AU ?_;refine AK O E (λb5 E=>?_) (λb5 E=>?_)
  ·refine AU ?_;refine AW (AU ?_);have b6:=b3.mono' av;refine BE E O O b6 On.1 O λb7 E c6 b8=>?_;obtain⟨c7,_,b9⟩:=b8.lv;refine AU ?_;refine DT RP O M λc8 c9 aw ca=>?_;have cb:=b9.mono ca;obtain⟨cd,rfl,ce,ax,Q⟩:=A5.ex cb;refine H5 O O O ON RW.1 O aw .head O λcf C ay=>AU ?_;refine CP (.inl O) C ?_;have cg:=au.nw;refine AU ?_;obtain⟨U,c,E⟩:=bd E;refine A3 8 52 (.bool U) ?_ ?_
   ·cases V:(decide (b7.Av<i.B))
    ·have c:=Hl V c;have az:=k6.nw;have a0:=az.fl Ck;obtain⟨ch,_,a1⟩:=a0.ll;have a2:=a1.le;refine AU ?_;refine BD c O O O QD O (λa3 ac h' o=>IP (St.all h') ax (Mk a2) ac) λa3 c=>AU ?_;cases c;exact A4 O
    have c:=Hk V c;cases c;exact BK O O
   refine AU ?_;obtain⟨a4,d,E⟩:=bd E;refine A3 8 61 (.bool a4) ?_ ?_
   ·cases W:U
    ·have d:=Hl W d;have a5:=k6.nw;have a6:=a5.fl Ij;obtain⟨ci,_,a7⟩:=a6.ll;have a8:=a7.le;refine AU ?_;have a9:=Q.mono' ay;refine BD d O O O mI O (λba ad h' o=>P7 (St.all h') (a9.mono' (o.all C.1)) (Mk a8) ad) λba d=>AU ?_;cases d;exact A4 O
    have d:=Hk W d;cases d;exact BK O O
   refine BW (kp [61,10,34,33,3,2,6,35] O) λcj m ck=>AK O E (λbb E=>?_) (λbb E=>?_)
   ·refine AU ?_;refine CM (λk l b g=>?_);have ae:=m.drop .head;cases E;exact K0 b O g (Iv (KR b (v:=_) O) (Iv (KR b (v:=_) O) Kz)) O EX ⟨O,(iq (n:=0) O),ae⟩
   refine AU ?_;refine CP (.inl O) m (AU ?_);have bc:=Q.nw;refine DO E O O O OR O (λX af h' o=>ES (St.all h') (bc.mono' (o.all m.1)) af) λX E be=>?_;have cl:=be;refine AU ?_;refine BW (kp [11,34,33,3,2,6,35] O) λcm G cn=>AU ?_;refine AK O E (λbf E=>?_) (λbf E=>?_)
   ·refine AU ?_;refine CM (λk l b g=>?_);have ag:=G.drop .head;cases E;exact K0 b O g (Iv (KR b (v:=_) O) (Iv (KR b (v:=_) O) Kz)) O EX ⟨O,(iq (n:=0) O),ag⟩
   refine AU ?_;refine BF (AU ?_);refine WF.nil (λk l b g=>?_);have ah:=G.drop .head;exact⟨(BO (t+X)),(BO (A+1)),_,_,b.sub (kp [34,33,3,2,6,35] O),g,ah,EX,(BQ _),(BQ _),E⟩
  refine BL O (λk l b g=>?_);exact⟨t,_,_,b.sub (kp [6] O),g,M,av,b4,E⟩
 rintro k l⟨J,co,cp,b,g,ai,cq,cc,E⟩;refine AL ?_ b g;clear b g l k;rw[I6]at E;refine AU ?_;refine CM (λk l b g=>?_);cases E;exact K0 b O g (Iv (KR b (v:=_) O) (Iv (KR b (v:=_) O) Kz)) O EX ⟨O,cc,ai⟩
def Oj(F:St S L h){i:xq}(l:Sl S h AC c i){b:Int}(q:AB b){r:Int×Bool}(E:KF N i b=some r):
 CG prog 84 #[c,vI b] S h (λv S' h'=>v= .tuple #[vI r.1,.bool r.2]/\AB r.1/\St S' (L) h'):=by
 refine CG.go 29 func84 O ntmps84 O λB=>?_;rw[KF]at E;refine AU ?_;refine AT (λa w=>∃(u:Int),IV B S h (29,[]) a w [(6,vI u)] (L) λ_ _=>AB u/\IZ N u=some r) ?_ ?_
 ·refine A0 (λD=>λa w=>∃(s:Int)(j:Int),IV B S h (29,[]) a w [(10,vI (↑i.length:Int)),(9,c),(1,vI b),(6,vI s),(11,vI j)] (L) λ_ _=>AB s/\AB j/\Gr N i b (IZ N) D s j=some r) N ?_ ?_ ?_
  ·intro m o d g;exact⟨0,0,_,_,d.sub (kp [10,9,1,6,11] O),g,F,(CO.refl S h),(iq (n:=0) O),(iq (n:=0) O),E⟩
  ·rintro m o⟨_,_,_,_,_,_,_,_,_,_,E⟩;rw[Gr]at E;cases E
  rintro D m o⟨s,j,G,H,d,g,k,p,I,J,E⟩;refine AL ?_ d g;clear d g o m;rw[Gr]at E;refine AU ?_;refine AK O E (λx E=>?_) (λx E=>?_)
  ·refine AU ?_;refine AW (AU ?_);have y:=l.mono' p;refine BE E O O y CW.1 O λz E K M=>AU ?_;refine AK O E (λA E=>?_) (λA E=>?_)
   ·refine AU ?_;refine CM (λm o d g=>?_);cases E;exact K0 d O g (Iv (KR d (v:=_) O) (Iv (KR d (v:=_) O) Kz)) O p ⟨O,(iq (n:=0) O),k⟩
   refine AU ?_;refine BF (AU ?_);refine WF.nil (λm o d g=>?_);exact⟨(BO (s+z)),(BO (j+1)),_,_,d.sub (kp [10,9,1,6,11] O),g,k,p,(BQ _),(BQ _),E⟩
  refine BL O (λm o d g=>?_);exact⟨s,_,_,d.sub (kp [6] O),g,k,p,I,E⟩
 rintro m o⟨u,Q,U,d,g,t,C,V,E⟩;refine AL ?_ d g;clear d g o m;rw[IZ]at E;refine AU ?_;refine CM (λm o d g=>?_);cases E;exact K0 d O g (Iv (KR d (v:=_) O) (Iv (KR d (v:=_) O) Kz)) O C ⟨O,V,t⟩
def Py(hs:St S L h){c:AF}(D:Rd S h Bz p c){q:Value}{d:AH}(F:Rd S h BP q d)(E:LE N c d=some r):
 CG prog 38 #[p,q] S h (λv S' h'=>v= .bool r/\St S' (L) h'):=by
 refine CG.go 168 func38 O ntmps38 O λB=>?_;rw[LE]at E;refine AU ?_;refine CC O D CE O hs λq1 S2 h3 b4 e5 k6=>?_;have k7:=F.mono e5;refine CC O k7 CE O b4 λq8 S9 U aj s V=>?_;have em:=k6.mono s;have en:=k6.mono s;have eo:=k6.mono s;have ep:=k6.mono s;have eq:=k6.mono s;refine AU ?_;refine AK O E (λb5 E=>?_) (λb5 E=>?_)
 ·exact RT
 have ak:=k6.mono s;have b6:=ak.fl Ck;obtain⟨b7,_,b8⟩:=b6.ll;refine AU ?_;refine AT (λa w=>IV B S9 U (168,[]) a w [(3,q8),(2,q1)] (L) λ_ _=>HL N c d=some r) ?_ ?_
 ·refine A0 (λn1=>λa w=>∃(t:Int),IV B S9 U (168,[]) a w [(68,vI (↑c.A.length:Int)),(67,b7),(3,q8),(2,q1),(69,vI t)] (L) λ_ _=>AB t/\HJ N c d (HL N c d) n1 t=some r) N ?_ ?_ ?_
  ·intro k l g i;exact⟨0,_,_,g.sub (kp [68,67,3,2,69] O),i,aj,(CO.refl S9 U),(iq (n:=0) O),E⟩
  ·rintro k l⟨_,_,_,_,_,_,_,_,E⟩;rw[HJ]at E;cases E
  rintro n1 k l⟨t,er,es,g,i,G,am,eu,E⟩;refine AL ?_ g i;clear g i l k;rw[HJ]at E;refine AU ?_;refine AK O E (λb9 E=>?_) (λb9 E=>?_)
  ·refine AU ?_;refine AW (AU ?_);have ca:=b8.mono' am;refine BE E O O ca OM.1 O λev E ew an=>?_;obtain⟨cc,_,ao⟩:=an.lv;refine AU ?_;refine DT RO O G λcd ce W ap=>AU ?_;have aq:=ao.mono ap;obtain⟨cf,cg,ch,rfl,ci,cj,ck,cl,cm,cn,co,cp,cq,cr,cs,ct⟩:=B4.ex aq;refine H5 O O O ON RU.1 O W .head O λcu X cv=>AU ?_;refine Ip (.inr ⟨mo,Γ⟩) ?_;have H:=V.nw;have ar:=H.fl PO;obtain⟨cw,_,au⟩:=ar.ll;refine AU ?_;refine BE E O O au CW.1 O λav E cx cy=>AU ?_;obtain⟨aw,b,E⟩:=bd E;refine A3 11 91 (.bool aw) ?_ ?_
   ·cases I:(decide (av<0))
    ·have b:=Hl I b;have ax:=H.fl PO;obtain⟨cz,_,ay⟩:=ax.ll;refine AU ?_;refine BE b O O ay CW.1 O λc0 b c1 c2=>AU ?_;refine TK O O O (AU ?_);cases b;exact A4 O
    have b:=Hk I b;cases b;exact BK O O
   refine AU ?_;refine AK O E (λaz E=>?_) (λaz E=>?_)
   ·exact RT
   refine AU ?_;refine BF (AU ?_);refine WF.nil (λk l g i=>?_);have Y:=X.drop .head;exact⟨(BO (t+1)),_,_,g.sub (kp [68,67,3,2,69] O),i,Y,EX,(BQ _),E⟩
  refine BL O (λk l g i=>?_);exact⟨_,_,g.sub (kp [3,2] O),i,G,am,E⟩
 rintro k l⟨u,x,g,i,Z,a0,E⟩;refine AL ?_ g i;clear g i l k;rw[HL]at E;have J:=ak.mono a0;have a1:=J.fl Hu;obtain⟨a2,_,a3⟩:=a1.ll;refine AU ?_;refine AT (λa w=>IV B u x (168,[]) a w [(3,q8),(2,q1)] (L) λ_ _=>HK N c d=some r) ?_ ?_
 ·refine A0 (λn3=>λa w=>∃(j:Int),IV B u x (168,[]) a w [(95,vI (↑c.E.length:Int)),(94,a2),(3,q8),(2,q1),(96,vI j)] (L) λ_ _=>AB j/\HI N c d (HK N c d) n3 j=some r) N ?_ ?_ ?_
  ·intro k l g i;exact⟨0,_,_,g.sub (kp [95,94,3,2,96] O),i,Z,(CO.refl u x),(iq (n:=0) O),E⟩
  ·rintro k l⟨_,_,_,_,_,_,_,_,E⟩;rw[HI]at E;cases E
  rintro n3 k l⟨j,c3,c4,g,i,y,K,c5,E⟩;refine AL ?_ g i;clear g i l k;rw[HI]at E;refine AU ?_;refine AK O E (λa4 E=>?_) (λa4 E=>?_)
  ·refine AU ?_;refine AW (AU ?_);have a5:=a3.mono' K;refine BE E O O a5 PU.1 O λc6 E c7 a6=>?_;obtain⟨c8,_,a7⟩:=a6.lv;refine AU ?_;refine DT Po O y λc9 da ab a8=>AU ?_;have a9:=a7.mono a8;obtain⟨db,dc,dd,rfl,de,df,dg,dh,di,dj,dk,dl,dm,dn,dp,dq,dr,ds,dt,du,dv,dw⟩:=CD.ex a9;refine H5 O O O ON Pv.1 O ab .head O λdx ac dy=>?_;have ba:=V.nw;have bb:=ba.fl Qb;obtain⟨dz,_,bc⟩:=bb.ll;refine AU ?_;refine BE E O O bc RH.1 O λd0 E d1 be=>?_;obtain⟨d2,_,bf⟩:=be.lv;refine AU ?_;refine DT UE O ac λd3 d4 ad bg=>?_;have bh:=bf.mono bg;obtain⟨rfl,⟨d5,d6⟩⟩:=BZ.ex bh;refine EM O O O O Ja.1 O ad .head O λd7 ae d8=>AU ?_;refine AK O E (λbi E=>?_) (λbi E=>?_)
   ·exact RT
   refine AU ?_;refine AK O E (λbj E=>?_) (λbj E=>?_)
   ·exact RT
   refine AU ?_;refine BF (AU ?_);refine WF.nil (λk l g i=>?_);have af:=ae.sel [] 2 O;exact⟨(BO (j+1)),_,_,g.sub (kp [95,94,3,2,96] O),i,af,EX,(BQ _),E⟩
  refine BL O (λk l g i=>?_);exact⟨_,_,g.sub (kp [3,2] O),i,y,K,E⟩
 rintro k l⟨d9,ea,g,i,m,bk,E⟩;refine AL ?_ g i;clear g i l k;rw[HK]at E;refine AU ?_;refine CP (.inl O) m ?_;have bl:=J.mono bk;obtain⟨eb,_,bm⟩:=bl.lv;have M:=V.nw;obtain⟨ec,_,bn⟩:=M.lv;refine AU ?_;refine DO E O O O Ac3 O (λbo ag h' o=>Tm (St.all h') (bm.mono (o.all m.1)) (bn.mono (o.all m.1)) ag) λbo E bp=>?_;have ed:=bp;refine AU ?_;refine BW (kp [11,10,3] O) λee z bq=>AU ?_;refine AK O E (λbr E=>?_) (λbr E=>?_)
 ·exact RT
 refine AU ?_;refine CP (.inl O) z ?_;have Q:=M.mono bq;have bs:=Q.fl AH.f_In;obtain⟨ef,_,bt⟩:=bs.ll;refine AU ?_;refine DO E O O O tR O (λbu ah h' o=>Oj (St.all h') (bt.mono' (o.all z.1)) (iq (n:=1152921504606846976) O) ah) λbu E bv=>?_;have eg:=bv;refine AU ?_;refine BW (kp [11,12,10,3] O) λeh C bw=>AU ?_;refine AK O E (λbx E=>?_) (λbx E=>?_)
 ·exact RT
 refine AU ?_;refine CP (.inl O) C ?_;have bz:=Q.mono bw;have b0:=bz.fl LS;obtain⟨ei,_,b1⟩:=b0.ll;refine AU ?_;refine DO E O O O tR O (λb2 ai h' o=>Oj (St.all h') (b1.mono' (o.all C.1)) (BQ _) ai) λb2 E b3=>?_;have ej:=b3;refine AU ?_;exact BW (kp [11] O) λek cb el=>RT
def Nj(k:St S L h){c:List xq}(a:Sl S h (A9.sl AC) b c){r:List xq}(E:Gk N c=some r):
 CG prog 132 #[b] S h (λv S' h'=>St S' (OS (A9.sl AC) 29 v r::L) h'):=by
 refine CG.go 8 func132 O ntmps132 O λB=>?_;rw[Gk]at E;rcases a.cases with⟨rfl,rfl⟩|⟨n,m,rfl,a⟩
 ·have s:(some ([]:List xq))=some r:=by simpa[chk,HN]using E
  refine AU ?_;refine J2 O O O fR (AU ?_);refine Kr O (AU ?_);have d:=k.nil (A9.sl AC) 29;cases E;exact GF d O O EX
 refine AU ?_;refine K9 O O O fR (AU ?_);refine Ks O (AU ?_);refine Jl (r:=(A9.sl AC)) Uv O O k λv1 t g o=>AU ?_;have p:=a.mono' o;obtain⟨i,E⟩:=MF E;refine Eg (r:=(A9.sl AC)) (l:=([]:List xq)) (xs:=c) O O Uv O (Sl.src p) O i O g (λ_=> .head) λu w j q=>AU ?_;cases E;exact GF j O O EX
def Jh(k:St S L h){c:List AY}(a:Sl S h A5 b c){r:List AY}(E:Cw N c=some r):
 CG prog 133 #[b] S h (λv S' h'=>St S' (OS A5 103 v r::L) h'):=by
 refine CG.go 8 func133 O ntmps133 O λB=>?_;rw[Cw]at E;rcases a.cases with⟨rfl,rfl⟩|⟨n,m,rfl,a⟩
 ·have s:(some ([]:List AY))=some r:=by simpa[chk,HN]using E
  refine AU ?_;refine J2 O O O fQ (AU ?_);refine Kr O (AU ?_);have d:=k.nil A5 103;cases E;exact GF d O O EX
 refine AU ?_;refine K9 O O O fQ (AU ?_);refine Ks O (AU ?_);refine Jl (r:=A5) Te O O k λv1 t g o=>AU ?_;have p:=a.mono' o;obtain⟨i,E⟩:=MF E;refine Eg (r:=A5) (l:=([]:List AY)) (xs:=c) O O Te O (Sl.src p) O i O g (λ_=> .head) λu w j q=>AU ?_;cases E;exact GF j O O EX
def Gi(k:St S L h){c:List A8}(a:Sl S h BZ b c){r:List A8}(E:By N c=some r):
 CG prog 112 #[b] S h (λv S' h'=>St S' (OS BZ 107 v r::L) h'):=by
 refine CG.go 8 func112 O ntmps112 O λB=>?_;rw[By]at E;rcases a.cases with⟨rfl,rfl⟩|⟨n,m,rfl,a⟩
 ·have s:(some ([]:List A8))=some r:=by simpa[chk,HN]using E
  refine AU ?_;refine J2 O O O fP (AU ?_);refine Kr O (AU ?_);have d:=k.nil BZ 107;cases E;exact GF d O O EX
 refine AU ?_;refine K9 O O O fP (AU ?_);refine Ks O (AU ?_);refine Jl (r:=BZ) lH O O k λv1 t g o=>AU ?_;have p:=a.mono' o;obtain⟨i,E⟩:=MF E;refine Eg (r:=BZ) (l:=([]:List A8)) (xs:=c) O O lH O (Sl.src p) O i O g (λ_=> .head) λu w j q=>AU ?_;cases E;exact GF j O O EX
def QG(hs:St S L h){q:AH}(a5:Rd S h BP ak q){r:AH}(E:JM N q=some r):
 CG prog 71 #[ak] S h (λv S' h'=>Rd S' h' BP v r/\St S' (L) h'):=by
 refine CG.go 66 func71 O ntmps71 O λB=>?_;rw[JM]at E;refine AU ?_;obtain⟨v3,v5,v7,v9,Z,K,rfl,r2,k4,k6,k8,d8,d9,eb⟩:=BP.ex a5;refine OD O O O hs λA hg cl hi=>DT Pn O cl λG hj cm hk=>AU ?_;refine Cj (AU ?_);have ec:=k4.nw;refine DX E O O O zM O (λt cn=>Nj cm ec cn) λt E hl be hm hn p=>?_;have a7:=p;refine AU ?_;obtain⟨j,c,rfl,ho⟩:=a7.oslen mh;refine Gq (cs':=[vI q.B,(.slice j t.length c),v5,v7,v9,Z,K]) O O O O Xh.1 O a7 (.tail (.tail .head)) O O λbf co hp=>AU ?_;refine AT (λa w=>∃(ab:List xq),IV B be bf (66,[]) a w [(2,vP G 0),(1,vP A 0)] (OS (A9.sl AC) 29 (.slice j t.length c) ab::Bx G 36 [vI 0,vN,vN,vN,vN,vN,vN]::Bx A 36 [vI q.B,(.slice j t.length c),v5,v7,v9,Z,K]::L) λ_ _=>Ep N q ab=some r) ?_ ?_
 ·refine A0 (λn1=>λa w=>∃(z:Int)(ap:List xq),IV B be bf (66,[]) a w [(11,vI (↑t.length:Int)),(2,vP G 0),(1,vP A 0),(12,vI z)] (OS (A9.sl AC) 29 (.slice j t.length c) ap::Bx G 36 [vI 0,vN,vN,vN,vN,vN,vN]::Bx A 36 [vI q.B,(.slice j t.length c),v5,v7,v9,Z,K]::L) λ_ _=>AB z/\EB N t (Ep N q) n1 z ap=some r) N ?_ ?_ ?_
  ·intro aa ww C D;exact⟨0,t,_,_,C.sub (kp [11,2,1,12] O),D,co,(CO.refl be bf),(iq (n:=0) O),E⟩
  ·rintro aa ww⟨_,_,_,_,_,_,_,_,_,E⟩;rw[EB]at E;cases E
  rintro n1 aa ww⟨z,ap,cp,cq,C,D,H,ed,hq,E⟩;refine AL ?_ C D;clear C D ww aa;rw[EB]at E;refine AU ?_;refine AK O E (λee E=>?_) (λee E=>?_)
  ·refine AU ?_;refine AW (AU ?_);refine Rq (kp [3,11,2,1,12] O) ?_;obtain⟨hr,cr,E⟩:=bd E;obtain⟨cs,ct,E⟩:=bd E;obtain⟨bg,cu,E⟩:=bd E;obtain⟨ht,cv,E⟩:=bd E;refine OA (m:=[(3,vI z),(11,vI (↑t.length:Int)),(2,vP G 0),(1,vP A 0),(12,vI z)]) 10 (λi v hh=>match i with|0=>v=vP A 1|1=>v=(.slice j t.length c)|2=>v=vI z/\AB z|3=>v=vP A 1|4=>v=(.slice j t.length c)|5=>v=vI z/\AB z|6=>EP (.slice j t.length c) (z.toNat*((A9.sl AC)).sz+0) v|7=>Sl cp hh AC v cs|8=>Sl (SN cp cq hh) hh AC v bg|9=>EP (.slice j t.length c) (z.toNat*((A9.sl AC)).sz+0) v|_=>False) [[],[(0,15)],[],[],[(3,18)],[],[(4,19),(5,20)],[(6,21)],[(7,22)],[(1,16),(2,17)]] [(8,23),(9,24)] mo Γ [3,11,2,1,12] O Γ Γ Γ (kp [3,11,2,1,12] O) MO ?_ ?_
   ·refine A7.cons O F9 (A7.cons O F9 (A7.cons O F9 (A7.cons O F9 (A7.cons O F9 (A7.cons O F9 (A7.cons O ?_ ?_))))))
    ·intro mq hh o;intro hu ef hv eg;have u:=o.st H;cases ef;obtain⟨rfl,hx⟩:=eg;refine AU ?_;refine BU u mh O O Js.1 cr O λhy cw=>AU ?_;exact B1 cw
    refine A7.cons O ?_ ?_
    ·intro mq hh o;intro hz eh;have u:=o.st H;refine AU ?_;have ei:=u.epAt mh ct FB.id eh;refine GB H4 (λ_ x=>x) O ei GC.1 O λh0 ej=>AU ?_;exact B1 ej
    refine A7.cons O ?_ ?_
    ·intro mq hh o;intro ek aq;have u:=SN.st H o;have aq:=Sl.sn cq aq;have aq:Sl _ _ AC ek cs:=aq;have M:=u.fz;refine El O O O N9 O M (B9 (St.all _) (aq.mono M.ea.1 M.ea.2) cu) λh1 h2 h3 er h4 el p=>?_;have cx:=p;have a8:=M.join el cx ⟨OS.flat (λ{_ _ _ _ _ _} k=>k),trivial⟩;simp only[Ag4,Ag3]at a8;obtain⟨h5,bh,es,cy⟩:=a8.pubs .head;have ar:=Fz.done o EX bh;exact BB ar.1 (Sl.mono' cy ar.2)
    refine A7.cons O ?_ ?_
    ·intro mq hh o;intro eu cz ev c0;have u:=o.st H;cases cz;obtain⟨rfl,ew⟩:=c0;refine AU ?_;refine BU u mh O O Js.1 cv O λey bi=>AU ?_;exact B1 bi
    exact trivial
   intro ez c1 c2 au e0 c3;have bj:=SN.st H c1;have au:Sl _ _ AC c2 bg:=au;obtain⟨c4,bk,E⟩:=bd E;refine Ei (r:=(A9.sl AC)) (l:=ap) (i:=z) (x:=c4) O O (Kx au) c3 bk NQ.id GC.1 (λ_=>rfl) bj .head λe1 bl e2=>AU ?_;refine BF (AU ?_);refine WF.nil (λaa ww C D=>?_);exact⟨(BO (z+1)),(upd ap z bg),_,_,C.sub (kp [11,2,1,12] O),D,bl,EX,(BQ _),E⟩
  refine BL O (λaa ww C D=>?_);exact⟨ap,_,_,C.sub (kp [2,1] O),D,H,ed,E⟩
 rintro aa ww⟨ab,e3,e4,C,D,bm,e5,E⟩;refine AL ?_ C D;clear C D ww aa;rw[Ep]at E;refine AU ?_;refine Cj (AU ?_);have c5:=k8.nw;refine DX E O O O zL O (λg bn=>Jh bm c5 bn) λg E e6 av e7 e8 p=>?_;have aw:=p;refine AU ?_;obtain⟨d,b,rfl,e9⟩:=aw.oslen mh;refine Gq (cs':=[vI q.B,(.slice j t.length c),v5,(.slice d g.length b),v9,Z,K]) O O O O Zr.1 O aw (.tail (.tail (.tail .head))) O O λax bo fa=>AU ?_;refine AT (λa w=>∃(am:List AY),IV B av ax (66,[]) a w [(2,vP G 0),(1,vP A 0)] (OS A5 103 (.slice d g.length b) am::OS (A9.sl AC) 29 (.slice j t.length c) ab::Bx G 36 [vI 0,vN,vN,vN,vN,vN,vN]::Bx A 36 [vI q.B,(.slice j t.length c),v5,(.slice d g.length b),v9,Z,K]::L) λ_ _=>Eo N q ab am=some r) ?_ ?_
 ·refine A0 (λn3=>λa w=>∃(s:Int)(I:List AY),IV B av ax (66,[]) a w [(32,vI (↑g.length:Int)),(2,vP G 0),(1,vP A 0),(33,vI s)] (OS A5 103 (.slice d g.length b) I::OS (A9.sl AC) 29 (.slice j t.length c) ab::Bx G 36 [vI 0,vN,vN,vN,vN,vN,vN]::Bx A 36 [vI q.B,(.slice j t.length c),v5,(.slice d g.length b),v9,Z,K]::L) λ_ _=>AB s/\EA N g (Eo N q ab) n3 s I=some r) N ?_ ?_ ?_
  ·intro aa ww C D;exact⟨0,g,_,_,C.sub (kp [32,2,1,33] O),D,bo,(CO.refl av ax),(iq (n:=0) O),E⟩
  ·rintro aa ww⟨_,_,_,_,_,_,_,_,_,E⟩;rw[EA]at E;cases E
  rintro n3 aa ww⟨s,I,a9,ba,C,D,y,c6,fb,E⟩;refine AL ?_ C D;clear C D ww aa;rw[EA]at E;refine AU ?_;refine AK O E (λc7 E=>?_) (λc7 E=>?_)
  ·refine AU ?_;refine AW (AU ?_);refine Rq (kp [4,32,2,1,33] O) ?_;obtain⟨fc,bp,E⟩:=bd E;obtain⟨bb,bq,E⟩:=bd E;obtain⟨ay,br,E⟩:=bd E;obtain⟨fd,bs,E⟩:=bd E;refine OA (m:=[(4,vI s),(32,vI (↑g.length:Int)),(2,vP G 0),(1,vP A 0),(33,vI s)]) 12 (λi v hh=>match i with|0=>v=vP A 3|1=>v=(.slice d g.length b)|2=>v=vI s/\AB s|3=>v=vP A 3|4=>v=(.slice d g.length b)|5=>v=vI s/\AB s|6=>EP (.slice d g.length b) (s.toNat*(A5).sz+0) v|7=>EP (.slice d g.length b) (s.toNat*(A5).sz+2) v|8=>Sl a9 hh AC v bb.N|9=>Sl (SN a9 ba hh) hh AC v ay|10=>EP (.slice d g.length b) (s.toNat*(A5).sz+0) v|11=>EP (.slice d g.length b) (s.toNat*(A5).sz+2) v|_=>False) [[],[(0,36)],[],[],[(3,39)],[],[(4,40),(5,41)],[(6,42)],[(7,43)],[(8,44)],[(1,37),(2,38)],[(10,46)]] [(9,45),(11,47)] mo Γ [4,32,2,1,33] O Γ Γ Γ (kp [4,32,2,1,33] O) MO ?_ ?_
   ·refine A7.cons O F9 (A7.cons O F9 (A7.cons O F9 (A7.cons O F9 (A7.cons O F9 (A7.cons O F9 (A7.cons O ?_ ?_))))))
    ·intro mq hh o;intro fe c8 ff c9;have u:=o.st y;cases c8;obtain⟨rfl,fg⟩:=c9;refine AU ?_;refine BU u mh O O On.1 bp O λfh bt=>AU ?_;exact B1 bt
    refine A7.cons O ?_ ?_
    ·intro mq hh o;intro fi da;have u:=o.st y;refine AU ?_;refine Ku O da YQ.1 O λfj bu=>AU ?_;exact B1 bu
    refine A7.cons O ?_ ?_
    ·intro mq hh o;intro fk db;have u:=o.st y;refine AU ?_;have dc:=u.epAt mh bq AY.f_Part db;refine GB H4 (λ_ x=>x) O dc GC.1 O λfl dd=>AU ?_;exact B1 dd
    refine A7.cons O ?_ ?_
    ·intro mq hh o;intro de ac;have u:=SN.st y o;have ac:=Sl.sn ba ac;have ac:Sl _ _ AC de bb.N:=ac;have M:=u.fz;refine El O O O N9 O M (B9 (St.all _) (ac.mono M.ea.1 M.ea.2) br) λfm fn fo em fp df p=>?_;have bv:=p;have az:=M.join df bv ⟨OS.flat (λ{_ _ _ _ _ _} k=>k),trivial⟩;simp only[Ag4,Ag3]at az;obtain⟨fq,bw,fr,dg⟩:=az.pubs .head;have a0:=Fz.done o EX bw;exact BB a0.1 (Sl.mono' dg a0.2)
    refine A7.cons O ?_ ?_
    ·intro mq hh o;intro fs dh ft di;have u:=o.st y;cases dh;obtain⟨rfl,fu⟩:=di;refine AU ?_;refine BU u mh O O On.1 bs O λfv bx=>AU ?_;exact B1 bx
    refine A7.cons O ?_ ?_
    ·intro mq hh o;intro fw dj;have u:=o.st y;refine AU ?_;refine Ku O dj YQ.1 O λfx bz=>AU ?_;exact B1 bz
    exact trivial
   intro fy dk dl a1 f0 dm;have b0:=SN.st y dk;have a1:Sl _ _ AC dl ay:=a1;obtain⟨bc,b1,E⟩:=bd E;refine Ei (r:=A5) (l:=I) (i:=s) (x:=bc) O O (Kx a1) dm b1 AY.u_Part GC.1 (λ_=>rfl) b0 .head λf1 b2 f2=>AU ?_;refine BF (AU ?_);refine WF.nil (λaa ww C D=>?_);exact⟨(BO (s+1)),(upd I s ({ bc with N:=ay})),_,_,C.sub (kp [32,2,1,33] O),D,b2,EX,(BQ _),E⟩
  refine BL O (λaa ww C D=>?_);exact⟨I,_,_,C.sub (kp [2,1] O),D,y,c6,E⟩
 rintro aa ww⟨am,f3,f4,C,D,Q,f5,E⟩;refine AL ?_ C D;clear C D ww aa;rw[Eo]at E;refine AU ?_;refine Cj (AU ?_);have dn:=k6.nw;refine Dc E O O O N9 O Q (λJ b3=>B9 (St.all _) (dn.mono Q.ea.1 Q.ea.2) b3) λJ E f6 f7 f8 en f9 dp p=>?_;have b4:=p;have af:=Q.join dp b4 ⟨OS.flat (λ{_ _ _ _ _ _} k=>k),trivial⟩;simp only[Ag4,Ag3]at af;refine AU ?_;obtain⟨U,F,rfl,ga⟩:=af.oslen mh;refine Gq (cs':=[vI q.B,(.slice j t.length c),(.slice U J.length F),(.slice d g.length b),v9,Z,K]) O O O O GC.1 O af (.tail (.tail (.tail (.tail .head)))) O O λgb V gc=>AU ?_;refine Cj (AU ?_);have dq:=d8.nw;refine Dc E O O O mM O V (λad b5=>Gi (St.all _) (dq.mono V.ea.1 V.ea.2) b5) λad E ge gf gg eo gh dr p=>?_;have b6:=p;have ag:=V.join dr b6 ⟨OS.flat (λ{_ _ _ _ _ _} k=>k),trivial⟩;simp only[Ag4,Ag3]at ag;refine AU ?_;obtain⟨ah,W,rfl,gi⟩:=ag.oslen mh;refine Gq (cs':=[vI q.B,(.slice j t.length c),(.slice U J.length F),(.slice d g.length b),(.slice ah ad.length W),Z,K]) O O O O sI.1 O ag (.tail (.tail (.tail (.tail (.tail .head))))) O O λgj X gl=>AU ?_;refine Cj (AU ?_);have ds:=d9.nw;refine Dc E O O O N9 O X (λan b7=>B9 (St.all _) (ds.mono X.ea.1 X.ea.2) b7) λan E gm gn gp ep gq dt p=>?_;have b8:=p;have ai:=X.join dt b8 ⟨OS.flat (λ{_ _ _ _ _ _} k=>k),trivial⟩;simp only[Ag4,Ag3]at ai;refine AU ?_;obtain⟨a2,ao,rfl,gr⟩:=ai.oslen mh;refine Gq (cs':=[vI q.B,(.slice j t.length c),(.slice U J.length F),(.slice d g.length b),(.slice ah ad.length W),(.slice a2 an.length ao),K]) O O O O GC.1 O ai (.tail (.tail (.tail (.tail (.tail (.tail .head)))))) O O λgs Y gu=>AU ?_;refine Cj (AU ?_);have du:=eb.nw;refine Dc E O O O N9 O Y (λa3 b9=>B9 (St.all _) (du.mono Y.ea.1 Y.ea.2) b9) λa3 E gv gw gx eq gy dv p=>?_;have ca:=p;have aj:=Y.join dv ca ⟨OS.flat (λ{_ _ _ _ _ _} k=>k),trivial⟩;simp only[Ag4,Ag3]at aj;refine AU ?_;obtain⟨cb,a6,rfl,gz⟩:=aj.oslen mh;refine Gq (cs':=[vI q.B,(.slice j t.length c),(.slice U J.length F),(.slice d g.length b),(.slice ah ad.length W),(.slice a2 an.length ao),(.slice cb a3.length a6)]) O O O O GC.1 O aj (.tail (.tail (.tail (.tail (.tail (.tail (.tail .head))))))) O O λg0 cc g1=>AU ?_;refine EM O O O O JB.1 O cc (.tail (.tail (.tail (.tail (.tail (.tail .head)))))) O λg2 cd g3=>AU ?_;refine CM (λaa ww C D=>?_);obtain⟨g4,ce,g5,dw⟩:=cd.pubs (.tail (.tail (.tail (.tail (.tail .head)))));obtain⟨g6,cf,g7,dx⟩:=ce.pubs (.tail (.tail (.tail .head)));obtain⟨g8,cg,g9,dy⟩:=cf.pubs (.tail (.tail (.tail .head)));obtain⟨ha,ch,hb,dz⟩:=cg.pubs (.tail (.tail .head));obtain⟨hc,ci,hd,d0⟩:=ch.pubs (.tail .head)
 obtain⟨he,cj,d1,d2⟩:=ci.pubs .head;have a4:=cj.drop (.tail .head);have d3:=dw.nw;have d4:=dx.nw;have d5:=dy.nw;have d6:=dz.nw;have d7:=d0.mono' d1;have ck:=a4.drop .head;cases E;exact K0 C O D (Iv (Xu C D a4 O mh JB.1 O) Kz) O EX ⟨(BP.mk (x:=(⟨q.B,ab,J,am,ad,an,a3⟩:AH)) r2 d3 d4 d5 d6 d7 d2),ck⟩
def Mt(k:St S L h){c:List ByteArray}(a:Sl S h A9.str b c){r:List ByteArray}(E:Fe N c=some r):
 CG prog 134 #[b] S h (λv S' h'=>St S' (OS A9.str 9 v r::L) h'):=by
 refine CG.go 8 func134 O ntmps134 O λB=>?_;rw[Fe]at E;rcases a.cases with⟨rfl,rfl⟩|⟨n,m,rfl,a⟩
 ·have s:(some ([]:List ByteArray))=some r:=by simpa[chk,HN]using E
  refine AU ?_;refine J2 O O O fZ (AU ?_);refine Kr O (AU ?_);have d:=k.nil A9.str 9;cases E;exact GF d O O EX
 refine AU ?_;refine K9 O O O fZ (AU ?_);refine Ks O (AU ?_);refine Jl (r:=A9.str) lJ O O k λv1 t g o=>AU ?_;have p:=a.mono' o;obtain⟨i,E⟩:=MF E;refine Eg (r:=A9.str) (l:=([]:List ByteArray)) (xs:=c) O O lJ O (Sl.src p) O i O g (λ_=> .head) λu w j q=>AU ?_;cases E;exact GF j O O EX
def JD(k:St S L h){c:List Ce}(a:Sl S h B4 b c){r:List Ce}(E:Cf N c=some r):
 CG prog 135 #[b] S h (λv S' h'=>St S' (OS B4 133 v r::L) h'):=by
 refine CG.go 8 func135 O ntmps135 O λB=>?_;rw[Cf]at E;rcases a.cases with⟨rfl,rfl⟩|⟨n,m,rfl,a⟩
 ·have s:(some ([]:List Ce))=some r:=by simpa[chk,HN]using E
  refine AU ?_;refine J2 O O O fY (AU ?_);refine Kr O (AU ?_);have d:=k.nil B4 133;cases E;exact GF d O O EX
 refine AU ?_;refine K9 O O O fY (AU ?_);refine Ks O (AU ?_);refine Jl (r:=B4) lI O O k λv1 t g o=>AU ?_;have p:=a.mono' o;obtain⟨i,E⟩:=MF E;refine Eg (r:=B4) (l:=([]:List Ce)) (xs:=c) O O lI O (Sl.src p) O i O g (λ_=> .head) λu w j q=>AU ?_;cases E;exact GF j O O EX
def DJ(k:St S L h){c:List B3}(a:Sl S h CH b c){r:List B3}(E:BV N c=some r):
 CG prog 136 #[b] S h (λv S' h'=>St S' (OS CH 129 v r::L) h'):=by
 refine CG.go 8 func136 O ntmps136 O λB=>?_;rw[BV]at E;rcases a.cases with⟨rfl,rfl⟩|⟨n,m,rfl,a⟩
 ·have s:(some ([]:List B3))=some r:=by simpa[chk,HN]using E
  refine AU ?_;refine J2 O O O Zq (AU ?_);refine Kr O (AU ?_);have d:=k.nil CH 129;cases E;exact GF d O O EX
 refine AU ?_;refine K9 O O O Zq (AU ?_);refine Ks O (AU ?_);refine Jl (r:=CH) ZL O O k λv1 t g o=>AU ?_;have p:=a.mono' o;obtain⟨i,E⟩:=MF E;refine Eg (r:=CH) (l:=([]:List B3)) (xs:=c) O O ZL O (Sl.src p) O i O g (λ_=> .head) λu w j q=>AU ?_;cases E;exact GF j O O EX
def Jj(k:St S L h){c:List Mf}(a:Sl S h Kt b c){r:List Mf}(E:Cy N c=some r):
 CG prog 137 #[b] S h (λv S' h'=>St S' (OS Kt 210 v r::L) h'):=by
 refine CG.go 8 func137 O ntmps137 O λB=>?_;rw[Cy]at E;rcases a.cases with⟨rfl,rfl⟩|⟨n,m,rfl,a⟩
 ·have s:(some ([]:List Mf))=some r:=by simpa[chk,HN]using E
  refine AU ?_;refine J2 O O O Zp (AU ?_);refine Kr O (AU ?_);have d:=k.nil Kt 210;cases E;exact GF d O O EX
 refine AU ?_;refine K9 O O O Zp (AU ?_);refine Ks O (AU ?_);refine Jl (r:=Kt) lK O O k λv1 t g o=>AU ?_;have p:=a.mono' o;obtain⟨i,E⟩:=MF E;refine Eg (r:=Kt) (l:=([]:List Mf)) (xs:=c) O O lK O (Sl.src p) O i O g (λ_=> .head) λu w j q=>AU ?_;cases E;exact GF j O O EX
def Ji(k:St S L h){c:List BG}(a:Sl S h CD b c){r:List BG}(E:Cx N c=some r):
 CG prog 138 #[b] S h (λv S' h'=>St S' (OS CD 139 v r::L) h'):=by
 refine CG.go 8 func138 O ntmps138 O λB=>?_;rw[Cx]at E;rcases a.cases with⟨rfl,rfl⟩|⟨n,m,rfl,a⟩
 ·have s:(some ([]:List BG))=some r:=by simpa[chk,HN]using E
  refine AU ?_;refine J2 O O O fX (AU ?_);refine Kr O (AU ?_);have d:=k.nil CD 139;cases E;exact GF d O O EX
 refine AU ?_;refine K9 O O O fX (AU ?_);refine Ks O (AU ?_);refine Jl (r:=CD) tP O O k λv1 t g o=>AU ?_;have p:=a.mono' o;obtain⟨i,E⟩:=MF E;refine Eg (r:=CD) (l:=([]:List BG)) (xs:=c) O O tP O (Sl.src p) O i O g (λ_=> .head) λu w j q=>AU ?_;cases E;exact GF j O O EX
def Jd(k:St S L h){c:List Li}(a:Sl S h Hj b c){r:List Li}(E:Cu N c=some r):
 CG prog 139 #[b] S h (λv S' h'=>St S' (OS Hj 215 v r::L) h'):=by
 refine CG.go 8 func139 O ntmps139 O λB=>?_;rw[Cu]at E;rcases a.cases with⟨rfl,rfl⟩|⟨n,m,rfl,a⟩
 ·have s:(some ([]:List Li))=some r:=by simpa[chk,HN]using E
  refine AU ?_;refine J2 O O O fW (AU ?_);refine Kr O (AU ?_);have d:=k.nil Hj 215;cases E;exact GF d O O EX
 refine AU ?_;refine K9 O O O fW (AU ?_);refine Ks O (AU ?_);refine Jl (r:=Hj) tO O O k λv1 t g o=>AU ?_;have p:=a.mono' o;obtain⟨i,E⟩:=MF E;refine Eg (r:=Hj) (l:=([]:List Li)) (xs:=c) O O tO O (Sl.src p) O i O g (λ_=> .head) λu w j q=>AU ?_;cases E;exact GF j O O EX
def JE(k:St S L h){c:List Jm}(a:Sl S h E7 b c){r:List Jm}(E:Cg N c=some r):
 CG prog 140 #[b] S h (λv S' h'=>St S' (OS E7 218 v r::L) h'):=by
 refine CG.go 8 func140 O ntmps140 O λB=>?_;rw[Cg]at E;rcases a.cases with⟨rfl,rfl⟩|⟨n,m,rfl,a⟩
 ·have s:(some ([]:List Jm))=some r:=by simpa[chk,HN]using E
  refine AU ?_;refine J2 O O O fV (AU ?_);refine Kr O (AU ?_);have d:=k.nil E7 218;cases E;exact GF d O O EX
 refine AU ?_;refine K9 O O O fV (AU ?_);refine Ks O (AU ?_);refine Jl (r:=E7) tN O O k λv1 t g o=>AU ?_;have p:=a.mono' o;obtain⟨i,E⟩:=MF E;refine Eg (r:=E7) (l:=([]:List Jm)) (xs:=c) O O tN O (Sl.src p) O i O g (λ_=> .head) λu w j q=>AU ?_;cases E;exact GF j O O EX
def Jg(k:St S L h){c:List LU}(a:Sl S h HC b c){r:List LU}(E:Cv N c=some r):
 CG prog 141 #[b] S h (λv S' h'=>St S' (OS HC 221 v r::L) h'):=by
 refine CG.go 8 func141 O ntmps141 O λB=>?_;rw[Cv]at E;rcases a.cases with⟨rfl,rfl⟩|⟨n,m,rfl,a⟩
 ·have s:(some ([]:List LU))=some r:=by simpa[chk,HN]using E
  refine AU ?_;refine J2 O O O fU (AU ?_);refine Kr O (AU ?_);have d:=k.nil HC 221;cases E;exact GF d O O EX
 refine AU ?_;refine K9 O O O fU (AU ?_);refine Ks O (AU ?_);refine Jl (r:=HC) tM O O k λv1 t g o=>AU ?_;have p:=a.mono' o;obtain⟨i,E⟩:=MF E;refine Eg (r:=HC) (l:=([]:List LU)) (xs:=c) O O tM O (Sl.src p) O i O g (λ_=> .head) λu w j q=>AU ?_;cases E;exact GF j O O EX
def Ie(k:St S L h){c:List HD}(a:Sl S h Db b c){r:List HD}(E:CS N c=some r):
 CG prog 142 #[b] S h (λv S' h'=>St S' (OS Db 224 v r::L) h'):=by
 refine CG.go 8 func142 O ntmps142 O λB=>?_;rw[CS]at E;rcases a.cases with⟨rfl,rfl⟩|⟨n,m,rfl,a⟩
 ·have s:(some ([]:List HD))=some r:=by simpa[chk,HN]using E
  refine AU ?_;refine J2 O O O fT (AU ?_);refine Kr O (AU ?_);have d:=k.nil Db 224;cases E;exact GF d O O EX
 refine AU ?_;refine K9 O O O fT (AU ?_);refine Ks O (AU ?_);refine Jl (r:=Db) tL O O k λv1 t g o=>AU ?_;have p:=a.mono' o;obtain⟨i,E⟩:=MF E;refine Eg (r:=Db) (l:=([]:List HD)) (xs:=c) O O tL O (Sl.src p) O i O g (λ_=> .head) λu w j q=>AU ?_;cases E;exact GF j O O EX
def QI(hs:St S L h){b:AF}(br:Rd S h Bz a3 b){r:AF}(E:JO N b=some r):
 CG prog 72 #[a3] S h (λv S' h'=>Rd S' h' Bz v r/\St S' (L) h'):=by
 refine CG.go 114 func72 O ntmps72 O λB=>?_;rw[JO]at E;refine AU ?_;obtain⟨v3,v6,v8,aw,am,ad,ab,K,rfl,r2,k4,r5,k7,k9,ft,fu,fv,fw,fx,fy⟩:=Bz.ex br;refine OD O O O hs λan kl dz km=>DT eT O dz λao kn a4 ko=>AU ?_;refine Cj (AU ?_);have fz:=k4.nw;refine Dc E O O O zK O a4 (λj d0=>Mt (St.all _) (fz.mono a4.ea.1 a4.ea.2) d0) λj E kr ks kt gj ku f0 p=>?_;have d1:=p;have ba:=a4.join f0 d1 ⟨OS.flat (λ{_ _ _ _ _ _} k=>k),trivial⟩;simp only[Ag4,Ag3]at ba;refine AU ?_;obtain⟨o,c,rfl,kv⟩:=ba.oslen mh;refine Gq (cs':=[.string b.G,(.slice o j.length c),vI b.L,v6,v8,aw,am,ad,ab,K,vI b.M]) O O O O sP.1 O ba (.tail (.tail .head)) O O λkw d2 kx=>AU ?_;refine Cj (AU ?_);have f1:=k7.nw;refine DX E O O O zJ O (λy d3=>JD d2 f1 d3) λy E ky b1 kz k0 p=>?_;have bv:=p;refine AU ?_;obtain⟨q,d,rfl,k1⟩:=bv.oslen mh;refine Gq (cs':=[.string b.G,(.slice o j.length c),vI b.L,(.slice q y.length d),v8,aw,am,ad,ab,K,vI b.M]) O O O O sO.1 O bv (.tail (.tail (.tail .head))) O O λb2 d4 k2=>AU ?_;refine AT (λa w=>∃(ap:List Ce),IV B b1 b2 (114,[]) a w [(2,vP ao 0),(1,vP an 0)] (OS B4 133 (.slice q y.length d) ap::OS A9.str 9 (.slice o j.length c) j::Bx ao 31 [.string ByteArray.empty,vN,vI 0,vN,vN,vN,vN,vN,vN,vN,vI 0]::Bx an 31 [.string b.G,(.slice o j.length c),vI b.L,(.slice q y.length d),v8,aw,am,ad,ab,K,vI b.M]::L) λ_ _=>Er N b j ap=some r) ?_ ?_
 ·refine A0 (λn1=>λa w=>∃(C:Int)(aq:List Ce),IV B b1 b2 (114,[]) a w [(17,vI (↑y.length:Int)),(2,vP ao 0),(1,vP an 0),(18,vI C)] (OS B4 133 (.slice q y.length d) aq::OS A9.str 9 (.slice o j.length c) j::Bx ao 31 [.string ByteArray.empty,vN,vI 0,vN,vN,vN,vN,vN,vN,vN,vI 0]::Bx an 31 [.string b.G,(.slice o j.length c),vI b.L,(.slice q y.length d),v8,aw,am,ad,ab,K,vI b.M]::L) λ_ _=>AB C/\ED N y (Er N b j) n1 C aq=some r) N ?_ ?_ ?_
  ·intro aa ww F H;exact⟨0,y,_,_,F.sub (kp [17,2,1,18] O),H,d4,(CO.refl b1 b2),(iq (n:=0) O),E⟩
  ·rintro aa ww⟨_,_,_,_,_,_,_,_,_,E⟩;rw[ED]at E;cases E
  rintro n1 aa ww⟨C,aq,k3,k5,F,H,Q,f2,k6,E⟩;refine AL ?_ F H;clear F H ww aa;rw[ED]at E;refine AU ?_;refine AK O E (λf3 E=>?_) (λf3 E=>?_)
  ·refine AU ?_;refine AW (AU ?_);obtain⟨k8,d5,E⟩:=bd E;refine BU Q mh O O OM.1 d5 O λla z=>AU ?_;refine Cj (AU ?_);refine Nc O z O (Ku O z YP.1 O λlb d6=>?_);obtain⟨lc,d7,E⟩:=bd E;have f4:=Q.epAt mh d7 Qd d6;refine GB H4 (λ_ x=>x) O f4 Pw.1 O λld f5=>AU ?_;refine Dc E O O O W1 O Q (λbs d8=>DJ (St.all _) (f5.mono Q.ea.1 Q.ea.2) d8) λbs E le lf lg gl lh f6 p=>?_;have d9:=p;have bw:=Q.join f6 d9 ⟨OS.flat (λ{_ _ _ _ _ _} k=>k),trivial⟩;simp only[Ag4,Ag3]at bw;refine AU ?_;refine Nc O z O (Ku O z YP.1 O λli eb=>AU ?_);obtain⟨bt,ec,E⟩:=bd E;obtain⟨lj,ed,ll,f7⟩:=bw.pubs .head;refine Ei (r:=B4) (l:=aq) (i:=C) (x:=bt) O O (Kx f7) eb ec VI Pw.1 (λ_=>rfl) ed .head λlm ar gm=>AU ?_;refine Cj (AU ?_);refine Nc O z O (Ku O z YO.1 O λgn b3=>?_);obtain⟨gp,b4,E⟩:=bd E;have ee:=ar.epAt mh b4 Qc b3;refine GB H4 (λ_ x=>x) O ee GC.1 O λgq ef=>AU ?_;refine Dc E O O O N9 O ar (λbb b5=>B9 (St.all _) (ef.mono ar.ea.1 ar.ea.2) b5) λbb E gr gs gu f8 gv eg p=>?_;have b6:=p;have bc:=ar.join eg b6 ⟨OS.flat (λ{_ _ _ _ _ _} k=>k),trivial⟩;simp only[Ag4,Ag3]at bc;refine AU ?_;refine Nc O z O (Ku O z YO.1 O λgw b7=>AU ?_);obtain⟨be,b8,E⟩:=bd E;obtain⟨gx,b9,gy,eh⟩:=bc.pubs .head;refine Ei (r:=B4) (l:=(upd aq C ({ bt with Bk:=bs}))) (i:=C) (x:=be) O O (Kx eh) b7 b8 VH GC.1 (λ_=>rfl) b9 .head λgz V g0=>AU ?_;refine Cj (AU ?_);refine Nc O z O (Ku O z V9.1 O λg1 ca=>?_);obtain⟨g2,cb,E⟩:=bd E;have ei:=V.epAt mh cb Ce.f_Rain ca;refine GB H4 (λ_ x=>x) O ei gL.1 O λg3 ej=>AU ?_;refine Dc E O O O zI O V (λbx cc=>Jj (St.all _) (ej.mono V.ea.1 V.ea.2) cc) λbx E g4 g5 g6 f9 g7 ek p=>?_;have cd:=p;have bf:=V.join ek cd ⟨OS.flat (λ{_ _ _ _ _ _} k=>k),trivial⟩;simp only[Ag4,Ag3]at bf;refine AU ?_;refine Nc O z O (Ku O z V9.1 O λg8 ce=>AU ?_);obtain⟨bz,cf,E⟩:=bd E;obtain⟨g9,cg,ha,el⟩:=bf.pubs .head;refine Ei (r:=B4) (l:=(upd (upd aq C ({ bt with Bk:=bs})) C ({ be with An:=bb}))) (i:=C) (x:=bz) O O (Kx el) ce cf Ce.u_Rain gL.1 (λ_=>rfl) cg .head λhb ch hc=>AU ?_;refine BF (AU ?_);refine WF.nil (λaa ww F H=>?_);exact⟨(BO (C+1)),(upd (upd (upd aq C ({ bt with Bk:=bs})) C ({ be with An:=bb})) C ({ bz with U:=bx})),_,_,F.sub (kp [17,2,1,18] O),H,ch,EX,(BQ _),E⟩
  refine BL O (λaa ww F H=>?_);exact⟨aq,_,_,F.sub (kp [2,1] O),H,Q,f2,E⟩
 rintro aa ww⟨ap,hd,he,F,H,ci,hg,E⟩;refine AL ?_ F H;clear F H ww aa;rw[Er]at E;refine AU ?_;refine Cj (AU ?_);have em:=k9.nw;refine DX E O O O zH O (λs cj=>Ji ci em cj) λs E hh bg hi hj p=>?_;have bh:=p;refine AU ?_;obtain⟨u,g,rfl,hk⟩:=bh.oslen mh;refine Gq (cs':=[.string b.G,(.slice o j.length c),vI b.L,(.slice q y.length d),(.slice u s.length g),aw,am,ad,ab,K,vI b.M]) O O O O sN.1 O bh (.tail (.tail (.tail (.tail .head)))) O O λbi ck hl=>AU ?_;refine AT (λa w=>∃(a5:List BG),IV B bg bi (114,[]) a w [(2,vP ao 0),(1,vP an 0)] (OS CD 139 (.slice u s.length g) a5::OS B4 133 (.slice q y.length d) ap::OS A9.str 9 (.slice o j.length c) j::Bx ao 31 [.string ByteArray.empty,vN,vI 0,vN,vN,vN,vN,vN,vN,vN,vI 0]::Bx an 31 [.string b.G,(.slice o j.length c),vI b.L,(.slice q y.length d),(.slice u s.length g),aw,am,ad,ab,K,vI b.M]::L) λ_ _=>Eq N b j ap a5=some r) ?_ ?_
 ·refine A0 (λn3=>λa w=>∃(t:Int)(I:List BG),IV B bg bi (114,[]) a w [(56,vI (↑s.length:Int)),(2,vP ao 0),(1,vP an 0),(57,vI t)] (OS CD 139 (.slice u s.length g) I::OS B4 133 (.slice q y.length d) ap::OS A9.str 9 (.slice o j.length c) j::Bx ao 31 [.string ByteArray.empty,vN,vI 0,vN,vN,vN,vN,vN,vN,vN,vI 0]::Bx an 31 [.string b.G,(.slice o j.length c),vI b.L,(.slice q y.length d),(.slice u s.length g),aw,am,ad,ab,K,vI b.M]::L) λ_ _=>AB t/\EC N s (Eq N b j ap) n3 t I=some r) N ?_ ?_ ?_
  ·intro aa ww F H;exact⟨0,s,_,_,F.sub (kp [56,2,1,57] O),H,ck,(CO.refl bg bi),(iq (n:=0) O),E⟩
  ·rintro aa ww⟨_,_,_,_,_,_,_,_,_,E⟩;rw[EC]at E;cases E
  rintro n3 aa ww⟨t,I,hm,hn,F,H,A,en,ho,E⟩;refine AL ?_ F H;clear F H ww aa;rw[EC]at E;refine AU ?_;refine AK O E (λeo E=>?_) (λeo E=>?_)
  ·refine AU ?_;refine AW (AU ?_);obtain⟨hp,cl,E⟩:=bd E;refine BU A mh O O PU.1 cl O λhq m=>AU ?_;refine Cj (AU ?_);refine Nc O m O (Ku O m YK.1 O λhr cm=>?_);obtain⟨ht,cn,E⟩:=bd E;have ep:=A.epAt mh cn LT cm;refine GB H4 (λ_ x=>x) O ep Pw.1 O λhu eq=>AU ?_;refine Dc E O O O W1 O A (λa6 co=>DJ (St.all _) (eq.mono A.ea.1 A.ea.2) co) λa6 E hv hx hy ga hz er p=>?_;have cp:=p;have bj:=A.join er cp ⟨OS.flat (λ{_ _ _ _ _ _} k=>k),trivial⟩;simp only[Ag4,Ag3]at bj;refine AU ?_;refine Nc O m O (Ku O m YK.1 O λh0 cq=>AU ?_);obtain⟨a7,cr,E⟩:=bd E;obtain⟨h1,cs,h2,es⟩:=bj.pubs .head;refine Ei (r:=CD) (l:=I) (i:=t) (x:=a7) O O (Kx es) cq cr XS Pw.1 (λ_=>rfl) cs .head λh3 W h4=>AU ?_;refine Cj (AU ?_);refine Nc O m O (Ku O m SR.1 O λh5 ct=>Ku O ct YN.1 O λh6 cu=>?_);obtain⟨h7,cv,E⟩:=bd E;have eu:=W.epAt mh cv (FB.trans Iu PQ (by decide)) cu;refine GB H4 (λ_ x=>x) O eu Pw.1 O λh8 ev=>AU ?_;refine Dc E O O O W1 O W (λbk cw=>DJ (St.all _) (ev.mono W.ea.1 W.ea.2) cw) λbk E h9 ia ib gb ic ew p=>?_;have cx:=p;have bl:=W.join ew cx ⟨OS.flat (λ{_ _ _ _ _ _} k=>k),trivial⟩;simp only[Ag4,Ag3]at bl;refine AU ?_;refine Nc O m O (Ku O m SR.1 O λid cy=>Ku O cy YN.1 O λie cz=>AU ?_);obtain⟨au,c0,E⟩:=bd E;obtain⟨ig,c1,ih,ey⟩:=bl.pubs .head;refine Ei (r:=CD) (l:=(upd I t ({ a7 with As:=a6}))) (i:=t) (x:=au) O O (Kx ey) cz c0 (sC.trans Iu Zc) Pw.1 (λ_=>rfl) c1 .head λii X ij=>AU ?_;refine Cj (AU ?_);refine Nc O m O (Ku O m SR.1 O λik c2=>Ku O c2 YM.1 O λil c3=>?_);obtain⟨im,c4,E⟩:=bd E;have ez:=X.epAt mh c4 (FB.trans Iu PR (by decide)) c3;refine GB H4 (λ_ x=>x) O ez Pw.1 O λio e0=>AU ?_;refine Dc E O O O W1 O X (λb0 c5=>DJ (St.all _) (e0.mono X.ea.1 X.ea.2) c5) λb0 E ip ir it gc iu e1 p=>?_;have c6:=p;have bm:=X.join e1 c6 ⟨OS.flat (λ{_ _ _ _ _ _} k=>k),trivial⟩;simp only[Ag4,Ag3]at bm;refine AU ?_;refine Nc O m O (Ku O m SR.1 O λiv c7=>Ku O c7 YM.1 O λiw c8=>AU ?_);obtain⟨bn,c9,E⟩:=bd E;obtain⟨iy,da,iz,e2⟩:=bm.pubs .head;refine Ei (r:=CD) (l:=(upd (upd I t ({ a7 with As:=a6})) t ({ au with Ae:={ au.Ae with Aw:=bk}}))) (i:=t) (x:=bn) O O (Kx e2) c8 c9 (sC.trans Iu Zd) Pw.1 (λ_=>rfl) da .head λi0 db i1=>AU ?_;refine BF (AU ?_);refine WF.nil (λaa ww F H=>?_);exact⟨(BO (t+1)),(upd (upd (upd I t ({ a7 with As:=a6})) t ({ au with Ae:={ au.Ae with Aw:=bk}})) t ({ bn with Ae:={ bn.Ae with Ax:=b0}})),_,_,F.sub (kp [56,2,1,57] O),H,db,EX,(BQ _),E⟩
  refine BL O (λaa ww F H=>?_);exact⟨I,_,_,F.sub (kp [2,1] O),H,A,en,E⟩
 rintro aa ww⟨a5,i2,i3,F,H,ae,i4,E⟩;refine AL ?_ F H;clear F H ww aa;rw[Eq]at E;refine AU ?_;refine Cj (AU ?_);have e3:=ft.nw;refine Dc E O O O zG O ae (λY dc=>Jd (St.all _) (e3.mono ae.ea.1 ae.ea.2) dc) λY E i5 i6 i7 ge i8 e4 p=>?_;have dd:=p;have ax:=ae.join e4 dd ⟨OS.flat (λ{_ _ _ _ _ _} k=>k),trivial⟩;simp only[Ag4,Ag3]at ax;refine AU ?_;obtain⟨Z,D,rfl,i9⟩:=ax.oslen mh;refine Gq (cs':=[.string b.G,(.slice o j.length c),vI b.L,(.slice q y.length d),(.slice u s.length g),(.slice Z Y.length D),am,ad,ab,K,vI b.M]) O O O O sM.1 O ax (.tail (.tail (.tail (.tail (.tail .head))))) O O λja af jb=>AU ?_;refine Cj (AU ?_);have e5:=fu.nw;refine Dc E O O O zF O af (λac de=>JE (St.all _) (e5.mono af.ea.1 af.ea.2) de) λac E jc jd je gf jf e6 p=>?_;have df:=p;have ay:=af.join e6 df ⟨OS.flat (λ{_ _ _ _ _ _} k=>k),trivial⟩;simp only[Ag4,Ag3]at ay;refine AU ?_;obtain⟨ag,J,rfl,jg⟩:=ay.oslen mh;refine Gq (cs':=[.string b.G,(.slice o j.length c),vI b.L,(.slice q y.length d),(.slice u s.length g),(.slice Z Y.length D),(.slice ag ac.length J),ad,ab,K,vI b.M]) O O O O sL.1 O ay (.tail (.tail (.tail (.tail (.tail (.tail .head)))))) O O λjh ah ji=>AU ?_;refine Cj (AU ?_);have e7:=fv.nw;refine Dc E O O O zE O ah (λav dg=>Jg (St.all _) (e7.mono ah.ea.1 ah.ea.2) dg) λav E jj jk jl gg jm e8 p=>?_;have dh:=p;have az:=ah.join e8 dh ⟨OS.flat (λ{_ _ _ _ _ _} k=>k),trivial⟩;simp only[Ag4,Ag3]at az;refine AU ?_;obtain⟨a0,ai,rfl,jn⟩:=az.oslen mh;refine Gq (cs':=[.string b.G,(.slice o j.length c),vI b.L,(.slice q y.length d),(.slice u s.length g),(.slice Z Y.length D),(.slice ag ac.length J),(.slice a0 av.length ai),ab,K,vI b.M]) O O O O sK.1 O az (.tail (.tail (.tail (.tail (.tail (.tail (.tail .head))))))) O O λjo aj jp=>AU ?_;refine Cj (AU ?_);have e9:=fw.nw;refine Dc E O O O zD O aj (λa8 di=>Ie (St.all _) (e9.mono aj.ea.1 aj.ea.2) di) λa8 E jq jr js gh jt fa p=>?_;have dj:=p;have a1:=aj.join fa dj ⟨OS.flat (λ{_ _ _ _ _ _} k=>k),trivial⟩;simp only[Ag4,Ag3]at a1;refine AU ?_;obtain⟨bo,a9,rfl,ju⟩:=a1.oslen mh;refine Gq (cs':=[.string b.G,(.slice o j.length c),vI b.L,(.slice q y.length d),(.slice u s.length g),(.slice Z Y.length D),(.slice ag ac.length J),(.slice a0 av.length ai),(.slice bo a8.length a9),K,vI b.M]) O O O O sJ.1 O a1 (.tail (.tail (.tail (.tail (.tail (.tail (.tail (.tail .head)))))))) O O λjv ak jw=>AU ?_;refine Cj (AU ?_);have fb:=fx.nw;refine Dc E O O O N9 O ak (λbp dk=>B9 (St.all _) (fb.mono ak.ea.1 ak.ea.2) dk) λbp E jx jy jz gi j0 fc p=>?_;have dl:=p;have a2:=ak.join fc dl ⟨OS.flat (λ{_ _ _ _ _ _} k=>k),trivial⟩
 simp only[Ag4,Ag3]at a2;refine AU ?_;obtain⟨dm,bu,rfl,j1⟩:=a2.oslen mh;refine Gq (cs':=[.string b.G,(.slice o j.length c),vI b.L,(.slice q y.length d),(.slice u s.length g),(.slice Z Y.length D),(.slice ag ac.length J),(.slice a0 av.length ai),(.slice bo a8.length a9),(.slice dm bp.length bu),vI b.M]) O O O O GC.1 O a2 (.tail (.tail (.tail (.tail (.tail (.tail (.tail (.tail (.tail .head))))))))) O O λj2 dn j3=>AU ?_;refine EM O O O O Ns.1 O dn (.tail (.tail (.tail (.tail (.tail (.tail (.tail (.tail .head)))))))) O λj4 dp j5=>AU ?_;refine CM (λaa ww F H=>?_);obtain⟨j6,dq,j7,fd⟩:=dp.pubs (.tail (.tail (.tail (.tail (.tail (.tail (.tail .head)))))));obtain⟨j8,dr,j9,fe⟩:=dq.pubs (.tail (.tail (.tail (.tail (.tail (.tail .head))))));obtain⟨ka,ds,kb,ff⟩:=dr.pubs (.tail (.tail (.tail (.tail (.tail .head)))));obtain⟨kc,dt,kd,fg⟩:=ds.pubs (.tail (.tail (.tail (.tail .head))));obtain⟨ke,du,kf,fh⟩:=dt.pubs (.tail (.tail (.tail .head)));obtain⟨kg,dv,kh,fi⟩:=du.pubs (.tail (.tail .head));obtain⟨ki,dw,kj,fj⟩:=dv.pubs (.tail .head);obtain⟨kk,dx,fk,fl⟩:=dw.pubs .head;have bq:=dx.drop (.tail .head);have fm:=fd.nw;have fn:=fe.nw;have fo:=ff.nw;have fp:=fg.nw;have fq:=fh.nw;have fr:=fi.nw;have fs:=fj.mono' fk;have dy:=bq.drop .head;cases E;exact K0 F O H (Iv (Xu F H bq O mh Ns.1 O) Kz) O EX ⟨(Bz.mk (x:=(⟨b.G,j,b.L,ap,a5,Y,ac,av,a8,bp,b.M⟩:AF)) r2 fm r5 fn fo fp fq fr fs fl fy),dy⟩
def gT{b:AF}(hs:St S L h)(X:Rd S h Bz j b)(Y:Rd S h BP k s){r:Option F8}(E:LI N b s=some r):
 CG prog 35 #[j,k] S h (λv S' h'=>St S' (Pm 91 93 3 v r::L) h'):=by
 refine CG.go (l:=[j,k]) 26 func35 O ntmps35 O λB=>?_;rw[LI]at E;refine WF.sl (CC O X (λe=>by cases e) O hs λq1 S2 h3 Z e5 k6=>?_);have k7:=Y.mono e5;refine CC O k7 (λe=>by cases e) O Z λq8 S9 av c m w=>AN 1 (DV O (AG (LF.nil (kp [3,2] O) (CU (CU (CP (.inl O) c ?_))))));have n:=k6.mono m;refine Lh OK c.1 O n Ns.1 (λe=>by cases e) O λaw ab=>?_;obtain⟨ac,y,E⟩:=bd E;refine Jk O O O tW O (λh' o=>PW (St.all h') (ab.mono (o.all c.1)) y) (Lp O (AE O ?_));obtain⟨ad,a,E⟩:=bd E;refine A3 5 14 (.bool ad) ?_ ?_
 ·cases z:(!ac)
  ·have a:=Hl z a;refine AO O (Lh OK c.1 O n Ns.1 (λe=>by cases e) O λax ae=>AO O (Lh OK c.1 O w JB.1 (λe=>by cases e) O λay af=>AO O ?_));obtain⟨az,A,a⟩:=bd a;refine Jk O O O tV O (λh' o=>Py (St.all h') (ae.mono (o.all c.1)) (af.mono (o.all c.1)) A) (AO O (Lp O (AZ O ?_)));cases a;exact A4 O
  have a:=Hk z a;cases a;exact BK O O
 refine BW (kp [14,3,2] O) λa0 d i=>Is O (λu=>?_) (λu=>?_)
 ·have E:=Hk u E;refine Cr (Cm O (kp [4] O) (CM (λaa ww hf hw=>?_)));cases E;exact T0 hf hw O O (e5.trans (m.trans i)) (mV d)
 have E:=Hl u E;refine D7 (WF.sl (AN 1 ?_));have ag:=w.mono i;refine Lh H4 d.1 O ag JB.1 (λe=>by cases e) O λa1 ah=>AG ?_;obtain⟨U,ai,E⟩:=bd E;refine Ch O O O Ade O (QG d ah ai) λa2 a3 a4 C p=>?_;obtain⟨ky,D⟩:=p;refine AN 1 ?_;obtain⟨c1,c2,c3,c4,c5,c6,rfl,hH,j1,j2,j3,j4,j5,j6⟩:=BP.ex ky;refine GP (cs:=[vI (-1),vN,vN,vN,vN,vN,vI U.B,c1,c2,c3,c4,c5,c6,vN]) sR O O O (AG (OD (cs:=[vI (-1),vN,vN,vN,vN,vN,vI U.B,c1,c2,c3,c4,c5,c6,vN]) O O O D λV h6 F e6=>AN 1 (DV O (AG (LF.nil (kp [5,2] O) (WF.sl (AN 1 ?_)))))));have aj:=n.mono (i.trans (C.trans e6));refine Lh H4 F.1 O aj Ns.1 (λe=>by cases e) O λa5 ak=>AG ?_;obtain⟨g,al,E⟩:=bd E;cases E;refine Ch O O O Add O (QI F ak al) λa6 a7 a8 am p=>?_;obtain⟨kb,H⟩:=p;refine XK (K:=0) (E:=0) O H (Value.int .i64) vO λW a9 I an=>AN 1 (AE O (AG (Aa3 (k0:=(0:Int)) (x:=some V) I .head O O O ND OQ λba J ao=>AN 2 (AE O ?_))));obtain⟨v1,v3,v4,v5,v6,v7,v8,v9,rfl,kx⟩:=Bz.ex kb;refine GP (cs:=[.string g.G,v1,vI g.L,v3,v4,v5,v6,v7,v8,v9,vI g.M,.map (some W),vI 1]) Abt O O O (AG (OD (cs:=[.string g.G,v1,vI g.L,v3,v4,v5,v6,v7,v8,v9,vI g.M,.map (some W),vI 1]) O O O J λbb bc Q ap=>AN 1 (DV O (AG (LF.nil (kp [4] O) (CM (λaa ww hf hw=>?_)))))));have eA:=an.trans (ao.trans ap);have eB:=e6.trans (am.trans eA);have aq:=(Q.nil AC 3).pick (.tail (.tail (.tail .head)));have ar:=TI (x:=⟨-1,kO,U,[]⟩) (b:=V) (T:=93) (E:=3) (show AB (-1)from⟨by decide,by decide⟩) xH (ky.mono eB) aq;have au:=St.mid (M:=[Bx bb 91 [.string g.G,v1,vI g.L,v3,v4,v5,v6,v7,v8,v9,vI g.M,.map (some W),vI 1],MP (Value.int .i64) vO W [((0:Int),some V)]]) ar;exact T0 hf hw O O (e5.trans (m.trans (i.trans (C.trans eB)))) (QT (t:=⟨g,[(0,⟨-1,kO,U,[]⟩)],1⟩) (f:=λ_=>V) (show AB 1 from⟨by decide,by decide⟩) (by simp) (kb.mono eA) au)
def OV(C:St S L h)(i:Sl S h AC b d){g:xq}(j:Sl S h AC c g)(E:Hp N d g=some r):
 CG prog 49 #[b,c] S h (λv S' h'=>v= .bool r/\St S' (L) h'):=by
 refine CG.go 26 func49 O ntmps49 O λB=>?_;rw[Hp]at E;refine AU ?_;refine AK O E (λD E=>?_) (λD E=>?_)
 ·exact RT
 refine AU ?_;refine AT (λa w=>IV B S h (26,[]) a w [] (L) λ_ _=>Gj N=some r) ?_ ?_
 ·refine A0 (λz=>λa w=>∃(s:Int),IV B S h (26,[]) a w [(12,vI (↑d.length:Int)),(0,b),(1,c),(13,vI s)] (L) λ_ _=>AB s/\Dw N d g (Gj N) z s=some r) N ?_ ?_ ?_
  ·intro p q k l;exact⟨0,_,_,k.sub (kp [12,0,1,13] O),l,C,(CO.refl S h),(iq (n:=0) O),E⟩
  ·rintro p q⟨_,_,_,_,_,_,_,_,E⟩;rw[Dw]at E;cases E
  rintro z p q⟨s,W,F,k,l,o,m,X,E⟩;refine AL ?_ k l;clear k l q p;rw[Dw]at E;refine AU ?_;refine AK O E (λt E=>?_) (λt E=>?_)
  ·refine AU ?_;refine AW (AU ?_);refine Ip (.inr ⟨mo,Γ⟩) (AU ?_);have u:=i.mono' m;refine BE E O O u CW.1 O λG E H I=>AU ?_;have x:=j.mono' m;refine BE E O O x CW.1 O λJ E K M=>AU ?_;refine AK O E (λy E=>?_) (λy E=>?_)
   ·exact RT
   refine AU ?_;refine BF (AU ?_);refine WF.nil (λp q k l=>?_);exact⟨(BO (s+1)),_,_,k.sub (kp [12,0,1,13] O),l,o,m,(BQ _),E⟩
  refine BL O (λp q k l=>?_);exact⟨_,_,k.sub Ts,l,o,m,E⟩
 rintro p q⟨Q,U,k,l,A,V,E⟩;refine AL ?_ k l;clear k l q p;rw[Gj]at E;exact RT
end Go.Proofs.YtabonambpbofgaaGreat
