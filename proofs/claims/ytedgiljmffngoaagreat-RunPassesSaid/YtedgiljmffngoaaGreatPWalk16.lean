import Derived.Test.YtedgiljmffngoaaGreatPInst
import Derived.Test.YtedgiljmffngoaaGreatPForms
import Derived.Test.YtedgiljmffngoaaGreatPSort5
import Derived.Test.YtedgiljmffngoaaGreatPWalk8
import Derived.Test.YtedgiljmffngoaaGreatPWalk12
import Derived.Test.YtedgiljmffngoaaGreatPWalk14
import Derived.Test.YtedgiljmffngoaaGreatPWalk15
namespace Go.Proofs.YtedgiljmffngoaaGreat
set_option linter.all false
open Go.RowKit
open Go.Proofs.Tryz
set_option maxRecDepth 10000
set_option maxHeartbeats 2000000
variable {N:Nat}{S:Nat→Prop}{L:List HP}{h:AS}
def PE (hs:St S L h) {k:Value}{l:AE}(t:Rd S h By k l) {r:Bool}(E:H4 N l=some r):
 B6 prog 183 #[k] S h (λv S' h'=>v= .bool r∧St S' (L) h'):=by
 refine A7 80 func183 O ntmps183 O λB=>?_;rw[H4] at E;refine AU ?_;refine Bz O t CE O hs λq1 S2 h3 ai e5 k6=>?_;have k8:=k6.fl K6;obtain⟨v9,_,aj⟩:=k8.ll;refine AU ?_;refine AN (λa w=>IV B S2 h3 (80,[]) a w [] (L) λ_ _=>Fe N=some r) ?_ ?_
 ·refine AY (λn1=>λa w=>∃(m:Int),IV B S2 h3 (80,[]) a w [(7,vI (↑l.Af.length:Int)),(6,v9),(1,q1),(8,vI m)] (L) λ_ _=>AA m∧Dp N l (Fe N) n1 m=some r) N ?_ ?_ ?_
  ·intro x y p q;exact⟨0,_,_,p.sub (kp [7,6,1,8] O),q,ai,(CG.refl S2 h3),(iq (n:=0) O),E⟩
  ·rintro x y ⟨_,_,_,_,_,_,_,_,E⟩;rw[Dp] at E;cases E
  rintro n1 x y ⟨m,bm,bn,p,q,u,A,bo,E⟩;refine AK ?_ p q;clear p q y x;rw[Dp] at E;refine AU ?_;refine AG O E (λak E=>?_) (λak E=>?_)
  ·refine AU ?_;refine A3 (AU ?_);have am:=aj.mono' A;refine A4 E O O am bK.1 O λs E bp an=>?_;obtain⟨bq,_,ao⟩:=an.lv;refine AU ?_;refine CP Zw O u λbr bs C ap=>?_;have aq:=ao.mono ap;obtain⟨rfl,⟨bt,ar,au,av,aw,ax,ay⟩⟩:=Gy.ex aq;refine C0 O O O O aO.1 O C .head O λbu F bv=>AU ?_;refine BY (.inl O) F ?_;have G:=k6.nw;have az:=G.fl Ji;obtain⟨bw,_,a0⟩:=az.ll;have a1:=a0.le;refine AU ?_;refine A5 E O O O QL O (λH I h' o=>HY (St.all h') ar (KU a1) I) λH E=>AU ?_;obtain⟨J,b,E⟩:=bd E;refine AW 12 31 (.bool J) ?_ ?_
   ·cases K:(!H)
    ·have b:=Gw K b;refine AU ?_;refine A5 b O O O QL O (λa2 M h' o=>HY (St.all h') au (BF _) M) λa2 b=>AU ?_;cases b;exact AX O
    have b:=Gv K b;cases b;exact BD O O
   refine AU ?_;obtain⟨Q,c,E⟩:=bd E;refine AW 5 44 (.bool Q) ?_ ?_
   ·cases U:(J||(decide (s.D=s.B)))
    ·have c:=Gw U c;refine AU ?_;refine A5 c O O O HB O (λa3 V h' o=>CI (St.all h') av (iq (n:=1) O) (iq (n:=24) O) V) λa3 c=>AU ?_;cases c;exact AX O
    have c:=Gv U c;cases c;exact BD O O
   refine AU ?_;obtain⟨W,d,E⟩:=bd E;refine AW 5 50 (.bool W) ?_ ?_
   ·cases X:Q
    ·have d:=Gw X d;refine AU ?_;refine A5 d O O O HB O (λa4 Y h' o=>CI (St.all h') aw (iq (n:=0) O) (iq (n:=1073741824) O) Y) λa4 d=>AU ?_;cases d;exact AX O
    have d:=Gv X d;cases d;exact BD O O
   refine AU ?_;obtain⟨a5,g,E⟩:=bd E;refine AW 5 56 (.bool a5) ?_ ?_
   ·cases Z:W
    ·have g:=Gw Z g;refine AU ?_;refine A5 g O O O JR O (λa6 ab h' o=>CQ (St.all h') ay ab) λa6 g=>AU ?_;cases g;exact AX O
    have g:=Gv Z g;cases g;exact BD O O
   refine BG (kp [56,4,7,6,1,8] O) λbx ac a7=>AG O E (λa8 E=>?_) (λa8 E=>?_)
   ·exact RT
   refine AU ?_;refine BY (.inl O) ac (AU ?_);obtain⟨a9,i,E⟩:=bd E;refine AW 13 78 (.bool a9) ?_ ?_
   ·cases ad:((decide (s.Bi=(-1)))&&(decide (s.Bj≠0)))
    ·have i:=Gw ad i;refine AU ?_;obtain⟨ba,j,i⟩:=bd i;refine AW 8 77 (.bool ba) ?_ ?_
     ·cases ae:(decide (s.Bi≠(-1)))
      ·have j:=Gw ae j;cases j;exact BD O O
      have j:=Gv ae j;have bb:=G.mono a7;have bc:=bb.fl BZ;obtain⟨bz,_,be⟩:=bc.ll;have bf:=be.le;refine AU ?_;refine A5 j O O O QL O (λbg af h' o=>HY (St.all h') ax (KU bf) af) λbg j=>AU ?_;cases j;exact AX O
     refine AU ?_;cases i;exact AX O
    have i:=Gv ad i;cases i;exact BD O O
   refine BG (kp [78,7,6,1,8] O) λb0 ag bi=>AG O E (λah E=>?_) (λah E=>?_)
   ·exact RT
   refine AU ?_;refine BE (AU ?_);refine WF.nil (λx y p q=>?_);have z:=ag.drop .head;exact⟨(A9 (m+1)),_,_,p.sub (kp [7,6,1,8] O),q,z,EX,(BF _),E⟩
  refine A8 O (λx y p q=>?_);exact⟨_,_,p.sub Nv,q,u,A,E⟩
 rintro x y ⟨bj,bk,p,q,bh,bl,E⟩;refine AK ?_ p q;clear p q y x;rw[Fe] at E;exact RT
def OI (hs:St S L h) {m:Value}{q:AE}(n:Rd S h By m q) {r:Bool}(E:Fm N q=some r):
 B6 prog 98 #[m] S h (λv S' h'=>v= .bool r∧St S' (L) h'):=by
 refine A7 37 func98 O ntmps98 O λB=>?_;rw[Fm] at E;refine AU ?_;refine Bz O n CE O hs λq1 S2 h3 l e5 p=>AU ?_;refine BY (.inl O) l ?_;obtain⟨v7,_,k8⟩:=p.lv;refine AU ?_;refine A5 E O O O rB O (λy9 Z h' o=>Pu (St.all h') (k8.mono (o.all l.1)) Z) λy9 E=>AU ?_;obtain⟨s,a,E⟩:=bd E;refine AW 3 8 (.bool s) ?_ ?_
 ·cases t:y9
  ·have a:=Gw t a;cases a;exact BD O O
  have a:=Gv t a;obtain⟨au,_,aa⟩:=p.lv;refine AU ?_;refine A5 a O O O rA O (λab u h' o=>PF (St.all h') (aa.mono (o.all l.1)) u) λab a=>AU ?_;cases a;exact AX O
 refine AU ?_;obtain⟨w,b,E⟩:=bd E;refine AW 3 12 (.bool w) ?_ ?_
 ·cases x:s
  ·have b:=Gw x b;cases b;exact BD O O
  have b:=Gv x b;obtain⟨av,_,ac⟩:=p.lv;refine AU ?_;refine A5 b O O O qZ O (λad y h' o=>Oa (St.all h') (ac.mono (o.all l.1)) y) λad b=>AU ?_;cases b;exact AX O
 refine AU ?_;obtain⟨z,c,E⟩:=bd E;refine AW 3 16 (.bool z) ?_ ?_
 ·cases A:w
  ·have c:=Gw A c;cases c;exact BD O O
  have c:=Gv A c;obtain⟨aw,_,ae⟩:=p.lv;refine AU ?_;refine A5 c O O O qY O (λaf C h' o=>PG (St.all h') (ae.mono (o.all l.1)) C) λaf c=>AU ?_;cases c;exact AX O
 refine AU ?_;obtain⟨D,d,E⟩:=bd E;refine AW 3 20 (.bool D) ?_ ?_
 ·cases F:z
  ·have d:=Gw F d;cases d;exact BD O O
  have d:=Gv F d;obtain⟨ax,_,ag⟩:=p.lv;refine AU ?_;refine A5 d O O O qX O (λah G h' o=>N6 (St.all h') (ag.mono (o.all l.1)) G) λah d=>AU ?_;cases d;exact AX O
 refine AU ?_;obtain⟨H,g,E⟩:=bd E;refine AW 3 24 (.bool H) ?_ ?_
 ·cases I:D
  ·have g:=Gw I g;cases g;exact BD O O
  have g:=Gv I g;obtain⟨ay,_,ai⟩:=p.lv;refine AU ?_;refine A5 g O O O qW O (λaj J h' o=>OZ (St.all h') (ai.mono (o.all l.1)) J) λaj g=>AU ?_;cases g;exact AX O
 refine AU ?_;obtain⟨K,i,E⟩:=bd E;refine AW 3 28 (.bool K) ?_ ?_
 ·cases M:H
  ·have i:=Gw M i;cases i;exact BD O O
  have i:=Gv M i;obtain⟨az,_,ak⟩:=p.lv;refine AU ?_;refine A5 i O O O qV O (λal Q h' o=>PD (St.all h') (ak.mono (o.all l.1)) Q) λal i=>AU ?_;cases i;exact AX O
 refine AU ?_;obtain⟨U,j,E⟩:=bd E;refine AW 3 32 (.bool U) ?_ ?_
 ·cases V:K
  ·have j:=Gw V j;cases j;exact BD O O
  have j:=Gv V j;obtain⟨a0,_,am⟩:=p.lv;refine AU ?_;refine A5 j O O O qU O (λan W h' o=>Ob (St.all h') (am.mono (o.all l.1)) W) λan j=>AU ?_;cases j;exact AX O
 refine AU ?_;obtain⟨ao,k,E⟩:=bd E;refine AW 3 36 (.bool ao) ?_ ?_
 ·cases X:U
  ·have k:=Gw X k;cases k;exact BD O O
  have k:=Gv X k;obtain⟨a1,_,ap⟩:=p.lv;refine AU ?_;refine A5 k O O O qT O (λaq Y h' o=>PE (St.all h') (ap.mono (o.all l.1)) Y) λaq k=>AU ?_;cases k;exact AX O
 refine AU ?_;exact BG (kp [2] O) λa2 ar a3=>RT
def Fp (C:St S L h) {b:Value}{g:(List Int)}(d:Sl S h AB b g) {c:Value}{i:(List Int)}(m:Sl S h AB c i) {r:Bool}(E:D9 N g i=some r):
 B6 prog 105 #[b,c] S h (λv S' h'=>v= .bool r∧St S' (L) h'):=by
 refine A7 26 func105 O ntmps105 O λB=>?_;rw[D9] at E;refine AU ?_;refine AG O E (λD E=>?_) (λD E=>?_)
 ·exact RT
 refine AU ?_;refine AN (λa w=>IV B S h (26,[]) a w [] (L) λ_ _=>Gz N=some r) ?_ ?_
 ·refine AY (λz=>λa w=>∃(s:Int),IV B S h (26,[]) a w [(0,b),(1,c),(5,vI s)] (L) λ_ _=>AA s∧FM N g i (Gz N) z s=some r) N ?_ ?_ ?_
  ·intro p q j k;exact⟨0,_,_,j.sub (kp [0,1,5] O),k,C,(CG.refl S h),(iq (n:=0) O),E⟩
  ·rintro p q ⟨_,_,_,_,_,_,_,_,E⟩;rw[FM] at E;cases E
  rintro z p q ⟨s,W,X,j,k,o,l,Y,E⟩;refine AK ?_ j k;clear j k q p;rw[FM] at E;have F:=d.mono' l;refine AU ?_;refine AG O E (λt E=>?_) (λt E=>?_)
  ·refine AU ?_;refine A3 (AU ?_);refine I0 (.inr ⟨mo,by kernel_rfl⟩) (AU ?_);have u:=d.mono' l;refine A4 E O O u Ce.1 O λG E H I=>AU ?_;have x:=m.mono' l;refine A4 E O O x Ce.1 O λJ E K M=>AU ?_;refine AG O E (λy E=>?_) (λy E=>?_)
   ·exact RT
   refine AU ?_;refine BE (AU ?_);refine WF.nil (λp q j k=>?_);exact⟨(A9 (s+1)),_,_,j.sub (kp [0,1,5] O),k,o,l,(BF _),E⟩
  refine A8 O (λp q j k=>?_);exact⟨_,_,j.sub Nv,k,o,l,E⟩
 rintro p q ⟨Q,U,j,k,A,V,E⟩;refine AK ?_ j k;clear j k q p;rw[Gz] at E;exact RT
def M0 (M:St S L h) {b:Value}{i:(List (List Int))}(d:Sl S h (A6.sl AB) b i) {c:Value}{j:(List (List Int))}(m:Sl S h (A6.sl AB) c j) {r:Bool}(E:Iu N i j=some r):
 B6 prog 106 #[b,c] S h (λv S' h'=>v= .bool r∧St S' (L) h'):=by
 refine A7 27 func106 O ntmps106 O λB=>?_;rw[Iu] at E;refine AU ?_;refine AG O E (λQ E=>?_) (λQ E=>?_)
 ·exact RT
 refine AU ?_;refine AN (λa w=>IV B S h (27,[]) a w [] (L) λ_ _=>Gj N=some r) ?_ ?_
 ·refine AY (λJ=>λa w=>∃(t:Int),IV B S h (27,[]) a w [(0,b),(1,c),(5,vI t)] (L) λ_ _=>AA t∧Eu N i j (Gj N) J t=some r) N ?_ ?_ ?_
  ·intro q s k l;exact⟨0,_,_,k.sub (kp [0,1,5] O),l,M,(CG.refl S h),(iq (n:=0) O),E⟩
  ·rintro q s ⟨_,_,_,_,_,_,_,_,E⟩;rw[Eu] at E;cases E
  rintro J q s ⟨t,S8,h9,k,l,g,p,r7,E⟩;refine AK ?_ k l;clear k l s q;rw[Eu] at E;have U:=d.mono' p;refine AU ?_;refine AG O E (λy E=>?_) (λy E=>?_)
  ·refine AU ?_;refine A3 (AU ?_);refine BY (.inr ⟨mo,by kernel_rfl⟩) g (AU ?_);have z:=d.mono' p;refine A4 E O O z IP.1 O λV E W A=>?_;obtain⟨X,_,C⟩:=A.ll;refine AU ?_;have D:=m.mono' p;refine A4 E O O D IP.1 O λY E Z F=>?_;obtain⟨ab,_,G⟩:=F.ll;refine AU ?_;refine A5 E O O O TV O (λH u h' o=>Fp (St.all h') (C.mono' (o.all g.1)) (G.mono' (o.all g.1)) u) λH E=>AU ?_;refine BG (kp [26,0,1,5] O) λac x ad=>AG O E (λI E=>?_) (λI E=>?_)
   ·exact RT
   refine AU ?_;refine BE (AU ?_);refine WF.nil (λq s k l=>?_);exact⟨(A9 (t+1)),_,_,k.sub (kp [0,1,5] O),l,x,EX,(BF _),E⟩
  refine A8 O (λq s k l=>?_);exact⟨_,_,k.sub Nv,l,g,p,E⟩
 rintro q s ⟨ae,af,k,l,K,ag,E⟩;refine AK ?_ k l;clear k l s q;rw[Gj] at E;exact RT
def Mz (hs:St S L h) {g:Value}{m:(List AO)}(d:Sl S h AZ g m) {i:Value}{p:(List AO)}(j:Sl S h AZ i p) {r:Bool}(E:It N m p=some r):
 B6 prog 107 #[g,i] S h (λv S' h'=>v= .bool r∧St S' (L) h'):=by
 refine A7 55 func107 O ntmps107 O λB=>?_;rw[It] at E;refine AU ?_;refine AG O E (λc3 E=>?_) (λc3 E=>?_)
 ·exact RT
 refine AU ?_;refine AN (λa w=>IV B S h (55,[]) a w [] (L) λ_ _=>Gi N=some r) ?_ ?_
 ·refine AY (λn1=>λa w=>∃(x:Int),IV B S h (55,[]) a w [(0,g),(1,i),(5,vI x)] (L) λ_ _=>AA x∧Et N m p (Gi N) n1 x=some r) N ?_ ?_ ?_
  ·intro t u q s;exact⟨0,_,_,q.sub (kp [0,1,5] O),s,hs,(CG.refl S h),(iq (n:=0) O),E⟩
  ·rintro t u ⟨_,_,_,_,_,_,_,_,E⟩;rw[Et] at E;cases E
  rintro n1 t u ⟨x,S8,h9,q,s,l,k,r7,E⟩;refine AK ?_ q s;clear q s u t;rw[Et] at E;have ag:=d.mono' k;refine AU ?_;refine AG O E (λF E=>?_) (λF E=>?_)
  ·refine AU ?_;refine A3 (AU ?_);refine BY (.inr ⟨mo,by kernel_rfl⟩) l (AU ?_);have G:=d.mono' k;refine A4 E O O G LA.1 O λH E ah ai=>AU ?_;have I:=j.mono' k;refine A4 E O O I LA.1 O λJ E aj ak=>AU ?_;obtain⟨y,c,E⟩:=bd E;refine AW 12 40 (.bool y) ?_ ?_
   ·cases z:(decide (H.Ao≠J.Ao))
    ·have c:=Gw z c;refine AU ?_;have K:=d.mono' k;refine A4 c O O K LA.1 O λal c am an=>AU ?_;have M:=j.mono' k;refine A4 c O O M LA.1 O λao c ap aq=>AU ?_;cases c;exact AX O
    have c:=Gv z c;cases c;exact BD O O
   refine AU ?_;obtain⟨Q,b,E⟩:=bd E;refine AW 13 54 (.bool Q) ?_ ?_
   ·cases A:y
    ·have b:=Gw A b;refine AU ?_;have U:=d.mono' k;refine A4 b O O U LA.1 O λar b au V=>?_;have W:=V.fl AO.f_Part;obtain⟨av,_,X⟩:=W.ll;refine AU ?_;have Y:=j.mono' k;refine A4 b O O Y LA.1 O λaw b ax Z=>?_;have ab:=Z.fl AO.f_Part;obtain⟨ay,_,ac⟩:=ab.ll;refine AU ?_;refine A5 b O O O TV O (λad C h' o=>Fp (St.all h') (X.mono' (o.all l.1)) (ac.mono' (o.all l.1)) C) λad b=>AU ?_;cases b;exact AX O
    have b:=Gv A b;cases b;exact BD O O
   refine BG (kp [54,0,1,5] O) λaz D a0=>AG O E (λae E=>?_) (λae E=>?_)
   ·exact RT
   refine AU ?_;refine BE (AU ?_);refine WF.nil (λt u q s=>?_);exact⟨(A9 (x+1)),_,_,q.sub (kp [0,1,5] O),s,D,EX,(BF _),E⟩
  refine A8 O (λt u q s=>?_);exact⟨_,_,q.sub Nv,s,l,k,E⟩
 rintro t u ⟨a1,a2,q,s,af,a3,E⟩;refine AK ?_ q s;clear q s u t;rw[Gi] at E;exact RT
def My (H:St S L h) {b:Value}{g:(List AQ)}(d:Sl S h BJ b g) {c:Value}{i:(List AQ)}(m:Sl S h BJ c i) {r:Bool}(E:Is N g i=some r):
 B6 prog 108 #[b,c] S h (λv S' h'=>v= .bool r∧St S' (L) h'):=by
 refine A7 26 func108 O ntmps108 O λB=>?_;rw[Is] at E;refine AU ?_;refine AG O E (λI E=>?_) (λI E=>?_)
 ·exact RT
 refine AU ?_;refine AN (λa w=>IV B S h (26,[]) a w [] (L) λ_ _=>Gh N=some r) ?_ ?_
 ·refine AY (λF=>λa w=>∃(s:Int),IV B S h (26,[]) a w [(0,b),(1,c),(5,vI s)] (L) λ_ _=>AA s∧Es N g i (Gh N) F s=some r) N ?_ ?_ ?_
  ·intro p q j k;exact⟨0,_,_,j.sub (kp [0,1,5] O),k,H,(CG.refl S h),(iq (n:=0) O),E⟩
  ·rintro p q ⟨_,_,_,_,_,_,_,_,E⟩;rw[Es] at E;cases E
  rintro F p q ⟨s,S8,h9,j,k,o,l,r7,E⟩;refine AK ?_ j k;clear j k q p;rw[Es] at E;have J:=d.mono' l;refine AU ?_;refine AG O E (λt E=>?_) (λt E=>?_)
  ·refine AU ?_;refine A3 (AU ?_);refine I0 (.inr ⟨mo,by kernel_rfl⟩) (AU ?_);have u:=d.mono' l;refine A4 E O O u NV.1 O λK E M x=>?_;obtain⟨Q,_,y⟩:=x.lv;refine AU ?_;have z:=m.mono' l;refine A4 E O O z NV.1 O λU E V A=>?_;obtain⟨W,_,C⟩:=A.lv;refine AU ?_;obtain⟨rfl,⟨X,Y⟩⟩:=BJ.ex y;obtain⟨rfl,⟨Z,ab⟩⟩:=BJ.ex C;refine fJ O O pD O O O O (AU ?_);refine AG O E (λD E=>?_) (λD E=>?_)
   ·exact RT
   refine AU ?_;refine BE (AU ?_);refine WF.nil (λp q j k=>?_);exact⟨(A9 (s+1)),_,_,j.sub (kp [0,1,5] O),k,o,l,(BF _),E⟩
  refine A8 O (λp q j k=>?_);exact⟨_,_,j.sub Nv,k,o,l,E⟩
 rintro p q ⟨ac,ad,j,k,G,ae,E⟩;refine AK ?_ j k;clear j k q p;rw[Gh] at E;exact RT
def Lu (hs:St S L h) {b:Value}{d:AF}(p:Rd S h BA b d) {c:Value}{g:AF}(q:Rd S h BA c g) {r:Bool}(E:I7 N d g=some r):
 B6 prog 32 #[b,c] S h (λv S' h'=>v= .bool r∧St S' (L) h'):=by
 refine A7 62 func32 O ntmps32 O λB=>?_;rw[I7] at E;refine AU ?_;refine Bz O p CE O hs λq1 S2 h3 ak e5 k6=>?_;have k7:=q.mono e5;refine Bz O k7 CE O ak λq8 S9 bg i al u=>AU ?_;refine BY (.inl O) i ?_;have w:=k6.mono al;have am:=w.fl FL;obtain⟨bh,_,an⟩:=am.ll;have ao:=u.fl FL;obtain⟨bi,_,ap⟩:=ao.ll;refine AU ?_;refine A5 E O O O rV O (λx y h' o=>M0 (St.all h') (an.mono' (o.all i.1)) (ap.mono' (o.all i.1)) y) λx E=>AU ?_;refine BG (kp [5,3,2] O) λbj j z=>AU ?_;refine BY (.inl O) j ?_;have A:=w.mono z;have aq:=A.fl Jx;obtain⟨bk,_,ar⟩:=aq.ll;have D:=u.mono z;have au:=D.fl Jx;obtain⟨bl,_,av⟩:=au.ll;refine AU ?_;refine A5 E O O O TV O (λF G h' o=>Fp (St.all h') (ar.mono' (o.all j.1)) (av.mono' (o.all j.1)) G) λF E=>AU ?_;refine BG (kp [6,5,3,2] O) λbm k H=>AU ?_;refine BY (.inl O) k ?_;have I:=A.mono H;have aw:=I.fl Fs;obtain⟨bn,_,ax⟩:=aw.ll;have J:=D.mono H;have ay:=J.fl Fs;obtain⟨bo,_,az⟩:=ay.ll;refine AU ?_;refine A5 E O O O rU O (λK M h' o=>Mz (St.all h') (ax.mono' (o.all k.1)) (az.mono' (o.all k.1)) M) λK E=>AU ?_;refine BG (kp [7,6,5,3,2] O) λbp l Q=>AU ?_;refine BY (.inl O) l ?_;have U:=I.mono Q;have a0:=U.fl I1;obtain⟨bq,_,a1⟩:=a0.ll;have V:=J.mono Q;have a2:=V.fl I1;obtain⟨br,_,a3⟩:=a2.ll;refine AU ?_;refine A5 E O O O TV O (λW X h' o=>Fp (St.all h') (a1.mono' (o.all l.1)) (a3.mono' (o.all l.1)) X) λW E=>AU ?_;refine BG (kp [8,7,6,5,3,2] O) λbs m Y=>AU ?_;refine BY (.inl O) m ?_;have Z:=U.mono Y;have a4:=Z.fl HI;obtain⟨bt,_,a5⟩:=a4.ll;have aa:=V.mono Y;have a6:=aa.fl HI;obtain⟨bu,_,a7⟩:=a6.ll;refine AU ?_;refine A5 E O O O TV O (λab ac h' o=>Fp (St.all h') (a5.mono' (o.all m.1)) (a7.mono' (o.all m.1)) ac) λab E=>AU ?_;refine BG (kp [9,8,7,6,5,3,2] O) λbv n ad=>AU ?_;refine BY (.inl O) n ?_;have a8:=Z.mono ad;have a9:=aa.mono ad;refine AU ?_;obtain⟨ae,a,E⟩:=bd E;refine AW 6 61 (.bool ae) ?_ ?_
 ·cases s:((((((decide (d.C=g.C))&&x)&&F)&&K)&&W)&&ab)
  ·have a:=Gw s a;cases a;exact BD O O
  have a:=Gv s a;have af:=a8.fl Ix;obtain⟨bb,_,ag⟩:=af.ll;have ah:=a9.fl Ix;obtain⟨bc,_,ai⟩:=ah.ll;refine AU ?_;refine A5 a O O O rS O (λaj t h' o=>My (St.all h') (ag.mono' (o.all n.1)) (ai.mono' (o.all n.1)) t) λaj a=>AU ?_;cases a;exact AX O
 refine AU ?_;exact BG (kp [4] O) λbe ba bf=>RT
def Qk (hs:St S L h) {k:Value}{u:AE}(U:Rd S h By k u) {l:Value}{b:AF}(V:Rd S h BA l b) {c:Value}{d:(List Cs)}(q:Sl S h G0 c d) {r:AF}(E:LM N u b d=some r):
 B6 prog 27 #[k,l,c] S h (λv S' h'=>Rd S' h' BA v r∧St S' (L) h'):=by
 refine A7 25 func27 O ntmps27 O λB=>?_;rw[LM] at E;refine AU ?_;refine Bz O U CE O hs λq1 S2 h3 co e5 k6=>?_;have k7:=V.mono e5;obtain⟨cp,cq,cr,cs,ct,cu,rfl,r9,cv,cw,cx,cy,cz,c0⟩:=BA.ex k7;refine PQ O O O co λW d8 a6 d9=>CP M2 O a6 λX ao a7 ea=>?_;have c1:=q.nw;refine AU ?_;refine AN (λa w=>∃(y:Int) (ap:Value) (Y:List (List Int)) (aq:Value) (Z:List Int) (ar:Value) (ab:List AO) (au:Value) (ac:List AQ) (av:Value) (ad:List Int) (aw:Value) (ae:List Int),IV B S2 ao (25,[]) a w [(6,vP X 0),(4,vP W 0)] (Bx X 36 [vI 0,vN,vN,vN,vN,vN,vN]::Bx W 36 [vI y,ap,aq,ar,au,av,aw]::L) λS' h'=>AA y∧Sl S' h' (A6.sl AB) ap Y∧Sl S' h' AB aq Z∧Sl S' h' AZ ar ab∧Sl S' h' BJ au ac∧Sl S' h' AB av ad∧Sl S' h' AB aw ae∧KB N y Y Z ab ac ad ae=some r) ?_ ?_
 ·refine AY (λn1=>λa w=>∃(z:Int) (s:Int) (af:Value) (A:List (List Int)) (ag:Value) (D:List Int) (ah:Value) (F:List AO) (ai:Value) (G:List AQ) (aj:Value) (I:List Int) (ak:Value) (J:List Int),IV B S2 ao (25,[]) a w [(10,vI (↑d.length:Int)),(9,c),(6,vP X 0),(4,vP W 0),(3,q1),(11,vI z)] (Bx X 36 [vI 0,vN,vN,vN,vN,vN,vN]::Bx W 36 [vI s,af,ag,ah,ai,aj,ak]::L) λS' h'=>AA z∧AA s∧Sl S' h' (A6.sl AB) af A∧Sl S' h' AB ag D∧Sl S' h' AZ ah F∧Sl S' h' BJ ai G∧Sl S' h' AB aj I∧Sl S' h' AB ak J∧Hl N u d (KB N) n1 z s A D F G I J=some r) N ?_ ?_ ?_
  ·intro aa ww m o;have c2:=cv.nw;have c3:=cw.nw;have c4:=cx.nw;have a8:=cy.nw;have a9:=cz.nw;have ba:=c0.nw;exact⟨0,b.C,cp,b.E,cq,b.M,cr,b.H,cs,b.O,ct,b.N,cu,b.L,_,_,m.sub (kp [10,9,6,4,3,11] O),o,a7,(CG.refl S2 ao),(iq (n:=0) O),r9,c2,c3,c4,a8,a9,ba,E⟩
  ·rintro aa ww ⟨_,_,_,_,_,_,_,_,_,_,_,_,_,_,_,_,_,_,_,_,_,_,_,_,_,_,_,_,E⟩;rw[Hl] at E;cases E
  rintro n1 aa ww ⟨z,s,af,A,ag,D,ah,F,ai,G,aj,I,ak,J,dc,dd,m,o,K,am,eb,bb,bc,be,bf,bg,bh,bi,E⟩;refine AK ?_ m o;clear m o ww aa;rw[Hl] at E;refine AU ?_;refine AG O E (λbj E=>?_) (λbj E=>?_)
  ·refine AU ?_;refine A3 (AU ?_);have bk:=c1.mono' am;refine A4 E O O bk bH.1 O λde E df bl=>?_;obtain⟨dg,_,bm⟩:=bl.lv;refine AU ?_;refine CP Zu O K λdh di ax bn=>?_;have an:=bm.mono bn;obtain⟨dj,dk,dl,dm,dn,rfl,dp,dq,dr,ds,dt⟩:=G0.ex an;refine DU O O O ON aL.1 O ax .head O λdu ay bo=>AU ?_;refine B1 ?_;have bp:=k6.nw;obtain⟨dv,_,bq⟩:=bp.lv;refine AU ?_;have br:=bc.nw;have bs:=be.nw;have bt:=bf.nw;have bu:=bg.nw;have bv:=bh.nw;have bw:=bi.nw;have t:=an.mono bo;obtain⟨g,az,E⟩:=bd E;refine Ed O O O mO O (Py ay bq (BA.mk (x:=(⟨s,A,D,F,G,I,J⟩:AF)) bb br bs bt bu bv bw) t az) λdw dx dy dz p=>?_;obtain⟨d0,d1,d2,rfl,bx,a0⟩:=p;refine AU ?_;obtain⟨bz,b0,b1,b2,b3,b4,rfl,b5,b6,b7,b8,b9,ca,cb⟩:=BA.ex bx;refine DU O O O ON ID.1 O a0 (.tail (.tail (.tail (.tail .head)))) O λd3 a1 i=>AU ?_;refine BE (AU ?_);refine WF.nil (λaa ww m o=>?_);have a2:=a1.sel [3,3] 3 O;have cc:=b6.mono' i;have cd:=b7.mono' i;have ce:=b8.mono' i;have cf:=b9.mono' i;have cg:=ca.mono' i;have ch:=cb.mono' i;exact⟨(A9 (z+1)),g.1.C,bz,g.1.E,b0,g.1.M,b1,g.1.H,b2,g.1.O,b3,g.1.N,b4,g.1.L,_,_,m.sub (kp [10,9,6,4,3,11] O),o,a2,EX,(BF _),b5,cc,cd,ce,cf,cg,ch,E⟩
  refine A8 O (λaa ww m o=>?_);exact⟨s,af,A,ag,D,ah,F,ai,G,aj,I,ak,J,_,_,m.sub (kp [6,4] O),o,K,am,bb,bc,be,bf,bg,bh,bi,E⟩
 rintro aa ww ⟨y,ap,Y,aq,Z,ar,ab,au,ac,av,ad,aw,ae,d4,d5,m,o,a3,d6,c5,c6,c7,c8,c9,da,db,E⟩;refine AK ?_ m o;clear m o ww aa;rw[KB] at E;refine AU ?_;refine DU O O O ON ID.1 O a3 .head O λd7 a4 j=>AU ?_;refine B0 (λaa ww m o=>?_);have Q:=a4.drop (.tail .head);have ci:=c6.mono' j;have cj:=c7.mono' j;have ck:=c8.mono' j;have cl:=c9.mono' j;have cm:=da.mono' j;have cn:=db.mono' j;have a5:=Q.drop .head;cases E;exact JC m O o (G4 (Uk m o Q O mh ID.1 O) JB) O EX ⟨(BA.mk (x:=(⟨y,Y,Z,ab,ac,ad,ae⟩:AF)) c5 ci cj ck cl cm cn),a5⟩
end Go.Proofs.YtedgiljmffngoaaGreat
