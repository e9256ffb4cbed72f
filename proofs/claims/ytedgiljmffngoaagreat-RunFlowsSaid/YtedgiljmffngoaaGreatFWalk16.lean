import Derived.Test.YtedgiljmffngoaaGreatFFacts
import Derived.Test.YtedgiljmffngoaaGreatFForms
import Derived.Test.YtedgiljmffngoaaGreatFInst
import Derived.Test.YtedgiljmffngoaaGreatFSort5
import Derived.Test.YtedgiljmffngoaaGreatFWalk8
import Derived.Test.YtedgiljmffngoaaGreatFWalk12
import Derived.Test.YtedgiljmffngoaaGreatFWalk13
import Derived.Test.YtedgiljmffngoaaGreatFWalk14
import Derived.Test.YtedgiljmffngoaaGreatFWalk15
namespace Go.Proofs.YtedgiljmffngoaaGreat
set_option linter.all false
open Go.RowKit
open Go.Proofs.Tryz
set_option maxRecDepth 10000
set_option maxHeartbeats 2000000
variable {N:Nat}{S:Nat→Prop}{L:List HP}{h:AT}
def Nd (hs:St S L h) {k:Value}{l:AO}(t:Rd S h BW k l) {r:Bool}(E:Jh N l=some r):
 B0 prog 183 #[k] S h (λv S' h'=>v= .bool r∧St S' (L) h'):=by
 refine BA 80 func183 O ntmps183 O λB=>?_;rw[Jh] at E;refine AU ?_;refine B4 O t CE O hs λq1 S2 h3 aj e5 k6=>?_;have k8:=k6.fl KK;obtain⟨v9,_,ak⟩:=k8.ll;refine AU ?_;refine AK (λa w=>IV B S2 h3 (80,[]) a w [] (L) λ_ _=>GR N=some r) ?_ ?_
 ·refine AY (λn1=>λa w=>∃(m:Int),IV B S2 h3 (80,[]) a w [(7,vI (↑l.Y.length:Int)),(6,v9),(1,q1),(8,vI m)] (L) λ_ _=>AA m∧Et N l (GR N) n1 m=some r) N ?_ ?_ ?_
  ·intro x y p q;exact⟨0,_,_,p.sub (kp [7,6,1,8] O),q,aj,(B6.refl S2 h3),(iq (n:=0) O),E⟩
  ·rintro x y ⟨_,_,_,_,_,_,_,_,E⟩;rw[Et] at E;cases E
  rintro n1 x y ⟨m,bn,bo,p,q,u,A,bp,E⟩;refine AI ?_ p q;clear p q y x;rw[Et] at E;refine AU ?_;refine AF O E (λam E=>?_) (λam E=>?_)
  ·refine AU ?_;refine AZ (AU ?_);have an:=ak.mono' A;refine A9 E O O an sl_27.1 O λs E bq ao=>?_;obtain⟨br,_,ap⟩:=ao.lv;refine AU ?_;refine CG VB O u λbs bt C aq=>?_;have ar:=ap.mono aq;obtain⟨rfl,⟨bu,au,av,aw,ax,ay,az⟩⟩:=DM.ex ar;refine CV O O O O ty_219.1 O C .head O λbv F bw=>AU ?_;refine BZ (.inl O) F ?_;have G:=k6.nw;have a0:=G.fl Id;obtain⟨bx,_,a1⟩:=a0.ll;have a2:=a1.le;refine AU ?_;refine BC E O O O Oa O (λH I h' o=>Fm (St.all h') au (Jb a2) I) λH E=>AU ?_;obtain⟨J,b,E⟩:=bd E;refine AS 12 31 (.bool J) ?_ ?_
   ·cases K:(!H)
    ·have b:=Em K b;refine AU ?_;refine BC b O O O Oa O (λa3 M h' o=>Fm (St.all h') av (BF _) M) λa3 b=>AU ?_;cases b;exact AQ O
    have b:=El K b;cases b;exact A6 O O
   refine AU ?_;obtain⟨Q,c,E⟩:=bd E;refine AS 5 44 (.bool Q) ?_ ?_
   ·cases U:(J||(decide (s.D=s.B)))
    ·have c:=Em U c;refine AU ?_;refine BC c O O O E2 O (λa4 V h' o=>B8 (St.all h') aw (iq (n:=1) O) (iq (n:=24) O) V) λa4 c=>AU ?_;cases c;exact AQ O
    have c:=El U c;cases c;exact A6 O O
   refine AU ?_;obtain⟨W,d,E⟩:=bd E;refine AS 5 50 (.bool W) ?_ ?_
   ·cases X:Q
    ·have d:=Em X d;refine AU ?_;refine BC d O O O E2 O (λa5 Z h' o=>B8 (St.all h') ax (iq (n:=0) O) (iq (n:=1073741824) O) Z) λa5 d=>AU ?_;cases d;exact AQ O
    have d:=El X d;cases d;exact A6 O O
   refine AU ?_;obtain⟨a6,g,E⟩:=bd E;refine AS 5 56 (.bool a6) ?_ ?_
   ·cases ab:W
    ·have g:=Em ab g;refine AU ?_;refine BC g O O O IA O (λa7 ac h' o=>CB (St.all h') az ac) λa7 g=>AU ?_;cases g;exact AQ O
    have g:=El ab g;cases g;exact A6 O O
   refine BL (kp [56,4,7,6,1,8] O) λbz ad a8=>AF O E (λa9 E=>?_) (λa9 E=>?_)
   ·exact RT
   refine AU ?_;refine BZ (.inl O) ad (AU ?_);obtain⟨ba,i,E⟩:=bd E;refine AS 13 78 (.bool ba) ?_ ?_
   ·cases ae:((decide (s.Bh=(-1)))&&(decide (s.Bi≠0)))
    ·have i:=Em ae i;refine AU ?_;obtain⟨bb,j,i⟩:=bd i;refine AS 8 77 (.bool bb) ?_ ?_
     ·cases af:(decide (s.Bh≠(-1)))
      ·have j:=Em af j;cases j;exact A6 O O
      have j:=El af j;have bc:=G.mono a8;have be:=bc.fl B3;obtain⟨b0,_,bf⟩:=be.ll;have bg:=bf.le;refine AU ?_;refine BC j O O O Oa O (λbh ag h' o=>Fm (St.all h') ay (Jb bg) ag) λbh j=>AU ?_;cases j;exact AQ O
     refine AU ?_;cases i;exact AQ O
    have i:=El ae i;cases i;exact A6 O O
   refine BL (kp [78,7,6,1,8] O) λb1 ah bj=>AF O E (λai E=>?_) (λai E=>?_)
   ·exact RT
   refine AU ?_;refine BD (AU ?_);refine WF.nil (λx y p q=>?_);have z:=ah.drop .head;exact⟨(BG (m+1)),_,_,p.sub (kp [7,6,1,8] O),q,z,EX,(BF _),E⟩
  refine A8 O (λx y p q=>?_);exact⟨_,_,p.sub MC,q,u,A,E⟩
 rintro x y ⟨bk,bl,p,q,bi,bm,E⟩;refine AI ?_ p q;clear p q y x;rw[GR] at E;exact RT
def P1 (hs:St S L h) {m:Value}{q:AO}(n:Rd S h BW m q) {r:Bool}(E:L6 N q=some r):
 B0 prog 98 #[m] S h (λv S' h'=>v= .bool r∧St S' (L) h'):=by
 refine BA 37 func98 O ntmps98 O λB=>?_;rw[L6] at E;refine AU ?_;refine B4 O n CE O hs λq1 S2 h3 l e5 p=>AU ?_;refine BZ (.inl O) l ?_;obtain⟨v7,_,k8⟩:=p.lv;refine AU ?_;refine BC E O O O Zj O (λy9 Z h' o=>N9 (St.all h') (k8.mono (o.all l.1)) Z) λy9 E=>AU ?_;obtain⟨s,a,E⟩:=bd E;refine AS 3 8 (.bool s) ?_ ?_
 ·cases t:y9
  ·have a:=Em t a;cases a;exact A6 O O
  have a:=El t a;obtain⟨au,_,aa⟩:=p.lv;refine AU ?_;refine BC a O O O Zi O (λab u h' o=>Nf (St.all h') (aa.mono (o.all l.1)) u) λab a=>AU ?_;cases a;exact AQ O
 refine AU ?_;obtain⟨w,b,E⟩:=bd E;refine AS 3 12 (.bool w) ?_ ?_
 ·cases x:s
  ·have b:=Em x b;cases b;exact A6 O O
  have b:=El x b;obtain⟨av,_,ac⟩:=p.lv;refine AU ?_;refine BC b O O O Zh O (λad y h' o=>M8 (St.all h') (ac.mono (o.all l.1)) y) λad b=>AU ?_;cases b;exact AQ O
 refine AU ?_;obtain⟨z,c,E⟩:=bd E;refine AS 3 16 (.bool z) ?_ ?_
 ·cases A:w
  ·have c:=Em A c;cases c;exact A6 O O
  have c:=El A c;obtain⟨aw,_,ae⟩:=p.lv;refine AU ?_;refine BC c O O O Zg O (λaf C h' o=>Ng (St.all h') (ae.mono (o.all l.1)) C) λaf c=>AU ?_;cases c;exact AQ O
 refine AU ?_;obtain⟨D,d,E⟩:=bd E;refine AS 3 20 (.bool D) ?_ ?_
 ·cases F:z
  ·have d:=Em F d;cases d;exact A6 O O
  have d:=El F d;obtain⟨ax,_,ag⟩:=p.lv;refine AU ?_;refine BC d O O O Zf O (λah G h' o=>Mp (St.all h') (ag.mono (o.all l.1)) G) λah d=>AU ?_;cases d;exact AQ O
 refine AU ?_;obtain⟨H,g,E⟩:=bd E;refine AS 3 24 (.bool H) ?_ ?_
 ·cases I:D
  ·have g:=Em I g;cases g;exact A6 O O
  have g:=El I g;obtain⟨ay,_,ai⟩:=p.lv;refine AU ?_;refine BC g O O O Ze O (λaj J h' o=>M7 (St.all h') (ai.mono (o.all l.1)) J) λaj g=>AU ?_;cases g;exact AQ O
 refine AU ?_;obtain⟨K,i,E⟩:=bd E;refine AS 3 28 (.bool K) ?_ ?_
 ·cases M:H
  ·have i:=Em M i;cases i;exact A6 O O
  have i:=El M i;obtain⟨az,_,ak⟩:=p.lv;refine AU ?_;refine BC i O O O Zd O (λal Q h' o=>Nc (St.all h') (ak.mono (o.all l.1)) Q) λal i=>AU ?_;cases i;exact AQ O
 refine AU ?_;obtain⟨U,j,E⟩:=bd E;refine AS 3 32 (.bool U) ?_ ?_
 ·cases V:K
  ·have j:=Em V j;cases j;exact A6 O O
  have j:=El V j;obtain⟨a0,_,am⟩:=p.lv;refine AU ?_;refine BC j O O O Zc O (λan W h' o=>M9 (St.all h') (am.mono (o.all l.1)) W) λan j=>AU ?_;cases j;exact AQ O
 refine AU ?_;obtain⟨ao,k,E⟩:=bd E;refine AS 3 36 (.bool ao) ?_ ?_
 ·cases X:U
  ·have k:=Em X k;cases k;exact A6 O O
  have k:=El X k;obtain⟨a1,_,ap⟩:=p.lv;refine AU ?_;refine BC k O O O Zb O (λaq Y h' o=>Nd (St.all h') (ap.mono (o.all l.1)) Y) λaq k=>AU ?_;cases k;exact AQ O
 refine AU ?_;exact BL (kp [2] O) λa2 ar a3=>RT
def Dq (C:St S L h) {b:Value}{g:(List Int)}(d:Sl S h AB b g) {c:Value}{i:(List Int)}(m:Sl S h AB c i) {r:Bool}(E:C5 N g i=some r):
 B0 prog 105 #[b,c] S h (λv S' h'=>v= .bool r∧St S' (L) h'):=by
 refine BA 26 func105 O ntmps105 O λB=>?_;rw[C5] at E;refine AU ?_;refine AF O E (λD E=>?_) (λD E=>?_)
 ·exact RT
 refine AU ?_;refine AK (λa w=>IV B S h (26,[]) a w [] (L) λ_ _=>Ek N=some r) ?_ ?_
 ·refine AY (λz=>λa w=>∃(s:Int),IV B S h (26,[]) a w [(0,b),(1,c),(5,vI s)] (L) λ_ _=>AA s∧Dh N g i (Ek N) z s=some r) N ?_ ?_ ?_
  ·intro p q j k;exact⟨0,_,_,j.sub (kp [0,1,5] O),k,C,(B6.refl S h),(iq (n:=0) O),E⟩
  ·rintro p q ⟨_,_,_,_,_,_,_,_,E⟩;rw[Dh] at E;cases E
  rintro z p q ⟨s,W,X,j,k,o,l,Y,E⟩;refine AI ?_ j k;clear j k q p;rw[Dh] at E;have F:=d.mono' l;refine AU ?_;refine AF O E (λt E=>?_) (λt E=>?_)
  ·refine AU ?_;refine AZ (AU ?_);refine EF (.inr ⟨mo,by kernel_rfl⟩) (AU ?_);have u:=d.mono' l;refine A9 E O O u sl_29.1 O λG E H I=>AU ?_;have x:=m.mono' l;refine A9 E O O x sl_29.1 O λJ E K M=>AU ?_;refine AF O E (λy E=>?_) (λy E=>?_)
   ·exact RT
   refine AU ?_;refine BD (AU ?_);refine WF.nil (λp q j k=>?_);exact⟨(BG (s+1)),_,_,j.sub (kp [0,1,5] O),k,o,l,(BF _),E⟩
  refine A8 O (λp q j k=>?_);exact⟨_,_,j.sub MC,k,o,l,E⟩
 rintro p q ⟨Q,U,j,k,A,V,E⟩;refine AI ?_ j k;clear j k q p;rw[Ek] at E;exact RT
def Lk (M:St S L h) {b:Value}{i:(List (List Int))}(d:Sl S h (BB.sl AB) b i) {c:Value}{j:(List (List Int))}(m:Sl S h (BB.sl AB) c j) {r:Bool}(E:He N i j=some r):
 B0 prog 106 #[b,c] S h (λv S' h'=>v= .bool r∧St S' (L) h'):=by
 refine BA 27 func106 O ntmps106 O λB=>?_;rw[He] at E;refine AU ?_;refine AF O E (λQ E=>?_) (λQ E=>?_)
 ·exact RT
 refine AU ?_;refine AK (λa w=>IV B S h (27,[]) a w [] (L) λ_ _=>EO N=some r) ?_ ?_
 ·refine AY (λJ=>λa w=>∃(t:Int),IV B S h (27,[]) a w [(0,b),(1,c),(5,vI t)] (L) λ_ _=>AA t∧DW N i j (EO N) J t=some r) N ?_ ?_ ?_
  ·intro q s k l;exact⟨0,_,_,k.sub (kp [0,1,5] O),l,M,(B6.refl S h),(iq (n:=0) O),E⟩
  ·rintro q s ⟨_,_,_,_,_,_,_,_,E⟩;rw[DW] at E;cases E
  rintro J q s ⟨t,S8,h9,k,l,g,p,r7,E⟩;refine AI ?_ k l;clear k l s q;rw[DW] at E;have U:=d.mono' p;refine AU ?_;refine AF O E (λy E=>?_) (λy E=>?_)
  ·refine AU ?_;refine AZ (AU ?_);refine BZ (.inr ⟨mo,by kernel_rfl⟩) g (AU ?_);have z:=d.mono' p;refine A9 E O O z sl_32.1 O λV E W A=>?_;obtain⟨X,_,C⟩:=A.ll;refine AU ?_;have D:=m.mono' p;refine A9 E O O D sl_32.1 O λY E Z F=>?_;obtain⟨ab,_,G⟩:=F.ll;refine AU ?_;refine BC E O O O Qe O (λH u h' o=>Dq (St.all h') (C.mono' (o.all g.1)) (G.mono' (o.all g.1)) u) λH E=>AU ?_;refine BL (kp [26,0,1,5] O) λac x ad=>AF O E (λI E=>?_) (λI E=>?_)
   ·exact RT
   refine AU ?_;refine BD (AU ?_);refine WF.nil (λq s k l=>?_);exact⟨(BG (t+1)),_,_,k.sub (kp [0,1,5] O),l,x,EX,(BF _),E⟩
  refine A8 O (λq s k l=>?_);exact⟨_,_,k.sub MC,l,g,p,E⟩
 rintro q s ⟨ae,af,k,l,K,ag,E⟩;refine AI ?_ k l;clear k l s q;rw[EO] at E;exact RT
def Lj (hs:St S L h) {g:Value}{m:(List BM)}(d:Sl S h A3 g m) {i:Value}{p:(List BM)}(j:Sl S h A3 i p) {r:Bool}(E:Hc N m p=some r):
 B0 prog 107 #[g,i] S h (λv S' h'=>v= .bool r∧St S' (L) h'):=by
 refine BA 55 func107 O ntmps107 O λB=>?_;rw[Hc] at E;refine AU ?_;refine AF O E (λc3 E=>?_) (λc3 E=>?_)
 ·exact RT
 refine AU ?_;refine AK (λa w=>IV B S h (55,[]) a w [] (L) λ_ _=>EN N=some r) ?_ ?_
 ·refine AY (λn1=>λa w=>∃(x:Int),IV B S h (55,[]) a w [(0,g),(1,i),(5,vI x)] (L) λ_ _=>AA x∧DV N m p (EN N) n1 x=some r) N ?_ ?_ ?_
  ·intro t u q s;exact⟨0,_,_,q.sub (kp [0,1,5] O),s,hs,(B6.refl S h),(iq (n:=0) O),E⟩
  ·rintro t u ⟨_,_,_,_,_,_,_,_,E⟩;rw[DV] at E;cases E
  rintro n1 t u ⟨x,S8,h9,q,s,l,k,r7,E⟩;refine AI ?_ q s;clear q s u t;rw[DV] at E;have ag:=d.mono' k;refine AU ?_;refine AF O E (λF E=>?_) (λF E=>?_)
  ·refine AU ?_;refine AZ (AU ?_);refine BZ (.inr ⟨mo,by kernel_rfl⟩) l (AU ?_);have G:=d.mono' k;refine A9 E O O G sl_33.1 O λH E ah ai=>AU ?_;have I:=j.mono' k;refine A9 E O O I sl_33.1 O λJ E aj ak=>AU ?_;obtain⟨y,c,E⟩:=bd E;refine AS 12 40 (.bool y) ?_ ?_
   ·cases z:(decide (H.Aq≠J.Aq))
    ·have c:=Em z c;refine AU ?_;have K:=d.mono' k;refine A9 c O O K sl_33.1 O λal c am an=>AU ?_;have M:=j.mono' k;refine A9 c O O M sl_33.1 O λao c ap aq=>AU ?_;cases c;exact AQ O
    have c:=El z c;cases c;exact A6 O O
   refine AU ?_;obtain⟨Q,b,E⟩:=bd E;refine AS 13 54 (.bool Q) ?_ ?_
   ·cases A:y
    ·have b:=Em A b;refine AU ?_;have U:=d.mono' k;refine A9 b O O U sl_33.1 O λar b au V=>?_;have W:=V.fl BM.f_Part;obtain⟨av,_,X⟩:=W.ll;refine AU ?_;have Y:=j.mono' k;refine A9 b O O Y sl_33.1 O λaw b ax Z=>?_;have ab:=Z.fl BM.f_Part;obtain⟨ay,_,ac⟩:=ab.ll;refine AU ?_;refine BC b O O O Qe O (λad C h' o=>Dq (St.all h') (X.mono' (o.all l.1)) (ac.mono' (o.all l.1)) C) λad b=>AU ?_;cases b;exact AQ O
    have b:=El A b;cases b;exact A6 O O
   refine BL (kp [54,0,1,5] O) λaz D a0=>AF O E (λae E=>?_) (λae E=>?_)
   ·exact RT
   refine AU ?_;refine BD (AU ?_);refine WF.nil (λt u q s=>?_);exact⟨(BG (x+1)),_,_,q.sub (kp [0,1,5] O),s,D,EX,(BF _),E⟩
  refine A8 O (λt u q s=>?_);exact⟨_,_,q.sub MC,s,l,k,E⟩
 rintro t u ⟨a1,a2,q,s,af,a3,E⟩;refine AI ?_ q s;clear q s u t;rw[EN] at E;exact RT
def Li (H:St S L h) {b:Value}{g:(List BE)}(d:Sl S h BK b g) {c:Value}{i:(List BE)}(m:Sl S h BK c i) {r:Bool}(E:Hb N g i=some r):
 B0 prog 108 #[b,c] S h (λv S' h'=>v= .bool r∧St S' (L) h'):=by
 refine BA 26 func108 O ntmps108 O λB=>?_;rw[Hb] at E;refine AU ?_;refine AF O E (λI E=>?_) (λI E=>?_)
 ·exact RT
 refine AU ?_;refine AK (λa w=>IV B S h (26,[]) a w [] (L) λ_ _=>EM N=some r) ?_ ?_
 ·refine AY (λF=>λa w=>∃(s:Int),IV B S h (26,[]) a w [(0,b),(1,c),(5,vI s)] (L) λ_ _=>AA s∧DU N g i (EM N) F s=some r) N ?_ ?_ ?_
  ·intro p q j k;exact⟨0,_,_,j.sub (kp [0,1,5] O),k,H,(B6.refl S h),(iq (n:=0) O),E⟩
  ·rintro p q ⟨_,_,_,_,_,_,_,_,E⟩;rw[DU] at E;cases E
  rintro F p q ⟨s,S8,h9,j,k,o,l,r7,E⟩;refine AI ?_ j k;clear j k q p;rw[DU] at E;have J:=d.mono' l;refine AU ?_;refine AF O E (λt E=>?_) (λt E=>?_)
  ·refine AU ?_;refine AZ (AU ?_);refine EF (.inr ⟨mo,by kernel_rfl⟩) (AU ?_);have u:=d.mono' l;refine A9 E O O u sl_34.1 O λK E M x=>?_;obtain⟨Q,_,y⟩:=x.lv;refine AU ?_;have z:=m.mono' l;refine A9 E O O z sl_34.1 O λU E V A=>?_;obtain⟨W,_,C⟩:=A.lv;refine AU ?_;obtain⟨rfl,⟨X,Y⟩⟩:=BK.ex y;obtain⟨rfl,⟨Z,ab⟩⟩:=BK.ex C;refine WO O O Y0 O O O O (AU ?_);refine AF O E (λD E=>?_) (λD E=>?_)
   ·exact RT
   refine AU ?_;refine BD (AU ?_);refine WF.nil (λp q j k=>?_);exact⟨(BG (s+1)),_,_,j.sub (kp [0,1,5] O),k,o,l,(BF _),E⟩
  refine A8 O (λp q j k=>?_);exact⟨_,_,j.sub MC,k,o,l,E⟩
 rintro p q ⟨ac,ad,j,k,G,ae,E⟩;refine AI ?_ j k;clear j k q p;rw[EM] at E;exact RT
def Kp (hs:St S L h) {b:Value}{d:AJ}(p:Rd S h A7 b d) {c:Value}{g:AJ}(q:Rd S h A7 c g) {r:Bool}(E:Hr N d g=some r):
 B0 prog 32 #[b,c] S h (λv S' h'=>v= .bool r∧St S' (L) h'):=by
 refine BA 62 func32 O ntmps32 O λB=>?_;rw[Hr] at E;refine AU ?_;refine B4 O p CE O hs λq1 S2 h3 ak e5 k6=>?_;have k7:=q.mono e5;refine B4 O k7 CE O ak λq8 S9 bg i al u=>AU ?_;refine BZ (.inl O) i ?_;have w:=k6.mono al;have am:=w.fl Dg;obtain⟨bh,_,an⟩:=am.ll;have ao:=u.fl Dg;obtain⟨bi,_,ap⟩:=ao.ll;refine AU ?_;refine BC E O O O Z0 O (λx y h' o=>Lk (St.all h') (an.mono' (o.all i.1)) (ap.mono' (o.all i.1)) y) λx E=>AU ?_;refine BL (kp [5,3,2] O) λbj j z=>AU ?_;refine BZ (.inl O) j ?_;have C:=w.mono z;have aq:=C.fl Iz;obtain⟨bk,_,ar⟩:=aq.ll;have D:=u.mono z;have au:=D.fl Iz;obtain⟨bl,_,av⟩:=au.ll;refine AU ?_;refine BC E O O O Qe O (λF G h' o=>Dq (St.all h') (ar.mono' (o.all j.1)) (av.mono' (o.all j.1)) G) λF E=>AU ?_;refine BL (kp [6,5,3,2] O) λbm k H=>AU ?_;refine BZ (.inl O) k ?_;have I:=C.mono H;have aw:=I.fl Dt;obtain⟨bn,_,ax⟩:=aw.ll;have J:=D.mono H;have ay:=J.fl Dt;obtain⟨bo,_,az⟩:=ay.ll;refine AU ?_;refine BC E O O O Zz O (λK M h' o=>Lj (St.all h') (ax.mono' (o.all k.1)) (az.mono' (o.all k.1)) M) λK E=>AU ?_;refine BL (kp [7,6,5,3,2] O) λbp l Q=>AU ?_;refine BZ (.inl O) l ?_;have U:=I.mono Q;have a0:=U.fl Hm;obtain⟨bq,_,a1⟩:=a0.ll;have V:=J.mono Q;have a2:=V.fl Hm;obtain⟨br,_,a3⟩:=a2.ll;refine AU ?_;refine BC E O O O Qe O (λW X h' o=>Dq (St.all h') (a1.mono' (o.all l.1)) (a3.mono' (o.all l.1)) X) λW E=>AU ?_;refine BL (kp [8,7,6,5,3,2] O) λbs m Y=>AU ?_;refine BZ (.inl O) m ?_;have Z:=U.mono Y;have a4:=Z.fl FE;obtain⟨bt,_,a5⟩:=a4.ll;have aa:=V.mono Y;have a6:=aa.fl FE;obtain⟨bu,_,a7⟩:=a6.ll;refine AU ?_;refine BC E O O O Qe O (λab ac h' o=>Dq (St.all h') (a5.mono' (o.all m.1)) (a7.mono' (o.all m.1)) ac) λab E=>AU ?_;refine BL (kp [9,8,7,6,5,3,2] O) λbv n ad=>AU ?_;refine BZ (.inl O) n ?_;have a8:=Z.mono ad;have a9:=aa.mono ad;refine AU ?_;obtain⟨ae,a,E⟩:=bd E;refine AS 6 61 (.bool ae) ?_ ?_
 ·cases s:((((((decide (d.A=g.A))&&x)&&F)&&K)&&W)&&ab)
  ·have a:=Em s a;cases a;exact A6 O O
  have a:=El s a;have af:=a8.fl Hh;obtain⟨bb,_,ag⟩:=af.ll;have ah:=a9.fl Hh;obtain⟨bc,_,ai⟩:=ah.ll;refine AU ?_;refine BC a O O O Zy O (λaj t h' o=>Li (St.all h') (ag.mono' (o.all n.1)) (ai.mono' (o.all n.1)) t) λaj a=>AU ?_;cases a;exact AQ O
 refine AU ?_;exact BL (kp [4] O) λbe ba bf=>RT
def Rq (hs:St S L h) {l:Value}{u:AO}(V:Rd S h BW l u) {m:Value}{b:AJ}(W:Rd S h A7 m b) {c:Value}{d:(List E5)}(s:Sl S h DD c d) {r:AJ}(E:OV N u b d=some r):
 B0 prog 27 #[l,m,c] S h (λv S' h'=>Rd S' h' A7 v r∧St S' (L) h'):=by
 refine BA 25 func27 O ntmps27 O λB=>?_;rw[OV] at E;refine AU ?_;refine B4 O V CE O hs λq1 S2 h3 cz e5 k6=>?_;have k7:=W.mono e5;obtain⟨c0,c1,c2,c3,c4,c5,rfl,r9,c6,c7,c8,c9,da,db⟩:=A7.ex k7;refine Nn O O O cz λX ed a6 ee=>CG MD O a6 λY ao a7 ef=>?_;have dc:=s.nw;refine AU ?_;refine AK (λa w=>∃(y:Int) (ap:Value) (Z:List (List Int)) (aq:Value) (ab:List Int) (ar:Value) (ac:List BM) (au:Value) (ad:List BE) (av:Value) (ae:List Int) (aw:Value) (af:List Int),IV B S2 ao (25,[]) a w [(6,vP Y 0),(4,vP X 0)] (Bx Y 36 [vI 0,vN,vN,vN,vN,vN,vN]::Bx X 36 [vI y,ap,aq,ar,au,av,aw]::L) λS' h'=>AA y∧Sl S' h' (BB.sl AB) ap Z∧Sl S' h' AB aq ab∧Sl S' h' A3 ar ac∧Sl S' h' BK au ad∧Sl S' h' AB av ae∧Sl S' h' AB aw af∧Ke N y Z ab ac ad ae af=some r) ?_ ?_
 ·refine AY (λn1=>λa w=>∃(z:Int) (t:Int) (ag:Value) (C:List (List Int)) (ah:Value) (D:List Int) (ai:Value) (G:List BM) (aj:Value) (H:List BE) (ak:Value) (I:List Int) (am:Value) (J:List Int),IV B S2 ao (25,[]) a w [(10,vI (↑d.length:Int)),(9,c),(6,vP Y 0),(4,vP X 0),(3,q1),(11,vI z)] (Bx Y 36 [vI 0,vN,vN,vN,vN,vN,vN]::Bx X 36 [vI t,ag,ah,ai,aj,ak,am]::L) λS' h'=>AA z∧AA t∧Sl S' h' (BB.sl AB) ag C∧Sl S' h' AB ah D∧Sl S' h' A3 ai G∧Sl S' h' BK aj H∧Sl S' h' AB ak I∧Sl S' h' AB am J∧JF N u d (Ke N) n1 z t C D G H I J=some r) N ?_ ?_ ?_
  ·intro aa ww o q;have dd:=c6.nw;have de:=c7.nw;have df:=c8.nw;have a8:=c9.nw;have a9:=da.nw;have ba:=db.nw;exact⟨0,b.A,c0,b.F,c1,b.K,c2,b.P,c3,b.Q,c4,b.O,c5,b.N,_,_,o.sub (kp [10,9,6,4,3,11] O),q,a7,(B6.refl S2 ao),(iq (n:=0) O),r9,dd,de,df,a8,a9,ba,E⟩
  ·rintro aa ww ⟨_,_,_,_,_,_,_,_,_,_,_,_,_,_,_,_,_,_,_,_,_,_,_,_,_,_,_,_,E⟩;rw[JF] at E;cases E
  rintro n1 aa ww ⟨z,t,ag,C,ah,D,ai,G,aj,H,ak,I,am,J,dn,dp,o,q,M,an,eg,bb,bc,be,bf,bg,bh,bi,E⟩;refine AI ?_ o q;clear o q ww aa;rw[JF] at E;refine AU ?_;refine AF O E (λbj E=>?_) (λbj E=>?_)
  ·refine AU ?_;refine AZ (AU ?_);have bk:=dc.mono' an;refine A9 E O O bk sl_78.1 O λbl E dq bm=>?_;obtain⟨dr,_,bn⟩:=bm.lv;refine AU ?_;refine CG Xm O M λds dt ax bo=>?_;have bp:=bn.mono bo;obtain⟨du,dv,dw,dx,dy,rfl,bq,br,bs,bt,bu⟩:=DD.ex bp;refine Dj O O O ON ty_60.1 O ax .head O λdz ay k=>AU ?_;refine B5 ?_;have bv:=k6.nw;obtain⟨d0,_,bw⟩:=bv.lv;refine AU ?_;have bx:=bc.nw;have bz:=be.nw;have b0:=bf.nw;have b1:=bg.nw;have b2:=bh.nw;have b3:=bi.nw;have b4:=bq.mono' k;have b5:=br.mono' k;have b6:=bs.mono' k;have b7:=bt.mono' k;have b8:=bu.mono' k;obtain⟨g,az,E⟩:=bd E;refine Cr O O O YD O (OE ay bw (A7.mk (x:=(⟨t,C,D,G,H,I,J⟩:AJ)) bb bx bz b0 b1 b2 b3) (DD.mk (x:=bl) b4 b5 b6 b7 b8) az) λd1 d2 d3 d4 p=>?_;obtain⟨d5,d6,d7,rfl,b9,a0⟩:=p;refine AU ?_;obtain⟨ca,cb,cc,cd,ce,cf,rfl,cg,ch,ci,cj,ck,cl,cm⟩:=A7.ex b9;refine Dj O O O ON ty_36.1 O a0 (.tail (.tail (.tail (.tail .head)))) O λd8 a1 i=>AU ?_;refine BD (AU ?_);refine WF.nil (λaa ww o q=>?_);have a2:=a1.sel [3,3] 3 O;have cn:=ch.mono' i;have co:=ci.mono' i;have cp:=cj.mono' i;have cq:=ck.mono' i;have cr:=cl.mono' i;have cs:=cm.mono' i;exact⟨(BG (z+1)),g.1.A,ca,g.1.F,cb,g.1.K,cc,g.1.P,cd,g.1.Q,ce,g.1.O,cf,g.1.N,_,_,o.sub (kp [10,9,6,4,3,11] O),q,a2,EX,(BF _),cg,cn,co,cp,cq,cr,cs,E⟩
  refine A8 O (λaa ww o q=>?_);exact⟨t,ag,C,ah,D,ai,G,aj,H,ak,I,am,J,_,_,o.sub (kp [6,4] O),q,M,an,bb,bc,be,bf,bg,bh,bi,E⟩
 rintro aa ww ⟨y,ap,Z,aq,ab,ar,ac,au,ad,av,ae,aw,af,d9,ea,o,q,a3,eb,dg,dh,di,dj,dk,dl,dm,E⟩;refine AI ?_ o q;clear o q ww aa;rw[Ke] at E;refine AU ?_;refine Dj O O O ON ty_36.1 O a3 .head O λec a4 j=>AU ?_;refine BS (λaa ww o q=>?_);have U:=a4.drop (.tail .head);have ct:=dh.mono' j;have cu:=di.mono' j;have cv:=dj.mono' j;have cw:=dk.mono' j;have cx:=dl.mono' j;have cy:=dm.mono' j;have a5:=U.drop .head;cases E;exact Hk o O q (Eg (Rn o q U O mh ty_36.1 O) Hj) O EX ⟨(A7.mk (x:=(⟨y,Z,ab,ac,ad,ae,af⟩:AJ)) dg ct cu cv cw cx cy),a5⟩
end Go.Proofs.YtedgiljmffngoaaGreat
