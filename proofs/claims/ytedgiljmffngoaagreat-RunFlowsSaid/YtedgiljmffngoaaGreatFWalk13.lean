import Derived.Test.YtedgiljmffngoaaGreatFFacts
import Derived.Test.YtedgiljmffngoaaGreatFForms
import Derived.Test.YtedgiljmffngoaaGreatFInst
import Derived.Test.YtedgiljmffngoaaGreatFSort5
import Derived.Test.YtedgiljmffngoaaGreatFWalk5
import Derived.Test.YtedgiljmffngoaaGreatFWalk12
namespace Go.Proofs.YtedgiljmffngoaaGreat
set_option linter.all false
open Go.RowKit
open Go.Proofs.Tryz
set_option maxRecDepth 10000
set_option maxHeartbeats 2000000
variable {N:Nat}{S:Nat→Prop}{L:List HP}{h:AT}
def Jm (n:St S L h) {a:Int}(d:AA a) {b:Int}(g:AA b) {r:Bool}(E:Hf N a b=some r):
 B0 prog 233 #[vI a,vI b] S h (λv S' h'=>v= .bool r∧St S' (L) h'):=by
 refine BA 19 func233 O ntmps233 O λB=>?_;rw[Hf] at E;refine AU ?_;refine BZ (.inl O) n (AU ?_);refine BC E O O O IA O (λk i h' o=>CB (St.all h') d i) λk E=>AU ?_;obtain⟨p,c,E⟩:=bd E;refine AS 3 10 (.bool p) ?_ ?_
 ·cases l:k
  ·have c:=Em l c;cases c;exact A6 O O
  have c:=El l c;refine AU ?_;refine BC c O O O IA O (λq j h' o=>CB (St.all h') g j) λq c=>AU ?_;cases c;exact AQ O
 refine AU ?_;exact BL (kp [4] O) λt m s=>RT
def Fm (i:St S L h) {b:Int}(c:AA b) {a:Int}(d:AA a) {r:Bool}(E:FB N b a=some r):
 B0 prog 235 #[vI b,vI a] S h (λv S' h'=>v= .bool r∧St S' (L) h'):=by
 refine BA 9 func235 O ntmps235 O λB=>?_;rw[FB] at E;refine AU ?_;refine BZ (.inl O) i (AU ?_);refine BC E O O O E2 O (λj g h' o=>B8 (St.all h') c (iq (n:=0) O) (BF _) g) λj E=>AU ?_;exact BL (kp [4] O) λl k m=>RT
def MS (w:St S L h) {d:Value}{j:AO}(i:Rd S h BW d j) {a:Int}(k:AA a) {b:Int}(g:AA b) {r:Bool}(E:KD N j a b=some r):
 B0 prog 234 #[d,vI a,vI b] S h (λv S' h'=>v= .bool r∧St S' (L) h'):=by
 refine BA 21 func234 O ntmps234 O λB=>?_;rw[KD] at E;refine AU ?_;refine B4 O i CE O w λD S2 F m G x=>AU ?_;refine BZ (.inl O) m (AU ?_);obtain⟨y,c,E⟩:=bd E;refine AS 11 20 (.bool y) ?_ ?_
 ·cases t:(decide (b=(-1)))
  ·have c:=Em t c;have n:=x.fl B3;obtain⟨z,_,p⟩:=n.ll;have q:=p.le;refine AU ?_;refine BC c O O O Oa O (λs l h' o=>Fm (St.all h') g (Jb q) l) λs c=>AU ?_;cases c;exact AQ O
  have c:=El t c;cases c;exact A6 O O
 refine AU ?_;exact BL (kp [6] O) λA u C=>RT
def M8 (hs:St S L h) {J:Value}{b:AO}(Z:Rd S h BW J b) {r:Bool}(E:I4 N b=some r):
 B0 prog 177 #[J] S h (λv S' h'=>v= .bool r∧St S' (L) h'):=by
 refine BA 122 func177 O ntmps177 O λB=>?_;rw[I4] at E;refine AU ?_;refine B4 O Z CE O hs λq1 S2 h3 cj e5 k6=>?_;have k8:=k6.fl B3;obtain⟨v9,_,ck⟩:=k8.ll;refine AU ?_;refine AK (λa w=>∃(ab:Int),IV B S2 h3 (122,[]) a w [(3,vI ab)] (L) λ_ _=>AA ab∧Ck N ab=some r) ?_ ?_
 ·refine AY (λn1=>λa w=>∃(K:Int) (k:Int),IV B S2 h3 (122,[]) a w [(13,vI (↑b.E.length:Int)),(12,v9),(1,q1),(3,vI K),(14,vI k)] (L) λ_ _=>AA K∧AA k∧CZ N b (Ck N) n1 K k=some r) N ?_ ?_ ?_
  ·intro x y d g;exact⟨0,0,_,_,d.sub (kp [13,12,1,3,14] O),g,cj,(B6.refl S2 h3),(iq (n:=0) O),(iq (n:=0) O),E⟩
  ·rintro x y ⟨_,_,_,_,_,_,_,_,_,_,E⟩;rw[CZ] at E;cases E
  rintro n1 x y ⟨K,k,ac,cl,d,g,ae,a0,a1,cm,E⟩;refine AI ?_ d g;clear d g y x;rw[CZ] at E;refine AU ?_;refine AF O E (λcn E=>?_) (λcn E=>?_)
  ·refine AU ?_;refine AK (λa w=>∃(Q:Int),IV B ac cl (122,[]) a w [(13,vI (↑b.E.length:Int)),(12,v9),(1,q1),(14,vI k),(3,vI Q)] (L) λ_ _=>AA Q∧Dc N k (CZ N b (Ck N) n1) Q=some r) ?_ ?_
   ·refine AU ?_;have co:=ck.mono' a0;refine A9 E O O co sl_23.1 O λc E d7 cp=>?_;obtain⟨d8,_,cq⟩:=cp.lv;refine AU ?_;refine CG Lv O ae λad d9 a2 cr=>AU ?_;have cs:=cq.mono cr;obtain⟨a3,aj,ak,rfl,ea,ct,cu,cv,cw,a4,cx,cy,cz,c0,c1,c2⟩:=BX.ex cs;refine Dj O O O ON ty_101.1 O a2 .head O λeb U a5=>AU ?_;refine BZ (.inl O) U (AU ?_);refine BC E O O O E2 O (λa6 a7 h' o=>B8 (St.all h') ct (iq (n:=0) O) (iq (n:=3) O) a7) λa6 E=>AU ?_;obtain⟨a8,l,E⟩:=bd E;refine AS 5 28 (.bool a8) ?_ ?_
    ·cases a9:(!a6)
     ·have l:=Em a9 l;refine AU ?_;refine BC l O O O E2 O (λc3 ba h' o=>B8 (St.all h') cu (iq (n:=0) O) (iq (n:=2) O) ba) λc3 l=>AU ?_;cases l;exact AQ O
     have l:=El a9 l;cases l;exact A6 O O
    refine AU ?_;obtain⟨bb,m,E⟩:=bd E;refine AS 5 34 (.bool bb) ?_ ?_
    ·cases bc:a8
     ·have m:=Em bc m;refine AU ?_;refine BC m O O O E2 O (λc4 be h' o=>B8 (St.all h') c0 (iq (n:=0) O) (iq (n:=240) O) be) λc4 m=>AU ?_;cases m;exact AQ O
     have m:=El bc m;cases m;exact A6 O O
    refine AU ?_;obtain⟨bf,p,E⟩:=bd E;refine AS 5 40 (.bool bf) ?_ ?_
    ·cases bg:bb
     ·have p:=Em bg p;refine AU ?_;refine BC p O O O IA O (λc5 bh h' o=>CB (St.all h') cv bh) λc5 p=>AU ?_;cases p;exact AQ O
     have p:=El bg p;cases p;exact A6 O O
    refine AU ?_;obtain⟨bi,q,E⟩:=bd E;refine AS 5 46 (.bool bi) ?_ ?_
    ·cases bj:bf
     ·have q:=Em bj q;refine AU ?_;refine BC q O O O IA O (λc6 bk h' o=>CB (St.all h') c1 bk) λc6 q=>AU ?_;cases q;exact AQ O
     have q:=El bj q;cases q;exact A6 O O
    refine AU ?_;obtain⟨bl,s,E⟩:=bd E;refine AS 5 52 (.bool bl) ?_ ?_
    ·cases bm:bi
     ·have s:=Em bm s;refine AU ?_;have c7:=cw.mono' a5;refine BC s O O O Ob O (λc8 bn h' o=>Fl (St.all h') (c7.mono' (o.all U.1)) bn) λc8 s=>AU ?_;cases s;exact AQ O
     have s:=El bm s;cases s;exact A6 O O
    have ec:=a4.mono' a5;have ed:=k6.nw;refine AU ?_;obtain⟨bo,t,E⟩:=bd E;refine AS 7 69 (.bool bo) ?_ ?_
    ·cases bp:(bl||(decide ((↑c.Bf.length:Int)≠(↑b.I.length:Int))))
     ·have t:=Em bp t;refine AU ?_;refine BC t O O O Te O (λc9 bq h' o=>Jm (St.all h') cx cy bq) λc9 t=>AU ?_;cases t;exact AQ O
     have t:=El bp t;cases t;exact A6 O O
    refine AU ?_;obtain⟨da,u,E⟩:=bd E;refine AS 7 77 (.bool da) ?_ ?_
    ·cases br:bo
     ·have u:=Em br u;have db:=k6.nw;obtain⟨de,_,bs⟩:=db.lv;refine AU ?_;refine BC u O O O Vz O (λbt am h' o=>MS (St.all h') (bs.mono (o.all U.1)) cm cz am) λbt u=>AU ?_;cases u;exact AQ O
     have u:=El br u;cases u;exact A6 O O
    refine BL (kp [77,5,13,12,1,3,14] O) λV an df=>AF O E (λbu E=>?_) (λbu E=>?_)
    ·exact RT
    have bv:=a4.nw;refine AU ?_;refine AK (λa w=>∃(z:Int),IV B ac V (122,[]) a w [(5,vP ad 0),(13,vI (↑b.E.length:Int)),(12,v9),(1,q1),(14,vI k),(3,vI z)] (Bx ad 101 [.string c.C,vI c.L,vI c.Al,vI c.Az,a3,aj,vI c.T,vI c.S,vI c.Ac,vI c.M,vI c.Be,ak]::L) λ_ _=>AA z∧Fy N b c (Dc N k (CZ N b (Ck N) n1)) z=some r) ?_ ?_
    ·refine AY (λn4=>λa w=>∃(A:Int) (D:Int),IV B ac V (122,[]) a w [(80,vI (↑c.Bf.length:Int)),(79,aj),(5,vP ad 0),(13,vI (↑b.E.length:Int)),(12,v9),(1,q1),(14,vI k),(3,vI A),(81,vI D)] (Bx ad 101 [.string c.C,vI c.L,vI c.Al,vI c.Az,a3,aj,vI c.T,vI c.S,vI c.Ac,vI c.M,vI c.Be,ak]::L) λ_ _=>AA A∧AA D∧EU N c (Fy N b c (Dc N k (CZ N b (Ck N) n1))) n4 A D=some r) N ?_ ?_ ?_
     ·intro x y d g;exact⟨K,0,_,_,d.sub (kp [80,79,5,13,12,1,14,3,81] O),g,an,(B6.refl ac V),a1,(iq (n:=0) O),E⟩
     ·rintro x y ⟨_,_,_,_,_,_,_,_,_,_,E⟩;rw[EU] at E;cases E
     rintro n4 x y ⟨A,D,dg,dh,d,g,W,af,bw,di,E⟩;refine AI ?_ d g;clear d g y x;rw[EU] at E;refine AU ?_;refine AF O E (λbx E=>?_) (λbx E=>?_)
     ·refine AU ?_;refine AZ (AU ?_);have bz:=bv.mono' af;refine A9 E O O bz sl_29.1 O λb0 E dj b1=>?_;have b2:=b1.i;refine AU ?_;refine BZ (.inl O) W (AU ?_);refine BC E O O O IA O (λb3 ao h' o=>CB (St.all h') b2 ao) λb3 E=>AU ?_;refine BL (kp [87,7,80,79,5,13,12,1,14,3,81] O) λdk ap dl=>AF O E (λb4 E=>?_) (λb4 E=>?_)
      ·exact RT
      refine AU ?_;refine BD (AU ?_);refine WF.nil (λx y d g=>?_);exact⟨(BG (A+b0)),(BG (D+1)),_,_,d.sub (kp [80,79,5,13,12,1,14,3,81] O),g,ap,EX,(BF _),(BF _),E⟩
     refine A8 O (λx y d g=>?_);exact⟨A,_,_,d.sub (kp [5,13,12,1,14,3] O),g,W,af,bw,E⟩
    rintro x y ⟨z,ag,ah,d,g,aq,dm,b5,E⟩;refine AI ?_ d g;clear d g y x;rw[Fy] at E;have b6:=c2.nw;refine AU ?_;refine AZ (AY (λn5=>λa w=>∃(F:Int) (G:Int),IV B ag ah (122,[]) a w [(94,vI (↑c.Aa.length:Int)),(93,ak),(13,vI (↑b.E.length:Int)),(12,v9),(1,q1),(14,vI k),(3,vI z),(8,vI F),(95,vI G)] (L) λ_ _=>AA F∧AA G∧ET N b c z (Dc N k (CZ N b (Ck N) n1)) n5 F G=some r) N ?_ ?_ ?_)
    ·intro x y d g;have ar:=aq.drop .head;exact⟨(-1),0,_,_,d.sub (kp [94,93,13,12,1,14,3,8,95] O),g,ar,(B6.refl ag ah),(iq (n:=(-1)) O),(iq (n:=0) O),E⟩
    ·rintro x y ⟨_,_,_,_,_,_,_,_,_,_,E⟩;rw[ET] at E;cases E
    rintro n5 x y ⟨F,G,dn,dp,d,g,X,b7,dq,dr,E⟩;refine AI ?_ d g;clear d g y x;rw[ET] at E;refine AU ?_;refine AF O E (λb8 E=>?_) (λb8 E=>?_)
    ·refine AU ?_;refine AZ (AU ?_);have b9:=b6.mono' b7;refine A9 E O O b9 sl_99.1 O λY E ds ca=>?_;obtain⟨dt,_,cb⟩:=ca.lv;refine AU ?_;refine CG YO O X λdu dv au cc=>?_;have cd:=cb.mono cc;obtain⟨rfl,⟨ce,cf⟩⟩:=KG.ex cd;refine CV O O O O ty_290.1 O au .head O λdw av dx=>AU ?_;refine BZ (.inl O) av ?_;have dy:=k6.nw;refine AU ?_;obtain⟨cg,j,E⟩:=bd E;refine AS 5 115 (.bool cg) ?_ ?_
     ·cases ai:((decide (Y.Bg≤F))||(decide (b.H≤Y.Bg)))
      ·have j:=Em ai j;refine AU ?_;refine BC j O O O IA O (λch aw h' o=>CB (St.all h') cf aw) λch j=>AU ?_;cases j;exact AQ O
      have j:=El ai j;cases j;exact A6 O O
     refine BL (kp [115,10,94,93,13,12,1,14,3,95] O) λdz ax d0=>AF O E (λci E=>?_) (λci E=>?_)
     ·exact RT
     refine AU ?_;refine BD (AU ?_);refine WF.nil (λx y d g=>?_);have ay:=ax.drop .head;exact⟨Y.Bg,(BG (G+1)),_,_,d.sub (kp [94,93,13,12,1,14,3,8,95] O),g,ay,EX,ce,(BF _),E⟩
    refine JI O (WF.nil (λx y d g=>?_));exact⟨z,_,_,d.sub (kp [13,12,1,14,3] O),g,X,EX,b5,E⟩
   rintro x y ⟨Q,d1,d2,d,g,az,d3,dc,E⟩;refine AI ?_ d g;clear d g y x;rw[Dc] at E;refine AU ?_;refine WF.nil (λx y d g=>?_);exact⟨Q,(BG (k+1)),_,_,d.sub (kp [13,12,1,3,14] O),g,az,EX,dc,(BF _),E⟩
  refine A8 O (λx y d g=>?_);exact⟨K,_,_,d.sub (kp [3] O),g,ae,a0,a1,E⟩
 rintro x y ⟨ab,d4,d5,d,g,dd,d6,ee,E⟩;refine AI ?_ d g;clear d g y x;rw[Ck] at E;exact RT
def Mx (W:St S L h) {b:Value}{d:(List CP)}(k:Sl S h B9 b d) {c:Value}{g:(List CP)}(l:Sl S h B9 c g) {r:Bool}(E:Ki N d g=some r):
 B0 prog 279 #[b,c] S h (λv S' h'=>v= .bool r∧St S' (L) h'):=by
 refine BA 66 func279 O ntmps279 O λB=>?_;rw[Ki] at E;refine AU ?_;refine BZ (.inl O) W (AU ?_);refine BC E O O O Ob O (λy1 X h' o=>Fl (St.all h') (k.mono' (o.all W.1)) X) λy1 E=>AU ?_;obtain⟨b4,m,E⟩:=bd E;refine AS 4 20 (.bool b4) ?_ ?_
 ·cases c3:(!y1)
  ·have m:=Em c3 m;refine AU ?_;refine BC m O O O Ob O (λy5 Y h' o=>Fl (St.all h') (l.mono' (o.all W.1)) Y) λy5 m=>AU ?_;cases m;exact AQ O
  have m:=El c3 m;cases m;exact A6 O O
 refine BL (kp [20,0,1] O) λZ ab e9=>AF O E (λac E=>?_) (λac E=>?_)
 ·exact RT
 have ad:=k.mono' e9;refine AU ?_;refine AK (λa w=>IV B S Z (66,[]) a w [(0,b),(1,c)] (L) λ_ _=>Iu N d g=some r) ?_ ?_
 ·refine AY (λn1=>λa w=>∃(s:Int),IV B S Z (66,[]) a w [(22,vI (↑d.length:Int)),(21,b),(0,b),(1,c),(23,vI s)] (L) λ_ _=>AA s∧HZ N d g (Iu N d g) n1 s=some r) N ?_ ?_ ?_
  ·intro p q i j;exact⟨0,_,_,i.sub (kp [22,21,0,1,23] O),j,ab,(B6.refl S Z),(iq (n:=0) O),E⟩
  ·rintro p q ⟨_,_,_,_,_,_,_,_,E⟩;rw[HZ] at E;cases E
  rintro n1 p q ⟨s,a7,a8,i,j,u,D,a9,E⟩;refine AI ?_ i j;clear i j q p;rw[HZ] at E;refine AU ?_;refine AF O E (λae E=>?_) (λae E=>?_)
  ·refine AU ?_;refine AZ (AU ?_);have af:=ad.mono' D;refine A9 E O O af sl_98.1 O λba E bb ag=>?_;obtain⟨bc,_,ah⟩:=ag.lv;refine AU ?_;refine CG Rj O u λbe bf F ai=>?_;have aj:=ah.mono ai;obtain⟨rfl,⟨ak,bg⟩⟩:=B9.ex aj;refine CV O O O O ty_137.1 O F .head O λbh x bi=>AU ?_;refine BZ (.inl O) x (AU ?_);have am:=l.nw;refine CC E O O O Td O (λan G h' o=>Kw (St.all h') (am.mono' (o.all x.1)) ak G) λan E ao=>?_;have bj:=ao;refine AU ?_;refine BL (kp [7,6,22,21,0,1,23] O) λbk H bl=>AU ?_;refine AF O E (λap E=>?_) (λap E=>?_)
   ·exact RT
   refine AU ?_;refine BD (AU ?_);refine WF.nil (λp q i j=>?_);have I:=H.drop .head;exact⟨(BG (s+1)),_,_,i.sub (kp [22,21,0,1,23] O),j,I,EX,(BF _),E⟩
  refine A8 O (λp q i j=>?_);exact⟨_,_,i.sub (kp [0,1] O),j,u,D,E⟩
 rintro p q ⟨A,C,i,j,J,bm,E⟩;refine AI ?_ i j;clear i j q p;rw[Iu] at E;have aq:=l.nw;refine AU ?_;refine AK (λa w=>IV B A C (66,[]) a w [] (L) λ_ _=>It N=some r) ?_ ?_
 ·refine AY (λn3=>λa w=>∃(t:Int),IV B A C (66,[]) a w [(40,vI (↑g.length:Int)),(39,c),(0,b),(41,vI t)] (L) λ_ _=>AA t∧HY N d g (It N) n3 t=some r) N ?_ ?_ ?_
  ·intro p q i j;exact⟨0,_,_,i.sub (kp [40,39,0,41] O),j,J,(B6.refl A C),(iq (n:=0) O),E⟩
  ·rintro p q ⟨_,_,_,_,_,_,_,_,E⟩;rw[HY] at E;cases E
  rintro n3 p q ⟨t,bn,bo,i,j,y,K,bp,E⟩;refine AI ?_ i j;clear i j q p;rw[HY] at E;refine AU ?_;refine AF O E (λar E=>?_) (λar E=>?_)
  ·refine AU ?_;refine AZ (AU ?_);have au:=aq.mono' K;refine A9 E O O au sl_98.1 O λbq E br av=>?_;obtain⟨bs,_,aw⟩:=av.lv;refine AU ?_;refine CG Rj O y λbt bu M ax=>?_;have ay:=aw.mono ax;obtain⟨rfl,⟨az,bv⟩⟩:=B9.ex ay;refine CV O O O O ty_137.1 O M .head O λbw z bx=>AU ?_;refine BZ (.inl O) z (AU ?_);have a0:=k.nw;refine CC E O O O Td O (λa1 Q h' o=>Kw (St.all h') (a0.mono' (o.all z.1)) az Q) λa1 E a2=>?_;have bz:=a2;refine AU ?_;refine BL (kp [12,11,10,40,39,0,41] O) λb0 U b1=>AU ?_;refine AF O E (λa3 E=>?_) (λa3 E=>?_)
   ·exact RT
   refine AU ?_;refine BD (AU ?_);refine WF.nil (λp q i j=>?_);have V:=U.drop .head;exact⟨(BG (t+1)),_,_,i.sub (kp [40,39,0,41] O),j,V,EX,(BF _),E⟩
  refine A8 O (λp q i j=>?_);exact⟨_,_,i.sub MC,j,y,K,E⟩
 rintro p q ⟨b2,a5,i,j,a4,a6,E⟩;refine AI ?_ i j;clear i j q p;rw[It] at E;exact RT
def NA (hs:St S L h) {H:Value}{D:BY}(V:Rd S h Bu H D) {r:Bool}(E:I6 N D=some r):
 B0 prog 236 #[H] S h (λv S' h'=>v= .bool r∧St S' (L) h'):=by
 refine BA 152 func236 O ntmps236 O λB=>?_;rw[I6] at E;refine AU ?_;refine B4 O V CE O hs λq1 S2 h3 C e5 G=>AU ?_;refine AZ (AU ?_);refine AF O E (λc6 E=>?_) (λc6 E=>?_)
 ·refine AU ?_;refine BZ (.inl O) C ?_;have c7:=G.fl KH;obtain⟨es,_,c8⟩:=c7.ll;refine AU ?_;refine BC E O O O Ob O (λa4 a5 h' o=>Fl (St.all h') (c8.mono' (o.all C.1)) a5) λa4 E=>AU ?_;obtain⟨a6,q,E⟩:=bd E;refine AS 5 15 (.bool a6) ?_ ?_
  ·cases a7:a4
   ·have q:=Em a7 q;cases q;exact A6 O O
   have q:=El a7 q;have c9:=G.fl KI;have da:=c9.fl Om;obtain⟨eu,_,db⟩:=da.ll;refine AU ?_;refine BC q O O O Ob O (λdc a8 h' o=>Fl (St.all h') (db.mono' (o.all C.1)) a8) λdc q=>AU ?_;cases q;exact AQ O
  refine AU ?_;obtain⟨a9,s,E⟩:=bd E;refine AS 5 21 (.bool a9) ?_ ?_
  ·cases ba:a6
   ·have s:=Em ba s;cases s;exact A6 O O
   have s:=El ba s;have dd:=G.fl KI;have de:=dd.fl On;obtain⟨ev,_,df⟩:=de.ll;refine AU ?_;refine BC s O O O Ob O (λdg bb h' o=>Fl (St.all h') (df.mono' (o.all C.1)) bb) λdg s=>AU ?_;cases s;exact AQ O
  refine AU ?_;obtain⟨bc,t,E⟩:=bd E;refine AS 7 29 (.bool bc) ?_ ?_
  ·cases be:a9
   ·have t:=Em be t;cases t;exact A6 O O
   have t:=El be t;have dh:=G.fl KI;have di:=dh.fl Om;obtain⟨ew,_,dj⟩:=di.ll;have dk:=G.fl KH;obtain⟨ex,_,dl⟩:=dk.ll;refine AU ?_;refine BC t O O O Vr O (λdm bf h' o=>Mx (St.all h') (dj.mono' (o.all C.1)) (dl.mono' (o.all C.1)) bf) λdm t=>AU ?_;cases t;exact AQ O
  refine AU ?_;obtain⟨bg,u,E⟩:=bd E;refine AS 7 37 (.bool bg) ?_ ?_
  ·cases bh:bc
   ·have u:=Em bh u;cases u;exact A6 O O
   have u:=El bh u;have dn:=G.fl KH;obtain⟨ey,_,dp⟩:=dn.ll;have dq:=G.fl KI;have dr:=dq.fl On;obtain⟨ez,_,ds⟩:=dr.ll;refine AU ?_;refine BC u O O O Vr O (λdt bi h' o=>Mx (St.all h') (dp.mono' (o.all C.1)) (ds.mono' (o.all C.1)) bi) λdt u=>AU ?_;cases u;exact AQ O
  refine AU ?_;obtain⟨bj,x,E⟩:=bd E;refine AS 4 42 (.bool bj) ?_ ?_
  ·cases bk:bg
   ·have x:=Em bk x;cases x;exact A6 O O
   have x:=El bk x;have du:=G.fl Dm;have dv:=du.i;refine AU ?_;refine BC x O O O E2 O (λdw bl h' o=>B8 (St.all h') dv (iq (n:=0) O) (iq (n:=64) O) bl) λdw x=>AU ?_;cases x;exact AQ O
  refine AU ?_;obtain⟨bm,y,E⟩:=bd E;refine AS 6 49 (.bool bm) ?_ ?_
  ·cases bn:bj
   ·have y:=Em bn y;cases y;exact A6 O O
   have y:=El bn y;have dx:=G.fl JK;have dy:=dx.i;have dz:=G.fl Dm;have d0:=dz.i;refine AU ?_;refine BC y O O O E2 O (λd1 bo h' o=>B8 (St.all h') dy (iq (n:=0) O) d0 bo) λd1 y=>AU ?_;cases y;exact AQ O
  refine AU ?_;obtain⟨bp,z,E⟩:=bd E;refine AS 4 54 (.bool bp) ?_ ?_
  ·cases bq:bm
   ·have z:=Em bq z;cases z;exact A6 O O
   have z:=El bq z;have d2:=G.fl Mt;have d3:=d2.i;refine AU ?_;refine BC z O O O IA O (λd4 br h' o=>CB (St.all h') d3 br) λd4 z=>AU ?_;cases z;exact AQ O
  refine AU ?_;obtain⟨d5,A,E⟩:=bd E;refine AS 6 61 (.bool d5) ?_ ?_
  ·cases bs:bp
   ·have A:=Em bs A;cases A;exact A6 O O
   have A:=El bs A;have d6:=G.fl H3;have d7:=d6.i;have d8:=G.fl H4;have d9:=d8.i;refine AU ?_;refine BC A O O O Te O (λea bt h' o=>Jm (St.all h') d7 d9 bt) λea A=>AU ?_;cases A;exact AQ O
  refine AU ?_;exact BL (kp [2] O) λeg eb eh=>RT
 refine AU ?_;refine EZ (λa w=>∃(Q:Bool),IV B S2 h3 (152,[]) a w [(4,vI D.L),(1,q1),(72,.bool Q)] (L) λ_ _=>F8 N D Q=some r) ?_ ?_
 ·refine AF O E (λbu E=>?_) (λbu E=>?_)
  ·refine AU ?_;refine WF.nil (λaa ww hf hw=>?_);exact⟨(decide (D.L=1)),_,_,hf.sub (kp [4,1,72] O),hw,C,(B6.refl S2 h3),E⟩
  refine AU ?_;refine WF.nil (λaa ww hf hw=>?_);exact⟨(decide (D.L=5)),_,_,hf.sub (kp [4,1,72] O),hw,C,(B6.refl S2 h3),E⟩
 rintro aa ww ⟨Q,ei,ej,hf,hw,F,I,E⟩;refine AI ?_ hf hw;clear hf hw ww aa;rw[F8] at E;refine AF O E (λbv E=>?_) (λbv E=>?_)
 ·refine AU ?_;refine BZ (.inl O) F ?_;have U:=G.mono I;have bw:=U.fl MB;have bx:=bw.i;refine AU ?_;refine BC E O O O IA O (λW ap h' o=>CB (St.all h') bx ap) λW E=>AU ?_;obtain⟨X,b,E⟩:=bd E;refine AS 4 82 (.bool X) ?_ ?_
  ·cases Y:W
   ·have b:=Em Y b;cases b;exact A6 O O
   have b:=El Y b;have bz:=U.fl BY.f_Num;have b0:=bz.i;refine AU ?_;refine BC b O O O IA O (λb1 aq h' o=>CB (St.all h') b0 aq) λb1 b=>AU ?_;cases b;exact AQ O
  refine AU ?_;obtain⟨b2,c,E⟩:=bd E;refine AS 4 87 (.bool b2) ?_ ?_
  ·cases Z:X
   ·have c:=Em Z c;cases c;exact A6 O O
   have c:=El Z c;have b3:=U.fl BY.f_Den;have b4:=b3.i;refine AU ?_;refine BC c O O O E2 O (λb5 ar h' o=>B8 (St.all h') b4 (iq (n:=1) O) (iq (n:=1125899906842624) O) ar) λb5 c=>AU ?_;cases c;exact AQ O
  refine AU ?_;exact BL (kp [2] O) λek ec el=>RT
 refine AU ?_;refine AF O E (λb6 E=>?_) (λb6 E=>?_)
 ·refine AU ?_;refine BZ (.inl O) F ?_;have J:=G.mono I;have b7:=J.fl BY.f_Num;have b8:=b7.i;refine AU ?_;refine BC E O O O IA O (λab au h' o=>CB (St.all h') b8 au) λab E=>AU ?_;obtain⟨ac,d,E⟩:=bd E;refine AS 4 97 (.bool ac) ?_ ?_
  ·cases ad:ab
   ·have d:=Em ad d;cases d;exact A6 O O
   have d:=El ad d;have b9:=J.fl Dm;have ca:=b9.i;refine AU ?_;refine BC d O O O E2 O (λcb av h' o=>B8 (St.all h') ca (iq (n:=1) O) (iq (n:=64) O) av) λcb d=>AU ?_;cases d;exact AQ O
  refine AU ?_;obtain⟨cc,g,E⟩:=bd E;refine AS 6 104 (.bool cc) ?_ ?_
  ·cases ae:ac
   ·have g:=Em ae g;cases g;exact A6 O O
   have g:=El ae g;have cd:=J.fl JK;have ce:=cd.i;have cf:=J.fl Dm;have cg:=cf.i;refine AU ?_;refine BC g O O O E2 O (λch aw h' o=>B8 (St.all h') ce (iq (n:=0) O) cg aw) λch g=>AU ?_;cases g;exact AQ O
  refine AU ?_;exact BL (kp [2] O) λem ed en=>RT
 refine AU ?_;refine AF O E (λci E=>?_) (λci E=>?_)
 ·refine AU ?_;refine BZ (.inl O) F ?_;have K:=G.mono I;have cj:=K.fl BY.f_Num;have ck:=cj.i;refine AU ?_;refine BC E O O O IA O (λaf ax h' o=>CB (St.all h') ck ax) λaf E=>AU ?_;obtain⟨ag,j,E⟩:=bd E;refine AS 4 114 (.bool ag) ?_ ?_
  ·cases ah:af
   ·have j:=Em ah j;cases j;exact A6 O O
   have j:=El ah j;have cl:=K.fl BY.f_Den;have cm:=cl.i;refine AU ?_;refine BC j O O O E2 O (λcn ay h' o=>B8 (St.all h') cm (iq (n:=1) O) (iq (n:=1125899906842624) O) ay) λcn j=>AU ?_;cases j;exact AQ O
  refine AU ?_;obtain⟨ai,k,E⟩:=bd E;refine AS 4 119 (.bool ai) ?_ ?_
  ·cases aj:ag
   ·have k:=Em aj k;cases k;exact A6 O O
   have k:=El aj k;have co:=K.fl OJ;have cp:=co.i;refine AU ?_;refine BC k O O O IA O (λcq az h' o=>CB (St.all h') cp az) λcq k=>AU ?_;cases k;exact AQ O
  refine AU ?_;obtain⟨cr,l,E⟩:=bd E;refine AS 4 124 (.bool cr) ?_ ?_
  ·cases ak:ai
   ·have l:=Em ak l;cases l;exact A6 O O
   have l:=El ak l;have cs:=K.fl OK;have ct:=cs.i;refine AU ?_;refine BC l O O O IA O (λcu a0 h' o=>CB (St.all h') ct a0) λcu l=>AU ?_;cases l;exact AQ O
  refine AU ?_;exact BL (kp [2] O) λeo ee ep=>RT
 refine AU ?_;refine BD (AU ?_);refine BZ (.inl O) F ?_;have M:=G.mono I;have cv:=M.fl BY.f_Num;have cw:=cv.i;refine AU ?_;refine BC E O O O IA O (λal a1 h' o=>CB (St.all h') cw a1) λal E=>AU ?_;obtain⟨am,m,E⟩:=bd E;refine AS 4 139 (.bool am) ?_ ?_
 ·cases an:al
  ·have m:=Em an m;cases m;exact A6 O O
  have m:=El an m;have cx:=M.fl BY.f_Den;have cy:=cx.i;refine AU ?_;refine BC m O O O E2 O (λcz a2 h' o=>B8 (St.all h') cy (iq (n:=1) O) (iq (n:=1125899906842624) O) a2) λcz m=>AU ?_;cases m;exact AQ O
 refine AU ?_;obtain⟨c0,p,E⟩:=bd E;refine AS 6 146 (.bool c0) ?_ ?_
 ·cases ao:am
  ·have p:=Em ao p;cases p;exact A6 O O
  have p:=El ao p;have c1:=M.fl H3;have c2:=c1.i;have c3:=M.fl H4;have c4:=c3.i;refine AU ?_;refine BC p O O O Te O (λc5 a3 h' o=>Jm (St.all h') c2 c4 a3) λc5 p=>AU ?_;cases p;exact AQ O
 refine AU ?_;exact BL (kp [2] O) λeq ef er=>RT
end Go.Proofs.YtedgiljmffngoaaGreat
