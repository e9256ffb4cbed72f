import Derived.Test.YtedgiljmffngoaaGreatPInst
import Derived.Test.YtedgiljmffngoaaGreatPForms
import Derived.Test.YtedgiljmffngoaaGreatPSort5
import Derived.Test.YtedgiljmffngoaaGreatPWalk5
import Derived.Test.YtedgiljmffngoaaGreatPWalk12
namespace Go.Proofs.YtedgiljmffngoaaGreat
set_option linter.all false
open Go.RowKit
open Go.Proofs.Tryz
set_option maxRecDepth 10000
set_option maxHeartbeats 2000000
variable {N:Nat}{S:Nat→Prop}{L:List HP}{h:AS}
def Kd (n:St S L h) {a:Int}(d:AA a) {b:Int}(g:AA b) {r:Bool}(E:G9 N a b=some r):
 B6 prog 233 #[vI a,vI b] S h (λv S' h'=>v= .bool r∧St S' (L) h'):=by
 refine A7 19 func233 O ntmps233 O λB=>?_;rw[G9] at E;refine AU ?_;refine BY (.inl O) n (AU ?_);refine A5 E O O O JR O (λk i h' o=>CQ (St.all h') d i) λk E=>AU ?_;obtain⟨p,c,E⟩:=bd E;refine AW 3 10 (.bool p) ?_ ?_
 ·cases l:k
  ·have c:=Gw l c;cases c;exact BD O O
  have c:=Gv l c;refine AU ?_;refine A5 c O O O JR O (λq j h' o=>CQ (St.all h') g j) λq c=>AU ?_;cases c;exact AX O
 refine AU ?_;exact BG (kp [4] O) λt m s=>RT
def HY (i:St S L h) {b:Int}(c:AA b) {a:Int}(d:AA a) {r:Bool}(E:E2 N b a=some r):
 B6 prog 235 #[vI b,vI a] S h (λv S' h'=>v= .bool r∧St S' (L) h'):=by
 refine A7 9 func235 O ntmps235 O λB=>?_;rw[E2] at E;refine AU ?_;refine BY (.inl O) i (AU ?_);refine A5 E O O O HB O (λj g h' o=>CI (St.all h') c (iq (n:=0) O) (BF _) g) λj E=>AU ?_;exact BG (kp [4] O) λl k m=>RT
def Ng (w:St S L h) {d:Value}{j:AE}(i:Rd S h By d j) {a:Int}(k:AA a) {b:Int}(g:AA b) {r:Bool}(E:Iv N j a b=some r):
 B6 prog 234 #[d,vI a,vI b] S h (λv S' h'=>v= .bool r∧St S' (L) h'):=by
 refine A7 21 func234 O ntmps234 O λB=>?_;rw[Iv] at E;refine AU ?_;refine Bz O i CE O w λD S2 F m G x=>AU ?_;refine BY (.inl O) m (AU ?_);obtain⟨y,c,E⟩:=bd E;refine AW 11 20 (.bool y) ?_ ?_
 ·cases t:(decide (b=(-1)))
  ·have c:=Gw t c;have n:=x.fl BZ;obtain⟨z,_,p⟩:=n.ll;have q:=p.le;refine AU ?_;refine A5 c O O O QL O (λs l h' o=>HY (St.all h') g (KU q) l) λs c=>AU ?_;cases c;exact AX O
  have c:=Gv t c;cases c;exact BD O O
 refine AU ?_;exact BG (kp [6] O) λA u C=>RT
def Oa (hs:St S L h) {K:Value}{b:AE}(ac:Rd S h By K b) {r:Bool}(E:Hf N b=some r):
 B6 prog 177 #[K] S h (λv S' h'=>v= .bool r∧St S' (L) h'):=by
 refine A7 122 func177 O ntmps177 O λB=>?_;rw[Hf] at E;refine AU ?_;refine Bz O ac CE O hs λq1 S2 h3 cl e5 k6=>?_;have k8:=k6.fl BZ;obtain⟨v9,_,cm⟩:=k8.ll;refine AU ?_;refine AN (λa w=>∃(ad:Int),IV B S2 h3 (122,[]) a w [(3,vI ad)] (L) λ_ _=>AA ad∧BS N ad=some r) ?_ ?_
 ·refine AY (λn1=>λa w=>∃(M:Int) (k:Int),IV B S2 h3 (122,[]) a w [(13,vI (↑b.A.length:Int)),(12,v9),(1,q1),(3,vI M),(14,vI k)] (L) λ_ _=>AA M∧AA k∧BH N b (BS N) n1 M k=some r) N ?_ ?_ ?_
  ·intro x y d g;exact⟨0,0,_,_,d.sub (kp [13,12,1,3,14] O),g,cl,(CG.refl S2 h3),(iq (n:=0) O),(iq (n:=0) O),E⟩
  ·rintro x y ⟨_,_,_,_,_,_,_,_,_,_,E⟩;rw[BH] at E;cases E
  rintro n1 x y ⟨M,k,ae,cn,d,g,ag,a2,a3,co,E⟩;refine AK ?_ d g;clear d g y x;rw[BH] at E;refine AU ?_;refine AG O E (λcp E=>?_) (λcp E=>?_)
  ·refine AU ?_;refine AN (λa w=>∃(U:Int),IV B ae cn (122,[]) a w [(13,vI (↑b.A.length:Int)),(12,v9),(1,q1),(14,vI k),(3,vI U)] (L) λ_ _=>AA U∧B9 N k (BH N b (BS N) n1) U=some r) ?_ ?_
   ·refine AU ?_;have cq:=cm.mono' a2;refine A4 E O O cq Kk.1 O λc E d9 cr=>?_;obtain⟨ea,_,cs⟩:=cr.lv;refine AU ?_;refine CP MS O ag λaf eb a4 ct=>AU ?_;have cu:=cs.mono ct;obtain⟨a5,am,an,rfl,ec,cv,cw,cx,cy,a6,cz,c0,c1,c2,c3,c4⟩:=CJ.ex cu;refine DU O O O ON MW.1 O a4 .head O λed V a7=>AU ?_;refine BY (.inl O) V (AU ?_);refine A5 E O O O HB O (λa8 a9 h' o=>CI (St.all h') cv (iq (n:=0) O) (iq (n:=3) O) a9) λa8 E=>AU ?_;obtain⟨ba,l,E⟩:=bd E;refine AW 5 28 (.bool ba) ?_ ?_
    ·cases bb:(!a8)
     ·have l:=Gw bb l;refine AU ?_;refine A5 l O O O HB O (λc5 bc h' o=>CI (St.all h') cw (iq (n:=0) O) (iq (n:=2) O) bc) λc5 l=>AU ?_;cases l;exact AX O
     have l:=Gv bb l;cases l;exact BD O O
    refine AU ?_;obtain⟨be,m,E⟩:=bd E;refine AW 5 34 (.bool be) ?_ ?_
    ·cases bf:ba
     ·have m:=Gw bf m;refine AU ?_;refine A5 m O O O HB O (λc6 bg h' o=>CI (St.all h') c2 (iq (n:=0) O) (iq (n:=240) O) bg) λc6 m=>AU ?_;cases m;exact AX O
     have m:=Gv bf m;cases m;exact BD O O
    refine AU ?_;obtain⟨bh,p,E⟩:=bd E;refine AW 5 40 (.bool bh) ?_ ?_
    ·cases bi:be
     ·have p:=Gw bi p;refine AU ?_;refine A5 p O O O JR O (λc7 bj h' o=>CQ (St.all h') cx bj) λc7 p=>AU ?_;cases p;exact AX O
     have p:=Gv bi p;cases p;exact BD O O
    refine AU ?_;obtain⟨bk,q,E⟩:=bd E;refine AW 5 46 (.bool bk) ?_ ?_
    ·cases bl:bh
     ·have q:=Gw bl q;refine AU ?_;refine A5 q O O O JR O (λc8 bm h' o=>CQ (St.all h') c3 bm) λc8 q=>AU ?_;cases q;exact AX O
     have q:=Gv bl q;cases q;exact BD O O
    refine AU ?_;obtain⟨bn,s,E⟩:=bd E;refine AW 5 52 (.bool bn) ?_ ?_
    ·cases bo:bk
     ·have s:=Gw bo s;refine AU ?_;have c9:=cy.mono' a7;refine A5 s O O O QM O (λda bp h' o=>HX (St.all h') (c9.mono' (o.all V.1)) bp) λda s=>AU ?_;cases s;exact AX O
     have s:=Gv bo s;cases s;exact BD O O
    have ee:=a6.mono' a7;have ef:=k6.nw;refine AU ?_;obtain⟨bq,t,E⟩:=bd E;refine AW 7 69 (.bool bq) ?_ ?_
    ·cases br:(bn||(decide ((↑c.Be.length:Int)≠(↑b.I.length:Int))))
     ·have t:=Gw br t;refine AU ?_;refine A5 t O O O XN O (λdb bs h' o=>Kd (St.all h') cz c0 bs) λdb t=>AU ?_;cases t;exact AX O
     have t:=Gv br t;cases t;exact BD O O
    refine AU ?_;obtain⟨dc,u,E⟩:=bd E;refine AW 7 77 (.bool dc) ?_ ?_
    ·cases bt:bq
     ·have u:=Gw bt u;have dd:=k6.nw;obtain⟨dg,_,bu⟩:=dd.lv;refine AU ?_;refine A5 u O O O eI O (λbv ao h' o=>Ng (St.all h') (bu.mono (o.all V.1)) co c1 ao) λbv u=>AU ?_;cases u;exact AX O
     have u:=Gv bt u;cases u;exact BD O O
    refine BG (kp [77,5,13,12,1,3,14] O) λW ap dh=>AG O E (λbw E=>?_) (λbw E=>?_)
    ·exact RT
    have bx:=a6.nw;refine AU ?_;refine AN (λa w=>∃(z:Int),IV B ae W (122,[]) a w [(5,vP af 0),(13,vI (↑b.A.length:Int)),(12,v9),(1,q1),(14,vI k),(3,vI z)] (Bx af 101 [.string c.J,vI c.G,vI c.Ac,vI c.Av,a5,am,vI c.Y,vI c.T,vI c.Ak,vI c.Q,vI c.Bf,an]::L) λ_ _=>AA z∧Dd N b c (B9 N k (BH N b (BS N) n1)) z=some r) ?_ ?_
    ·refine AY (λn4=>λa w=>∃(C:Int) (D:Int),IV B ae W (122,[]) a w [(80,vI (↑c.Be.length:Int)),(79,am),(5,vP af 0),(13,vI (↑b.A.length:Int)),(12,v9),(1,q1),(14,vI k),(3,vI C),(81,vI D)] (Bx af 101 [.string c.J,vI c.G,vI c.Ac,vI c.Av,a5,am,vI c.Y,vI c.T,vI c.Ak,vI c.Q,vI c.Bf,an]::L) λ_ _=>AA C∧AA D∧Ck N c (Dd N b c (B9 N k (BH N b (BS N) n1))) n4 C D=some r) N ?_ ?_ ?_
     ·intro x y d g;exact⟨M,0,_,_,d.sub (kp [80,79,5,13,12,1,14,3,81] O),g,ap,(CG.refl ae W),a3,(iq (n:=0) O),E⟩
     ·rintro x y ⟨_,_,_,_,_,_,_,_,_,_,E⟩;rw[Ck] at E;cases E
     rintro n4 x y ⟨C,D,di,dj,d,g,X,ah,bz,dk,E⟩;refine AK ?_ d g;clear d g y x;rw[Ck] at E;refine AU ?_;refine AG O E (λb0 E=>?_) (λb0 E=>?_)
     ·refine AU ?_;refine A3 (AU ?_);have b1:=bx.mono' ah;refine A4 E O O b1 Ce.1 O λb2 E dl b3=>?_;have b4:=b3.i;refine AU ?_;refine BY (.inl O) X (AU ?_);refine A5 E O O O JR O (λb5 aq h' o=>CQ (St.all h') b4 aq) λb5 E=>AU ?_;refine BG (kp [87,7,80,79,5,13,12,1,14,3,81] O) λdm ar dn=>AG O E (λb6 E=>?_) (λb6 E=>?_)
      ·exact RT
      refine AU ?_;refine BE (AU ?_);refine WF.nil (λx y d g=>?_);exact⟨(A9 (C+b2)),(A9 (D+1)),_,_,d.sub (kp [80,79,5,13,12,1,14,3,81] O),g,ar,EX,(BF _),(BF _),E⟩
     refine A8 O (λx y d g=>?_);exact⟨C,_,_,d.sub (kp [5,13,12,1,14,3] O),g,X,ah,bz,E⟩
    rintro x y ⟨z,ai,aj,d,g,au,dp,b7,E⟩;refine AK ?_ d g;clear d g y x;rw[Dd] at E;have b8:=c4.nw;refine AU ?_;refine A3 (AY (λn5=>λa w=>∃(F:Int) (H:Int),IV B ai aj (122,[]) a w [(94,vI (↑c.Aa.length:Int)),(93,an),(13,vI (↑b.A.length:Int)),(12,v9),(1,q1),(14,vI k),(3,vI z),(8,vI F),(95,vI H)] (L) λ_ _=>AA F∧AA H∧Cj N b c z (B9 N k (BH N b (BS N) n1)) n5 F H=some r) N ?_ ?_ ?_)
    ·intro x y d g;have av:=au.drop .head;exact⟨(-1),0,_,_,d.sub (kp [94,93,13,12,1,14,3,8,95] O),g,av,(CG.refl ai aj),(iq (n:=(-1)) O),(iq (n:=0) O),E⟩
    ·rintro x y ⟨_,_,_,_,_,_,_,_,_,_,E⟩;rw[Cj] at E;cases E
    rintro n5 x y ⟨F,H,dq,dr,d,g,Z,b9,ds,dt,E⟩;refine AK ?_ d g;clear d g y x;rw[Cj] at E;refine AU ?_;refine AG O E (λca E=>?_) (λca E=>?_)
    ·refine AU ?_;refine A3 (AU ?_);have cb:=b8.mono' b9;refine A4 E O O cb uA.1 O λab E du cc=>?_;obtain⟨dv,_,cd⟩:=cc.lv;refine AU ?_;refine CP mX O Z λdw dx aw ce=>?_;have cf:=cd.mono ce;obtain⟨rfl,⟨cg,ch⟩⟩:=Mp.ex cf;refine C0 O O O O nN.1 O aw .head O λdy ax dz=>AU ?_;refine BY (.inl O) ax ?_;have d0:=k6.nw;refine AU ?_;obtain⟨ci,j,E⟩:=bd E;refine AW 5 115 (.bool ci) ?_ ?_
     ·cases ak:((decide (ab.Bh≤F))||(decide (b.P≤ab.Bh)))
      ·have j:=Gw ak j;refine AU ?_;refine A5 j O O O JR O (λcj ay h' o=>CQ (St.all h') ch ay) λcj j=>AU ?_;cases j;exact AX O
      have j:=Gv ak j;cases j;exact BD O O
     refine BG (kp [115,10,94,93,13,12,1,14,3,95] O) λd1 az d2=>AG O E (λck E=>?_) (λck E=>?_)
     ·exact RT
     refine AU ?_;refine BE (AU ?_);refine WF.nil (λx y d g=>?_);have a0:=az.drop .head;exact⟨ab.Bh,(A9 (H+1)),_,_,d.sub (kp [94,93,13,12,1,14,3,8,95] O),g,a0,EX,cg,(BF _),E⟩
    refine KH O (WF.nil (λx y d g=>?_));exact⟨z,_,_,d.sub (kp [13,12,1,14,3] O),g,Z,EX,b7,E⟩
   rintro x y ⟨U,d3,d4,d,g,a1,d5,de,E⟩;refine AK ?_ d g;clear d g y x;rw[B9] at E;refine AU ?_;refine WF.nil (λx y d g=>?_);exact⟨U,(A9 (k+1)),_,_,d.sub (kp [13,12,1,3,14] O),g,a1,EX,de,(BF _),E⟩
  refine A8 O (λx y d g=>?_);exact⟨M,_,_,d.sub (kp [3] O),g,ag,a2,a3,E⟩
 rintro x y ⟨ad,d6,d7,d,g,df,d8,eg,E⟩;refine AK ?_ d g;clear d g y x;rw[BS] at E;exact RT
def OH (W:St S L h) {b:Value}{d:(List BU)}(k:Sl S h CA b d) {c:Value}{g:(List BU)}(l:Sl S h CA c g) {r:Bool}(E:Hq N d g=some r):
 B6 prog 279 #[b,c] S h (λv S' h'=>v= .bool r∧St S' (L) h'):=by
 refine A7 66 func279 O ntmps279 O λB=>?_;rw[Hq] at E;refine AU ?_;refine BY (.inl O) W (AU ?_);refine A5 E O O O QM O (λy1 X h' o=>HX (St.all h') (k.mono' (o.all W.1)) X) λy1 E=>AU ?_;obtain⟨b4,m,E⟩:=bd E;refine AW 4 20 (.bool b4) ?_ ?_
 ·cases c3:(!y1)
  ·have m:=Gw c3 m;refine AU ?_;refine A5 m O O O QM O (λy5 Y h' o=>HX (St.all h') (l.mono' (o.all W.1)) Y) λy5 m=>AU ?_;cases m;exact AX O
  have m:=Gv c3 m;cases m;exact BD O O
 refine BG (kp [20,0,1] O) λZ ab e9=>AG O E (λac E=>?_) (λac E=>?_)
 ·exact RT
 have ad:=k.mono' e9;refine AU ?_;refine AN (λa w=>IV B S Z (66,[]) a w [(0,b),(1,c)] (L) λ_ _=>GP N d g=some r) ?_ ?_
 ·refine AY (λn1=>λa w=>∃(s:Int),IV B S Z (66,[]) a w [(22,vI (↑d.length:Int)),(21,b),(0,b),(1,c),(23,vI s)] (L) λ_ _=>AA s∧GO N d g (GP N d g) n1 s=some r) N ?_ ?_ ?_
  ·intro p q i j;exact⟨0,_,_,i.sub (kp [22,21,0,1,23] O),j,ab,(CG.refl S Z),(iq (n:=0) O),E⟩
  ·rintro p q ⟨_,_,_,_,_,_,_,_,E⟩;rw[GO] at E;cases E
  rintro n1 p q ⟨s,a7,a8,i,j,u,D,a9,E⟩;refine AK ?_ i j;clear i j q p;rw[GO] at E;refine AU ?_;refine AG O E (λae E=>?_) (λae E=>?_)
  ·refine AU ?_;refine A3 (AU ?_);have af:=ad.mono' D;refine A4 E O O af M4.1 O λba E bb ag=>?_;obtain⟨bc,_,ah⟩:=ag.lv;refine AU ?_;refine CP Ue O u λbe bf F ai=>?_;have aj:=ah.mono ai;obtain⟨rfl,⟨ak,bg⟩⟩:=CA.ex aj;refine C0 O O O O Uh.1 O F .head O λbh x bi=>AU ?_;refine BY (.inl O) x (AU ?_);have am:=l.nw;refine B4 E O O O XM O (λan G h' o=>L0 (St.all h') (am.mono' (o.all x.1)) ak G) λan E ao=>?_;have bj:=ao;refine AU ?_;refine BG (kp [7,6,22,21,0,1,23] O) λbk H bl=>AU ?_;refine AG O E (λap E=>?_) (λap E=>?_)
   ·exact RT
   refine AU ?_;refine BE (AU ?_);refine WF.nil (λp q i j=>?_);have I:=H.drop .head;exact⟨(A9 (s+1)),_,_,i.sub (kp [22,21,0,1,23] O),j,I,EX,(BF _),E⟩
  refine A8 O (λp q i j=>?_);exact⟨_,_,i.sub (kp [0,1] O),j,u,D,E⟩
 rintro p q ⟨A,C,i,j,J,bm,E⟩;refine AK ?_ i j;clear i j q p;rw[GP] at E;have aq:=l.nw;refine AU ?_;refine AN (λa w=>IV B A C (66,[]) a w [] (L) λ_ _=>Hu N=some r) ?_ ?_
 ·refine AY (λn3=>λa w=>∃(t:Int),IV B A C (66,[]) a w [(40,vI (↑g.length:Int)),(39,c),(0,b),(41,vI t)] (L) λ_ _=>AA t∧GN N d g (Hu N) n3 t=some r) N ?_ ?_ ?_
  ·intro p q i j;exact⟨0,_,_,i.sub (kp [40,39,0,41] O),j,J,(CG.refl A C),(iq (n:=0) O),E⟩
  ·rintro p q ⟨_,_,_,_,_,_,_,_,E⟩;rw[GN] at E;cases E
  rintro n3 p q ⟨t,bn,bo,i,j,y,K,bp,E⟩;refine AK ?_ i j;clear i j q p;rw[GN] at E;refine AU ?_;refine AG O E (λar E=>?_) (λar E=>?_)
  ·refine AU ?_;refine A3 (AU ?_);have au:=aq.mono' K;refine A4 E O O au M4.1 O λbq E br av=>?_;obtain⟨bs,_,aw⟩:=av.lv;refine AU ?_;refine CP Ue O y λbt bu M ax=>?_;have ay:=aw.mono ax;obtain⟨rfl,⟨az,bv⟩⟩:=CA.ex ay;refine C0 O O O O Uh.1 O M .head O λbw z bx=>AU ?_;refine BY (.inl O) z (AU ?_);have a0:=k.nw;refine B4 E O O O XM O (λa1 Q h' o=>L0 (St.all h') (a0.mono' (o.all z.1)) az Q) λa1 E a2=>?_;have bz:=a2;refine AU ?_;refine BG (kp [12,11,10,40,39,0,41] O) λb0 U b1=>AU ?_;refine AG O E (λa3 E=>?_) (λa3 E=>?_)
   ·exact RT
   refine AU ?_;refine BE (AU ?_);refine WF.nil (λp q i j=>?_);have V:=U.drop .head;exact⟨(A9 (t+1)),_,_,i.sub (kp [40,39,0,41] O),j,V,EX,(BF _),E⟩
  refine A8 O (λp q i j=>?_);exact⟨_,_,i.sub Nv,j,y,K,E⟩
 rintro p q ⟨b2,a5,i,j,a4,a6,E⟩;refine AK ?_ i j;clear i j q p;rw[Hu] at E;exact RT
def Oc (hs:St S L h) {I:Value}{D:BL}(W:Rd S h B7 I D) {r:Bool}(E:FT N D=some r):
 B6 prog 236 #[I] S h (λv S' h'=>v= .bool r∧St S' (L) h'):=by
 refine A7 152 func236 O ntmps236 O λB=>?_;rw[FT] at E;refine AU ?_;refine Bz O W CE O hs λq1 S2 h3 C e5 H=>AU ?_;refine A3 (AU ?_);refine AG O E (λc7 E=>?_) (λc7 E=>?_)
 ·refine AU ?_;refine BY (.inl O) C ?_;have c8:=H.fl K4;obtain⟨eu,_,c9⟩:=c8.ll;refine AU ?_;refine A5 E O O O QM O (λa5 a6 h' o=>HX (St.all h') (c9.mono' (o.all C.1)) a6) λa5 E=>AU ?_;obtain⟨a7,q,E⟩:=bd E;refine AW 5 15 (.bool a7) ?_ ?_
  ·cases a8:a5
   ·have q:=Gw a8 q;cases q;exact BD O O
   have q:=Gv a8 q;have da:=H.fl K5;have db:=da.fl QV;obtain⟨ev,_,dc⟩:=db.ll;refine AU ?_;refine A5 q O O O QM O (λdd a9 h' o=>HX (St.all h') (dc.mono' (o.all C.1)) a9) λdd q=>AU ?_;cases q;exact AX O
  refine AU ?_;obtain⟨ba,s,E⟩:=bd E;refine AW 5 21 (.bool ba) ?_ ?_
  ·cases bb:a7
   ·have s:=Gw bb s;cases s;exact BD O O
   have s:=Gv bb s;have de:=H.fl K5;have df:=de.fl QY;obtain⟨ew,_,dg⟩:=df.ll;refine AU ?_;refine A5 s O O O QM O (λdh bc h' o=>HX (St.all h') (dg.mono' (o.all C.1)) bc) λdh s=>AU ?_;cases s;exact AX O
  refine AU ?_;obtain⟨be,t,E⟩:=bd E;refine AW 7 29 (.bool be) ?_ ?_
  ·cases bf:ba
   ·have t:=Gw bf t;cases t;exact BD O O
   have t:=Gv bf t;have di:=H.fl K5;have dj:=di.fl QV;obtain⟨ex,_,dk⟩:=dj.ll;have dl:=H.fl K4;obtain⟨ey,_,dm⟩:=dl.ll;refine AU ?_;refine A5 t O O O eA O (λdn bg h' o=>OH (St.all h') (dk.mono' (o.all C.1)) (dm.mono' (o.all C.1)) bg) λdn t=>AU ?_;cases t;exact AX O
  refine AU ?_;obtain⟨bh,u,E⟩:=bd E;refine AW 7 37 (.bool bh) ?_ ?_
  ·cases bi:be
   ·have u:=Gw bi u;cases u;exact BD O O
   have u:=Gv bi u;have dp:=H.fl K4;obtain⟨ez,_,dq⟩:=dp.ll;have dr:=H.fl K5;have ds:=dr.fl QY;obtain⟨e0,_,dt⟩:=ds.ll;refine AU ?_;refine A5 u O O O eA O (λdu bj h' o=>OH (St.all h') (dq.mono' (o.all C.1)) (dt.mono' (o.all C.1)) bj) λdu u=>AU ?_;cases u;exact AX O
  refine AU ?_;obtain⟨bk,x,E⟩:=bd E;refine AW 4 42 (.bool bk) ?_ ?_
  ·cases bl:bh
   ·have x:=Gw bl x;cases x;exact BD O O
   have x:=Gv bl x;have dv:=H.fl Fb;have dw:=dv.i;refine AU ?_;refine A5 x O O O HB O (λdx bm h' o=>CI (St.all h') dw (iq (n:=0) O) (iq (n:=64) O) bm) λdx x=>AU ?_;cases x;exact AX O
  refine AU ?_;obtain⟨bn,y,E⟩:=bd E;refine AW 6 49 (.bool bn) ?_ ?_
  ·cases bo:bk
   ·have y:=Gw bo y;cases y;exact BD O O
   have y:=Gv bo y;have dy:=H.fl KI;have dz:=dy.i;have d0:=H.fl Fb;have d1:=d0.i;refine AU ?_;refine A5 y O O O HB O (λd2 bp h' o=>CI (St.all h') dz (iq (n:=0) O) d1 bp) λd2 y=>AU ?_;cases y;exact AX O
  refine AU ?_;obtain⟨bq,z,E⟩:=bd E;refine AW 4 54 (.bool bq) ?_ ?_
  ·cases br:bn
   ·have z:=Gw br z;cases z;exact BD O O
   have z:=Gv br z;have d3:=H.fl OD;have d4:=d3.i;refine AU ?_;refine A5 z O O O JR O (λd5 bs h' o=>CQ (St.all h') d4 bs) λd5 z=>AU ?_;cases z;exact AX O
  refine AU ?_;obtain⟨d6,A,E⟩:=bd E;refine AW 6 61 (.bool d6) ?_ ?_
  ·cases bt:bq
   ·have A:=Gw bt A;cases A;exact BD O O
   have A:=Gv bt A;have d7:=H.fl JL;have d8:=d7.i;have d9:=H.fl JM;have ea:=d9.i;refine AU ?_;refine A5 A O O O XN O (λeb bu h' o=>Kd (St.all h') d8 ea bu) λeb A=>AU ?_;cases A;exact AX O
  refine AU ?_;exact BG (kp [2] O) λeh ec ei=>RT
 refine AU ?_;refine Gx (λa w=>∃(U:Bool),IV B S2 h3 (152,[]) a w [(4,vI D.G),(1,q1),(72,.bool U)] (L) λ_ _=>Dg N D U=some r) ?_ ?_
 ·refine AG O E (λbv E=>?_) (λbv E=>?_)
  ·refine AU ?_;refine WF.nil (λaa ww hf hw=>?_);exact⟨(decide (D.G=1)),_,_,hf.sub (kp [4,1,72] O),hw,C,(CG.refl S2 h3),E⟩
  refine AU ?_;refine WF.nil (λaa ww hf hw=>?_);exact⟨(decide (D.G=5)),_,_,hf.sub (kp [4,1,72] O),hw,C,(CG.refl S2 h3),E⟩
 rintro aa ww ⟨U,ej,ek,hf,hw,F,J,E⟩;refine AK ?_ hf hw;clear hf hw ww aa;rw[Dg] at E;refine AG O E (λbw E=>?_) (λbw E=>?_)
 ·refine AU ?_;refine BY (.inl O) F ?_;have V:=H.mono J;have bx:=V.fl NN;have bz:=bx.i;refine AU ?_;refine A5 E O O O JR O (λX aq h' o=>CQ (St.all h') bz aq) λX E=>AU ?_;obtain⟨Y,b,E⟩:=bd E;refine AW 4 82 (.bool Y) ?_ ?_
  ·cases Z:X
   ·have b:=Gw Z b;cases b;exact BD O O
   have b:=Gv Z b;have b0:=V.fl BL.f_Num;have b1:=b0.i;refine AU ?_;refine A5 b O O O JR O (λb2 ar h' o=>CQ (St.all h') b1 ar) λb2 b=>AU ?_;cases b;exact AX O
  refine AU ?_;obtain⟨b3,c,E⟩:=bd E;refine AW 4 87 (.bool b3) ?_ ?_
  ·cases ab:Y
   ·have c:=Gw ab c;cases c;exact BD O O
   have c:=Gv ab c;have b4:=V.fl BL.f_Den;have b5:=b4.i;refine AU ?_;refine A5 c O O O HB O (λb6 au h' o=>CI (St.all h') b5 (iq (n:=1) O) (iq (n:=1125899906842624) O) au) λb6 c=>AU ?_;cases c;exact AX O
  refine AU ?_;exact BG (kp [2] O) λel ed em=>RT
 refine AU ?_;refine AG O E (λb7 E=>?_) (λb7 E=>?_)
 ·refine AU ?_;refine BY (.inl O) F ?_;have K:=H.mono J;have b8:=K.fl BL.f_Num;have b9:=b8.i;refine AU ?_;refine A5 E O O O JR O (λac av h' o=>CQ (St.all h') b9 av) λac E=>AU ?_;obtain⟨ad,d,E⟩:=bd E;refine AW 4 97 (.bool ad) ?_ ?_
  ·cases ae:ac
   ·have d:=Gw ae d;cases d;exact BD O O
   have d:=Gv ae d;have ca:=K.fl Fb;have cb:=ca.i;refine AU ?_;refine A5 d O O O HB O (λcc aw h' o=>CI (St.all h') cb (iq (n:=1) O) (iq (n:=64) O) aw) λcc d=>AU ?_;cases d;exact AX O
  refine AU ?_;obtain⟨cd,g,E⟩:=bd E;refine AW 6 104 (.bool cd) ?_ ?_
  ·cases af:ad
   ·have g:=Gw af g;cases g;exact BD O O
   have g:=Gv af g;have ce:=K.fl KI;have cf:=ce.i;have cg:=K.fl Fb;have ch:=cg.i;refine AU ?_;refine A5 g O O O HB O (λci ax h' o=>CI (St.all h') cf (iq (n:=0) O) ch ax) λci g=>AU ?_;cases g;exact AX O
  refine AU ?_;exact BG (kp [2] O) λen ee eo=>RT
 refine AU ?_;refine AG O E (λcj E=>?_) (λcj E=>?_)
 ·refine AU ?_;refine BY (.inl O) F ?_;have M:=H.mono J;have ck:=M.fl BL.f_Num;have cl:=ck.i;refine AU ?_;refine A5 E O O O JR O (λag ay h' o=>CQ (St.all h') cl ay) λag E=>AU ?_;obtain⟨ah,j,E⟩:=bd E;refine AW 4 114 (.bool ah) ?_ ?_
  ·cases ai:ag
   ·have j:=Gw ai j;cases j;exact BD O O
   have j:=Gv ai j;have cm:=M.fl BL.f_Den;have cn:=cm.i;refine AU ?_;refine A5 j O O O HB O (λco az h' o=>CI (St.all h') cn (iq (n:=1) O) (iq (n:=1125899906842624) O) az) λco j=>AU ?_;cases j;exact AX O
  refine AU ?_;obtain⟨aj,k,E⟩:=bd E;refine AW 4 119 (.bool aj) ?_ ?_
  ·cases ak:ah
   ·have k:=Gw ak k;cases k;exact BD O O
   have k:=Gv ak k;have cp:=M.fl P3;have cq:=cp.i;refine AU ?_;refine A5 k O O O JR O (λcr a0 h' o=>CQ (St.all h') cq a0) λcr k=>AU ?_;cases k;exact AX O
  refine AU ?_;obtain⟨cs,l,E⟩:=bd E;refine AW 4 124 (.bool cs) ?_ ?_
  ·cases al:aj
   ·have l:=Gw al l;cases l;exact BD O O
   have l:=Gv al l;have ct:=M.fl P4;have cu:=ct.i;refine AU ?_;refine A5 l O O O JR O (λcv a1 h' o=>CQ (St.all h') cu a1) λcv l=>AU ?_;cases l;exact AX O
  refine AU ?_;exact BG (kp [2] O) λep ef eq=>RT
 refine AU ?_;refine BE (AU ?_);refine BY (.inl O) F ?_;have Q:=H.mono J;have cw:=Q.fl BL.f_Num;have cx:=cw.i;refine AU ?_;refine A5 E O O O JR O (λam a2 h' o=>CQ (St.all h') cx a2) λam E=>AU ?_;obtain⟨an,m,E⟩:=bd E;refine AW 4 139 (.bool an) ?_ ?_
 ·cases ao:am
  ·have m:=Gw ao m;cases m;exact BD O O
  have m:=Gv ao m;have cy:=Q.fl BL.f_Den;have cz:=cy.i;refine AU ?_;refine A5 m O O O HB O (λc0 a3 h' o=>CI (St.all h') cz (iq (n:=1) O) (iq (n:=1125899906842624) O) a3) λc0 m=>AU ?_;cases m;exact AX O
 refine AU ?_;obtain⟨c1,p,E⟩:=bd E;refine AW 6 146 (.bool c1) ?_ ?_
 ·cases ap:an
  ·have p:=Gw ap p;cases p;exact BD O O
  have p:=Gv ap p;have c2:=Q.fl JL;have c3:=c2.i;have c4:=Q.fl JM;have c5:=c4.i;refine AU ?_;refine A5 p O O O XN O (λc6 a4 h' o=>Kd (St.all h') c3 c5 a4) λc6 p=>AU ?_;cases p;exact AX O
 refine AU ?_;exact BG (kp [2] O) λer eg es=>RT
def OY (l:St S L h) {a:Value}{c:BL}(b:Rd S h B7 a c) {r:Bool}(E:FQ N c=some r):
 B6 prog 237 #[a] S h (λv S' h'=>v= .bool r∧St S' (L) h'):=by
 refine A7 112 func237 O ntmps237 O λB=>?_;rw[FQ] at E;refine AU ?_;refine Bz O b CE O l λn S2 o m p q=>AU ?_;refine AG O E (λd E=>?_) (λd E=>?_)
 ·exact RT
 refine AU ?_;refine AG O E (λg E=>?_) (λg E=>?_)
 ·exact RT
 refine AU ?_;refine AG O E (λi E=>?_) (λi E=>?_)
 ·exact RT
 refine AU ?_;refine AG O E (λj E=>?_) (λj E=>?_)
 ·exact RT
 refine AU ?_;refine AG O E (λk E=>?_) (λk E=>?_)
 ·exact RT
 exact RT
def PG (hs:St S L h) {j:Value}{k:AE}(u:Rd S h By j k) {r:Bool}(E:Ev N k=some r):
 B6 prog 178 #[j] S h (λv S' h'=>v= .bool r∧St S' (L) h'):=by
 refine A7 51 func178 O ntmps178 O λB=>?_;rw[Ev] at E;refine AU ?_;refine Bz O u CE O hs λq1 S2 h3 ai e5 k6=>?_;have k8:=k6.fl Gn;obtain⟨v9,_,aj⟩:=k8.ll;refine AU ?_;refine AN (λa w=>IV B S2 h3 (51,[]) a w [] (L) λ_ _=>DM N=some r) ?_ ?_
 ·refine AY (λn1=>λa w=>∃(m:Int),IV B S2 h3 (51,[]) a w [(7,vI (↑k.F.length:Int)),(6,v9),(1,q1),(8,vI m)] (L) λ_ _=>AA m∧Cd N k (DM N) n1 m=some r) N ?_ ?_ ?_
  ·intro y z p q;exact⟨0,_,_,p.sub (kp [7,6,1,8] O),q,ai,(CG.refl S2 h3),(iq (n:=0) O),E⟩
  ·rintro y z ⟨_,_,_,_,_,_,_,_,E⟩;rw[Cd] at E;cases E
  rintro n1 y z ⟨m,ba,bb,p,q,x,D,bc,E⟩;refine AK ?_ p q;clear p q z y;rw[Cd] at E;refine AU ?_;refine AG O E (λak E=>?_) (λak E=>?_)
  ·refine AU ?_;refine A3 (AU ?_);have am:=aj.mono' D;refine A4 E O O am Om.1 O λbe E bf an=>?_;obtain⟨bg,_,ao⟩:=an.lv;refine AU ?_;refine CP Oe O x λbh bi G ap=>?_;have A:=ao.mono ap;obtain⟨bj,bk,bl,rfl,bm,aq,H,ar,bn,bo,bp,bq,br,bs,bt,bu,bv,bw,bx,bz,b0,au⟩:=B7.ex A;refine DU O O O ON Oj.1 O G .head O λb1 l I=>AU ?_;refine BY (.inl O) l (AU ?_);refine A5 E O O O HB O (λJ K h' o=>CI (St.all h') aq (iq (n:=0) O) (iq (n:=5) O) K) λJ E=>AU ?_;obtain⟨M,b,E⟩:=bd E;refine AW 8 24 (.bool M) ?_ ?_
   ·cases Q:(!J)
    ·have b:=Gw Q b;have av:=k6.nw;have aw:=av.fl BZ;obtain⟨b2,_,ax⟩:=aw.ll;have ay:=ax.le;refine AU ?_;refine A5 b O O O QL O (λaz U h' o=>HY (St.all h') H (KU ay) U) λaz b=>AU ?_;cases b;exact AX O
    have b:=Gv Q b;cases b;exact BD O O
   refine AU ?_;obtain⟨V,c,E⟩:=bd E;refine AW 8 33 (.bool V) ?_ ?_
   ·cases W:M
    ·have c:=Gw W c;have a0:=k6.nw;obtain⟨b3,_,a1⟩:=a0.lv;refine AU ?_;refine A5 c O O O eI O (λa2 X h' o=>Ng (St.all h') (a1.mono (o.all l.1)) H ar X) λa2 c=>AU ?_;cases c;exact AX O
    have c:=Gv W c;cases c;exact BD O O
   refine AU ?_;obtain⟨Y,d,E⟩:=bd E;refine AW 5 39 (.bool Y) ?_ ?_
   ·cases Z:V
    ·have d:=Gw Z d;refine AU ?_;refine A5 d O O O HB O (λa3 ab h' o=>CI (St.all h') au (iq (n:=0) O) (iq (n:=240) O) ab) λa3 d=>AU ?_;cases d;exact AX O
    have d:=Gv Z d;cases d;exact BD O O
   refine AU ?_;obtain⟨ac,g,E⟩:=bd E;refine AW 4 44 (.bool ac) ?_ ?_
   ·cases ad:Y
    ·have g:=Gw ad g;refine AU ?_;have s:=A.mono I;obtain⟨b4,ae,g⟩:=bd g;refine K3 O O O qF O (λh' o=>Oc (St.all h') (s.mono (o.all l.1)) ae) (AU ?_);cases g;exact AX O
    have g:=Gv ad g;cases g;exact BD O O
   refine AU ?_;obtain⟨a4,i,E⟩:=bd E;refine AW 4 49 (.bool a4) ?_ ?_
   ·cases af:ac
    ·have i:=Gw af i;refine AU ?_;have t:=A.mono I;obtain⟨b5,ag,i⟩:=bd i;refine K3 O O O qE O (λh' o=>OY (St.all h') (t.mono (o.all l.1)) ag) (AU ?_);cases i;exact AX O
    have i:=Gv af i;cases i;exact BD O O
   refine BG (kp [49,7,6,1,8] O) λb6 ah b7=>AG O E (λa5 E=>?_) (λa5 E=>?_)
   ·exact RT
   refine AU ?_;refine BE (AU ?_);refine WF.nil (λy z p q=>?_);have C:=ah.drop .head;exact⟨(A9 (m+1)),_,_,p.sub (kp [7,6,1,8] O),q,C,EX,(BF _),E⟩
  refine A8 O (λy z p q=>?_);exact⟨_,_,p.sub Nv,q,x,D,E⟩
 rintro y z ⟨a7,a8,p,q,a6,a9,E⟩;refine AK ?_ p q;clear p q z y;rw[DM] at E;exact RT
def PH (l:St S L h) {c:Value}{i:AE}(d:Rd S h By c i) {a:Int}(g:AA a) {b:Int}(j:AA b) {r:Bool}(E:IW N i a b=some r):
 B6 prog 238 #[c,vI a,vI b] S h (λv S' h'=>v= .bool r∧St S' (L) h'):=by
 refine A7 27 func238 O ntmps238 O λB=>?_;rw[IW] at E;refine AU ?_;refine Bz O d CE O l λw S2 x m y n=>AU ?_;refine AG O E (λo E=>?_) (λo E=>?_)
 ·exact RT
 have p:=n.fl BZ;obtain⟨q,_,k⟩:=p.ll;refine AU ?_;exact A4 E O O k Kk.1 O λs E t u=>RT
def N6 (hs:St S L h) {m:Value}{d:AE}(u:Rd S h By m d) {r:Bool}(E:GT N d=some r):
 B6 prog 179 #[m] S h (λv S' h'=>v= .bool r∧St S' (L) h'):=by
 refine A7 60 func179 O ntmps179 O λB=>?_;rw[GT] at E;refine AU ?_;refine Bz O u CE O hs λq1 S2 h3 aq e5 k6=>?_;have k8:=k6.fl BZ;obtain⟨v9,_,ar⟩:=k8.ll;refine AU ?_;refine AN (λa w=>IV B S2 h3 (60,[]) a w [(1,q1)] (L) λ_ _=>Cq N d=some r) ?_ ?_
 ·refine AY (λn1=>λa w=>∃(p:Int),IV B S2 h3 (60,[]) a w [(10,vI (↑d.A.length:Int)),(9,v9),(1,q1),(11,vI p)] (L) λ_ _=>AA p∧Cp N d (Cq N d) n1 p=some r) N ?_ ?_ ?_
  ·intro k l g j;exact⟨0,_,_,g.sub (kp [10,9,1,11] O),j,aq,(CG.refl S2 h3),(iq (n:=0) O),E⟩
  ·rintro k l ⟨_,_,_,_,_,_,_,_,E⟩;rw[Cp] at E;cases E
  rintro n1 k l ⟨p,ch,ci,g,j,x,U,cj,E⟩;refine AK ?_ g j;clear g j l k;rw[Cp] at E;refine AU ?_;refine AG O E (λau E=>?_) (λau E=>?_)
  ·refine AU ?_;refine A3 (AU ?_);have av:=ar.mono' U;refine A4 E O O av Kk.1 O λck E cl aw=>?_;obtain⟨cm,_,ax⟩:=aw.lv;refine AU ?_;refine CP MS O x λcn co V ay=>?_;have az:=ax.mono ay;obtain⟨cp,cq,cr,rfl,cs,ct,a0,cu,cv,cw,cx,cy,a1,cz,c0,c1⟩:=CJ.ex az;refine DU O O O ON MW.1 O V .head O λc2 y c3=>AU ?_;refine BY (.inl O) y ?_;have a2:=k6.nw;obtain⟨c4,_,a3⟩:=a2.lv;refine AU ?_;refine A5 E O O O eH O (λa4 W h' o=>PH (St.all h') (a3.mono (o.all y.1)) a0 a1 W) λa4 E=>AU ?_;refine BG (kp [21,10,9,1,11] O) λc5 X c6=>AG O E (λa5 E=>?_) (λa5 E=>?_)
   ·exact RT
   refine AU ?_;refine BE (AU ?_);refine WF.nil (λk l g j=>?_);have Y:=X.drop .head;exact⟨(A9 (p+1)),_,_,g.sub (kp [10,9,1,11] O),j,Y,EX,(BF _),E⟩
  refine A8 O (λk l g j=>?_);exact⟨_,_,g.sub (kp [1] O),j,x,U,E⟩
 rintro k l ⟨I,J,g,j,Z,a6,E⟩;refine AK ?_ g j;clear g j l k;rw[Cq] at E;have ab:=k6.mono a6;have a7:=ab.fl Gn;obtain⟨a8,_,a9⟩:=a7.ll;refine AU ?_;refine AN (λa w=>IV B I J (60,[]) a w [] (L) λ_ _=>Du N=some r) ?_ ?_
 ·refine AY (λn3=>λa w=>∃(q:Int),IV B I J (60,[]) a w [(25,vI (↑d.F.length:Int)),(24,a8),(1,q1),(26,vI q)] (L) λ_ _=>AA q∧Co N d (Du N) n3 q=some r) N ?_ ?_ ?_
  ·intro k l g j;exact⟨0,_,_,g.sub (kp [25,24,1,26] O),j,Z,(CG.refl I J),(iq (n:=0) O),E⟩
  ·rintro k l ⟨_,_,_,_,_,_,_,_,E⟩;rw[Co] at E;cases E
  rintro n3 k l ⟨q,c7,c8,g,j,z,ac,c9,E⟩;refine AK ?_ g j;clear g j l k;rw[Co] at E;refine AU ?_;refine AG O E (λba E=>?_) (λba E=>?_)
  ·refine AU ?_;refine A3 (AU ?_);have bb:=a9.mono' ac;refine A4 E O O bb Om.1 O λbc E da be=>?_;obtain⟨db,_,bf⟩:=be.lv;refine AU ?_;refine CP Oe O z λdc dd ad bg=>?_;have bh:=bf.mono bg;obtain⟨bk,bl,bm,rfl,de,df,dg,bi,bn,bo,bp,bq,br,bs,bt,bu,bv,bw,bx,bz,b0,b1⟩:=B7.ex bh;refine DU O O O ON Oj.1 O ad .head O λb2 s b3=>?_;have t:=ab.nw;have ae:=t.fl BZ;obtain⟨b4,_,af⟩:=ae.ll;refine AU ?_;refine A4 E O O af Kk.1 O λb5 E b6 ag=>?_;have ah:=ag.fl OL;have ai:=ah.i;refine AU ?_;refine BY (.inl O) s ?_;obtain⟨b7,_,aj⟩:=t.lv;refine AU ?_;refine A5 E O O O eH O (λC K h' o=>PH (St.all h') (aj.mono (o.all s.1)) ai bi K) λC E=>AU ?_;obtain⟨ak,b,E⟩:=bd E;refine AW 15 58 (.bool ak) ?_ ?_
   ·cases D:(!C)
    ·have b:=Gw D b;refine AU ?_;obtain⟨am,c,b⟩:=bd b;refine AW 10 57 (.bool am) ?_ ?_
     ·cases H:(decide (bc.G=4))
      ·have c:=Gw H c;cases c;exact BD O O
      have c:=Gv H c;have an:=t.fl BZ;obtain⟨b8,_,ao⟩:=an.ll;refine AU ?_;refine A4 c O O ao Kk.1 O λb9 c ca cb=>AU ?_;cases c;exact AX O
     refine AU ?_;cases b;exact AX O
    have b:=Gv D b;cases b;exact BD O O
   refine BG (kp [58,25,24,1,26] O) λcc M cd=>AG O E (λap E=>?_) (λap E=>?_)
   ·exact RT
   refine AU ?_;refine BE (AU ?_);refine WF.nil (λk l g j=>?_);have Q:=M.drop .head;exact⟨(A9 (q+1)),_,_,g.sub (kp [25,24,1,26] O),j,Q,EX,(BF _),E⟩
  refine A8 O (λk l g j=>?_);exact⟨_,_,g.sub Nv,j,z,ac,E⟩
 rintro k l ⟨ce,cf,g,j,bj,cg,E⟩;refine AK ?_ g j;clear g j l k;rw[Du] at E;exact RT
def IM (F:St S L h) {b:Int}(k:AA b) {c:Int}(l:AA c) {r:Int}(E:Fl N b c=some r):
 B6 prog 239 #[vI b,vI c] S h (λv S' h'=>v=vI r∧AA r∧St S' (L) h'):=by
 refine A7 34 func239 O ntmps239 O λB=>?_;rw[Fl] at E;refine AU ?_;refine AG O E (λG E=>?_) (λG E=>?_)
 ·exact RT
 refine AU ?_;refine AG O E (λH E=>?_) (λH E=>?_)
 ·exact RT
 refine AU ?_;refine BY (.inl O) F (AU ?_);refine Dv O MC If O ?_;obtain⟨s,t,E⟩:=bd E;refine H6 (v:= .tuple #[.int .u64 s.1,.int .u64 s.2]) (Ψ:=IntKind.has .u64 s.1∧IntKind.has .u64 s.2) O O O eE O (λh' o=>(L7 (St.all h') (Ct _ _) (show IntKind.has .u64 1099511627776 by first|assumption|exact⟨by decide,by decide⟩) t).mono λ_ _ _ _ p=>⟨p.1,⟨p.2.1,p.2.2.1⟩⟩) λI=>?_;obtain⟨J,K⟩:=I;refine AU ?_;refine BG (kp [6,5,1] O) λY u Z=>AU ?_;refine BY (.inl O) u (AU ?_);refine Dv O MC If O ?_;obtain⟨d,q,E⟩:=bd E;refine H6 (v:= .tuple #[.int .u64 d.1,.int .u64 d.2]) (Ψ:=IntKind.has .u64 d.1∧IntKind.has .u64 d.2) O O O eD O (λh' o=>(L8 (St.all h') J K (Ct _ _) q).mono λ_ _ _ _ p=>⟨p.1,⟨p.2.1,p.2.2.1⟩⟩) λx=>?_;obtain⟨y,M⟩:=x;refine AU ?_;refine BG (kp [8,7] O) λj i Q=>AU ?_;refine Gx (λa w=>∃(g:Int),IV B S j (34,[]) a w [(7,.int .u64 g)] (L) λ_ _=>IntKind.has .u64 g∧Ju N g=some r) ?_ ?_
 ·refine AG O E (λz E=>?_) (λz E=>?_)
  ·refine AU ?_;refine WF.nil (λA C m n=>?_);exact⟨(IntKind.wrap .u64 (d.1+1)),_,_,m.sub (kp [7] O),n,i,(CG.refl S j),(Ct _ _),E⟩
  refine AU ?_;refine WF.nil (λA C m n=>?_);exact⟨d.1,_,_,m.sub (kp [7] O),n,i,(CG.refl S j),y,E⟩
 rintro A C ⟨g,U,V,m,n,D,W,X,E⟩;refine AK ?_ m n;clear m n C A;rw[Ju] at E;refine AU ?_;exact Dv O If MC O (RT)
def QQ (hs:St S L h) {c:Value}{b:(List (List BU))}(i:Sl S h (A6.sl CA) c b) {r:Int}(E:Iw N b=some r):
 B6 prog 240 #[c] S h (λv S' h'=>v=vI r∧AA r∧St S' (L) h'):=by
 refine A7 48 func240 O ntmps240 O λB=>?_;rw[Iw] at E;refine AU ?_;refine AN (λa w=>∃(J:Int),IV B S h (48,[]) a w [(3,vI J)] (L) λ_ _=>AA J∧Dq N J=some r) ?_ ?_
 ·refine AY (λK=>λa w=>∃(A:Int) (j:Int),IV B S h (48,[]) a w [(8,vI (↑b.length:Int)),(7,c),(3,vI A),(9,vI j)] (L) λ_ _=>AA A∧AA j∧C5 N b (Dq N) K A j=some r) N ?_ ?_ ?_
  ·intro k l d g;exact⟨0,0,_,_,d.sub (kp [8,7,3,9] O),g,hs,(CG.refl S h),(iq (n:=0) O),(iq (n:=0) O),E⟩
  ·rintro k l ⟨_,_,_,_,_,_,_,_,_,_,E⟩;rw[C5] at E;cases E
  rintro K k l ⟨A,j,y,z,d,g,u,C,r9,ah,E⟩;refine AK ?_ d g;clear d g l k;rw[C5] at E;refine AU ?_;refine AG O E (λM E=>?_) (λM E=>?_)
  ·refine AU ?_;refine AN (λa w=>∃(q:Int),IV B y z (48,[]) a w [(8,vI (↑b.length:Int)),(7,c),(9,vI j),(3,vI q)] (L) λ_ _=>AA q∧FP N j (C5 N b (Dq N) K) q=some r) ?_ ?_
   ·refine AU ?_;have Q:=i.mono' C;refine A4 E O O Q nZ.1 O λU E ai V=>?_;obtain⟨W,_,s⟩:=V.ll;refine AU ?_;refine A3 (AY (λn3=>λa w=>∃(m:Int) (t:Int),IV B y z (48,[]) a w [(5,W),(8,vI (↑b.length:Int)),(7,c),(9,vI j),(3,vI m),(6,vI t)] (L) λ_ _=>AA m∧AA t∧ES N U (FP N j (C5 N b (Dq N) K)) n3 m t=some r) N ?_ ?_ ?_)
    ·intro k l d g;exact⟨A,1,_,_,d.sub (kp [5,8,7,9,3,6] O),g,u,(CG.refl y z),r9,(iq (n:=1) O),E⟩
    ·rintro k l ⟨_,_,_,_,_,_,_,_,_,_,E⟩;rw[ES] at E;cases E
    rintro n3 k l ⟨m,t,aj,ak,d,g,x,p,D,al,E⟩;refine AK ?_ d g;clear d g l k;rw[ES] at E;have am:=s.mono' p;refine AU ?_;refine AG O E (λX E=>?_) (λX E=>?_)
    ·refine AU ?_;refine A3 (BY (.inr ⟨mo,by kernel_rfl⟩) x (AU ?_));have Y:=s.mono' p;refine A4 E O O Y M4.1 O λan E ao ap=>AU ?_;have Z:=s.mono' p;refine A4 E O O Z M4.1 O λaq E ar au=>AU ?_;have ab:=s.mono' p;refine A4 E O O ab M4.1 O λav E aw ax=>AU ?_;have ac:=s.mono' p;refine A4 E O O ac M4.1 O λay E az a0=>AU ?_;refine B4 E O O O Rk O (λF G h' o=>IM (St.all h') (BF _) (BF _) G) λF E ad=>?_;have ae:=ad;refine Td O O O (AU ?_);refine BG (kp [3,5,8,7,9,6] O) λa1 H a2=>BE (AU ?_);refine WF.nil (λk l d g=>?_);exact⟨(max m F),(A9 (t+1)),_,_,d.sub (kp [5,8,7,9,3,6] O),g,H,EX,(Rh D ae),(BF _),E⟩
    refine KH O (WF.nil (λk l d g=>?_));exact⟨m,_,_,d.sub (kp [8,7,9,3] O),g,x,p,D,E⟩
   rintro k l ⟨q,a3,a4,d,g,I,a5,af,E⟩;refine AK ?_ d g;clear d g l k;rw[FP] at E;refine AU ?_;refine WF.nil (λk l d g=>?_);exact⟨q,(A9 (j+1)),_,_,d.sub (kp [8,7,3,9] O),g,I,EX,af,(BF _),E⟩
  refine A8 O (λk l d g=>?_);exact⟨A,_,_,d.sub (kp [3] O),g,u,C,r9,E⟩
 rintro k l ⟨J,a6,a7,d,g,ag,a8,r3,E⟩;refine AK ?_ d g;clear d g l k;rw[Dq] at E;exact RT
end Go.Proofs.YtedgiljmffngoaaGreat
