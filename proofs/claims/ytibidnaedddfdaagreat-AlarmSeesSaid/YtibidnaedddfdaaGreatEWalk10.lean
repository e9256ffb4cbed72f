import Derived.Test.YtibidnaedddfdaaGreatEFacts
import Derived.Test.YtibidnaedddfdaaGreatEForms
import Derived.Test.YtibidnaedddfdaaGreatEInsert
import Derived.Test.YtibidnaedddfdaaGreatEWalk2
import Derived.Test.YtibidnaedddfdaaGreatEWalk3
import Derived.Test.YtibidnaedddfdaaGreatEWalk8
namespace Go.Proofs.YtibidnaedddfdaaGreat
set_option linter.all false
open Go.RowKit
open Go.Proofs.Tryz
set_option maxRecDepth 10000
set_option maxHeartbeats 2000000
variable {N:Nat}{S:Nat→Prop}{L:List HP}{h:AX}
def LS (n:St S L h) {a:Int}(d:AA a) {b:Int}(g:AA b) {r:Bool}(E:IJ N a b=some r):
 CD prog 90 #[vI a,vI b] S h (λv S' h'=>v= .bool r∧St S' (L) h'):=by
 refine A7 19 func90 O ntmps90 O λB=>?_;rw[IJ] at E;refine AU ?_;refine WF.rc (.inl O) n (AU ?_);refine BC E O O O Lv O (λk i h' o=>Co (St.all h') d i) λk E=>AU ?_;obtain⟨p,c,E⟩:=bd E;refine A6 3 10 (.bool p) ?_ ?_
 ·cases l:k
  ·have c:=H8 l c;cases c;exact BO O O
  have c:=H7 l c;refine AU ?_;refine BC c O O O Lv O (λq j h' o=>Co (St.all h') g j) λq c=>AU ?_;cases c;exact A5 O
 refine AU ?_;exact BD (kp [4] O) λt m s=>RT
def Im (i:St S L h) {b:Int}(c:AA b) {a:Int}(d:AA a) {r:Bool}(E:Gd N b a=some r):
 CD prog 92 #[vI b,vI a] S h (λv S' h'=>v= .bool r∧St S' (L) h'):=by
 refine A7 9 func92 O ntmps92 O λB=>?_;rw[Gd] at E;refine AU ?_;refine WF.rc (.inl O) i (AU ?_);refine BC E O O O KD O (λj g h' o=>Ch (St.all h') c (iq (n:=0) O) (B1 _) g) λj E=>AU ?_;exact BD (kp [4] O) λl k m=>RT
def Ny (w:St S L h) {d:Value}{j:AF}(i:Rd S h B7 d j) {a:Int}(k:AA a) {b:Int}(g:AA b) {r:Bool}(E:KC N j a b=some r):
 CD prog 91 #[d,vI a,vI b] S h (λv S' h'=>v= .bool r∧St S' (L) h'):=by
 refine A7 21 func91 O ntmps91 O λB=>?_;rw[KC] at E;refine AU ?_;refine AT O i CE O w λD F G m H x=>AU ?_;refine WF.rc (.inl O) m (AU ?_);obtain⟨y,c,E⟩:=bd E;refine A6 11 20 (.bool y) ?_ ?_
 ·cases t:(decide (b=(-1)))
  ·have c:=H8 t c;have n:=x.fl Ck;obtain⟨z,_,p⟩:=n.ll;have q:=p.le;refine AU ?_;refine BC c O O O TN O (λs l h' o=>Im (St.all h') g (M0 q) l) λs c=>AU ?_;cases c;exact A5 O
  have c:=H7 t c;cases c;exact BO O O
 refine AU ?_;exact BD (kp [6] O) λA u C=>RT
def Ov (hs:St S L h) {H:Value}{b:AF}(ab:Rd S h B7 H b) {r:Bool}(E:J1 N b=some r):
 CD prog 38 #[H] S h (λv S' h'=>v= .bool r∧St S' (L) h'):=by
 refine A7 122 func38 O ntmps38 O λB=>?_;rw[J1] at E;refine AU ?_;refine AT O ab CE O hs λq1 S2 h3 ck e5 k6=>?_;have k8:=k6.fl Ck;obtain⟨v9,_,cl⟩:=k8.ll;refine AU ?_;refine AQ (λa w=>∃(ac:Int),IV B S2 h3 (122,[]) a w [(3,vI ac)] (L) λ_ _=>AA ac∧Cg N ac=some r) ?_ ?_
 ·refine BJ (λn1=>λa w=>∃(I:Int) (k:Int),IV B S2 h3 (122,[]) a w [(13,vI (↑b.E.length:Int)),(12,v9),(1,q1),(3,vI I),(14,vI k)] (L) λ_ _=>AA I∧AA k∧CJ N b (Cg N) n1 I k=some r) N ?_ ?_ ?_
  ·intro x y d g;exact⟨0,0,_,_,d.sub (kp [13,12,1,3,14] O),g,ck,(Cc.refl S2 h3),(iq (n:=0) O),(iq (n:=0) O),E⟩
  ·rintro x y ⟨_,_,_,_,_,_,_,_,_,_,E⟩;rw[CJ] at E;cases E
  rintro n1 x y ⟨I,k,ad,cm,d,g,af,a1,a2,cn,E⟩;refine AI ?_ d g;clear d g y x;rw[CJ] at E;refine AU ?_;refine AE O E (λco E=>?_) (λco E=>?_)
  ·refine AU ?_;refine AQ (λa w=>∃(J:Int),IV B ad cm (122,[]) a w [(13,vI (↑b.E.length:Int)),(12,v9),(1,q1),(14,vI k),(3,vI J)] (L) λ_ _=>AA J∧DF N k (CJ N b (Cg N) n1) J=some r) ?_ ?_
   ·refine AU ?_;have cp:=cl.mono' a1;refine AN E O O cp sl_23.1 O λc E d8 cq=>?_;obtain⟨d9,_,cr⟩:=cq.lv;refine AU ?_;refine BZ Qh O af λae ea a3 cs=>AU ?_;have ct:=cr.mono cs;obtain⟨a4,ak,am,rfl,eb,cu,cv,cw,cx,a5,cy,cz,c0,c1,c2,c3⟩:=B4.ex ct;refine Hv O O O ON ty_57.1 O a3 .head O λec K a6=>AU ?_;refine WF.rc (.inl O) K (AU ?_);refine BC E O O O KD O (λa7 a8 h' o=>Ch (St.all h') cu (iq (n:=0) O) (iq (n:=3) O) a8) λa7 E=>AU ?_;obtain⟨a9,l,E⟩:=bd E;refine A6 5 28 (.bool a9) ?_ ?_
    ·cases ba:(!a7)
     ·have l:=H8 ba l;refine AU ?_;refine BC l O O O KD O (λc4 bb h' o=>Ch (St.all h') cv (iq (n:=0) O) (iq (n:=2) O) bb) λc4 l=>AU ?_;cases l;exact A5 O
     have l:=H7 ba l;cases l;exact BO O O
    refine AU ?_;obtain⟨bc,m,E⟩:=bd E;refine A6 5 34 (.bool bc) ?_ ?_
    ·cases be:a9
     ·have m:=H8 be m;refine AU ?_;refine BC m O O O KD O (λc5 bf h' o=>Ch (St.all h') c1 (iq (n:=0) O) (iq (n:=240) O) bf) λc5 m=>AU ?_;cases m;exact A5 O
     have m:=H7 be m;cases m;exact BO O O
    refine AU ?_;obtain⟨bg,p,E⟩:=bd E;refine A6 5 40 (.bool bg) ?_ ?_
    ·cases bh:bc
     ·have p:=H8 bh p;refine AU ?_;refine BC p O O O Lv O (λc6 bi h' o=>Co (St.all h') cw bi) λc6 p=>AU ?_;cases p;exact A5 O
     have p:=H7 bh p;cases p;exact BO O O
    refine AU ?_;obtain⟨bj,q,E⟩:=bd E;refine A6 5 46 (.bool bj) ?_ ?_
    ·cases bk:bg
     ·have q:=H8 bk q;refine AU ?_;refine BC q O O O Lv O (λc7 bl h' o=>Co (St.all h') c2 bl) λc7 q=>AU ?_;cases q;exact A5 O
     have q:=H7 bk q;cases q;exact BO O O
    refine AU ?_;obtain⟨bm,s,E⟩:=bd E;refine A6 5 52 (.bool bm) ?_ ?_
    ·cases bn:bj
     ·have s:=H8 bn s;refine AU ?_;have c8:=cx.mono' a6;refine BC s O O O Q6 O (λc9 bo h' o=>HH (St.all h') (c8.mono' (o.all K.1)) bo) λc9 s=>AU ?_;cases s;exact A5 O
     have s:=H7 bn s;cases s;exact BO O O
    have ed:=a5.mono' a6;have ee:=k6.nw;refine AU ?_;obtain⟨bp,t,E⟩:=bd E;refine A6 7 69 (.bool bp) ?_ ?_
    ·cases bq:(bm||(decide ((↑c.Bi.length:Int)≠(↑b.Aq.length:Int))))
     ·have t:=H8 bq t;refine AU ?_;refine BC t O O O aF O (λda br h' o=>LS (St.all h') cy cz br) λda t=>AU ?_;cases t;exact A5 O
     have t:=H7 bq t;cases t;exact BO O O
    refine AU ?_;obtain⟨db,u,E⟩:=bd E;refine A6 7 77 (.bool db) ?_ ?_
    ·cases bs:bp
     ·have u:=H8 bs u;have dc:=k6.nw;obtain⟨df,_,bt⟩:=dc.lv;refine AU ?_;refine BC u O O O gO O (λbu an h' o=>Ny (St.all h') (bt.mono (o.all K.1)) cn c0 an) λbu u=>AU ?_;cases u;exact A5 O
     have u:=H7 bs u;cases u;exact BO O O
    refine BD (kp [77,5,13,12,1,3,14] O) λU ao dg=>AE O E (λbv E=>?_) (λbv E=>?_)
    ·exact RT
    have bw:=a5.nw;refine AU ?_;refine AQ (λa w=>∃(z:Int),IV B ad U (122,[]) a w [(5,vP ae 0),(13,vI (↑b.E.length:Int)),(12,v9),(1,q1),(14,vI k),(3,vI z)] (Bx ae 57 [.string c.M,vI c.F,vI c.Aw,vI c.Ai,a4,ak,vI c.V,vI c.Q,vI c.Ap,vI c.X,vI c.Bh,am]::L) λ_ _=>AA z∧FT N b c (DF N k (CJ N b (Cg N) n1)) z=some r) ?_ ?_
    ·refine BJ (λn4=>λa w=>∃(A:Int) (C:Int),IV B ad U (122,[]) a w [(80,vI (↑c.Bi.length:Int)),(79,ak),(5,vP ae 0),(13,vI (↑b.E.length:Int)),(12,v9),(1,q1),(14,vI k),(3,vI A),(81,vI C)] (Bx ae 57 [.string c.M,vI c.F,vI c.Aw,vI c.Ai,a4,ak,vI c.V,vI c.Q,vI c.Ap,vI c.X,vI c.Bh,am]::L) λ_ _=>AA A∧AA C∧Dz N c (FT N b c (DF N k (CJ N b (Cg N) n1))) n4 A C=some r) N ?_ ?_ ?_
     ·intro x y d g;exact⟨I,0,_,_,d.sub (kp [80,79,5,13,12,1,14,3,81] O),g,ao,(Cc.refl ad U),a2,(iq (n:=0) O),E⟩
     ·rintro x y ⟨_,_,_,_,_,_,_,_,_,_,E⟩;rw[Dz] at E;cases E
     rintro n4 x y ⟨A,C,dh,di,d,g,W,ag,bx,dj,E⟩;refine AI ?_ d g;clear d g y x;rw[Dz] at E;refine AU ?_;refine AE O E (λbz E=>?_) (λbz E=>?_)
     ·refine AU ?_;refine BQ (AU ?_);have b0:=bw.mono' ag;refine AN E O O b0 sl_29.1 O λb1 E dk b2=>?_;have b3:=b2.i;refine AU ?_;refine WF.rc (.inl O) W (AU ?_);refine BC E O O O Lv O (λb4 ap h' o=>Co (St.all h') b3 ap) λb4 E=>AU ?_;refine BD (kp [87,7,80,79,5,13,12,1,14,3,81] O) λdl aq dm=>AE O E (λb5 E=>?_) (λb5 E=>?_)
      ·exact RT
      refine AU ?_;refine B3 (AU ?_);refine WF.nil (λx y d g=>?_);exact⟨(BR (A+b1)),(BR (C+1)),_,_,d.sub (kp [80,79,5,13,12,1,14,3,81] O),g,aq,EX,(B1 _),(B1 _),E⟩
     refine WF.exit O (λx y d g=>?_);exact⟨A,_,_,d.sub (kp [5,13,12,1,14,3] O),g,W,ag,bx,E⟩
    rintro x y ⟨z,ah,ai,d,g,ar,dn,b6,E⟩;refine AI ?_ d g;clear d g y x;rw[FT] at E;have b7:=c3.nw;refine AU ?_;refine BQ (BJ (λn5=>λa w=>∃(D:Int) (G:Int),IV B ah ai (122,[]) a w [(94,vI (↑c.Am.length:Int)),(93,am),(13,vI (↑b.E.length:Int)),(12,v9),(1,q1),(14,vI k),(3,vI z),(8,vI D),(95,vI G)] (L) λ_ _=>AA D∧AA G∧Dy N b c z (DF N k (CJ N b (Cg N) n1)) n5 D G=some r) N ?_ ?_ ?_)
    ·intro x y d g;have au:=ar.drop .head;exact⟨(-1),0,_,_,d.sub (kp [94,93,13,12,1,14,3,8,95] O),g,au,(Cc.refl ah ai),(iq (n:=(-1)) O),(iq (n:=0) O),E⟩
    ·rintro x y ⟨_,_,_,_,_,_,_,_,_,_,E⟩;rw[Dy] at E;cases E
    rintro n5 x y ⟨D,G,dp,dq,d,g,Y,b8,dr,ds,E⟩;refine AI ?_ d g;clear d g y x;rw[Dy] at E;refine AU ?_;refine AE O E (λb9 E=>?_) (λb9 E=>?_)
    ·refine AU ?_;refine BQ (AU ?_);have ca:=b7.mono' b8;refine AN E O O ca sl_55.1 O λZ E dt cb=>?_;obtain⟨du,_,cc⟩:=cb.lv;refine AU ?_;refine BZ iC O Y λdv dw av cd=>?_;have ce:=cc.mono cd;obtain⟨rfl,⟨cf,cg⟩⟩:=MY.ex ce;refine AW O O O O ty_164.1 O av .head O λdx aw dy=>AU ?_;refine WF.rc (.inl O) aw ?_;have dz:=k6.nw;refine AU ?_;obtain⟨ch,j,E⟩:=bd E;refine A6 5 115 (.bool ch) ?_ ?_
     ·cases aj:((decide (Z.Bn≤D))||(decide (b.S≤Z.Bn)))
      ·have j:=H8 aj j;refine AU ?_;refine BC j O O O Lv O (λci ax h' o=>Co (St.all h') cg ax) λci j=>AU ?_;cases j;exact A5 O
      have j:=H7 aj j;cases j;exact BO O O
     refine BD (kp [115,10,94,93,13,12,1,14,3,95] O) λd0 ay d1=>AE O E (λcj E=>?_) (λcj E=>?_)
     ·exact RT
     refine AU ?_;refine B3 (AU ?_);refine WF.nil (λx y d g=>?_);have az:=ay.drop .head;exact⟨Z.Bn,(BR (G+1)),_,_,d.sub (kp [94,93,13,12,1,14,3,8,95] O),g,az,EX,cf,(B1 _),E⟩
    refine LG O (WF.nil (λx y d g=>?_));exact⟨z,_,_,d.sub (kp [13,12,1,14,3] O),g,Y,EX,b6,E⟩
   rintro x y ⟨J,d2,d3,d,g,a0,d4,dd,E⟩;refine AI ?_ d g;clear d g y x;rw[DF] at E;refine AU ?_;refine WF.nil (λx y d g=>?_);exact⟨J,(BR (k+1)),_,_,d.sub (kp [13,12,1,3,14] O),g,a0,EX,dd,(B1 _),E⟩
  refine WF.exit O (λx y d g=>?_);exact⟨I,_,_,d.sub (kp [3] O),g,af,a1,a2,E⟩
 rintro x y ⟨ac,d5,d6,d,g,de,d7,ef,E⟩;refine AI ?_ d g;clear d g y x;rw[Cg] at E;exact RT
def OT (W:St S L h) {b:Value}{d:(List AV)}(k:Sl S h B8 b d) {c:Value}{g:(List AV)}(l:Sl S h B8 c g) {r:Bool}(E:Fe N d g=some r):
 CD prog 141 #[b,c] S h (λv S' h'=>v= .bool r∧St S' (L) h'):=by
 refine A7 66 func141 O ntmps141 O λB=>?_;rw[Fe] at E;refine AU ?_;refine WF.rc (.inl O) W (AU ?_);refine BC E O O O Q6 O (λy1 X h' o=>HH (St.all h') (k.mono' (o.all W.1)) X) λy1 E=>AU ?_;obtain⟨b4,m,E⟩:=bd E;refine A6 4 20 (.bool b4) ?_ ?_
 ·cases c3:(!y1)
  ·have m:=H8 c3 m;refine AU ?_;refine BC m O O O Q6 O (λy5 Y h' o=>HH (St.all h') (l.mono' (o.all W.1)) Y) λy5 m=>AU ?_;cases m;exact A5 O
  have m:=H7 c3 m;cases m;exact BO O O
 refine BD (kp [20,0,1] O) λZ ab e9=>AE O E (λac E=>?_) (λac E=>?_)
 ·exact RT
 have ad:=k.mono' e9;refine AU ?_;refine AQ (λa w=>IV B S Z (66,[]) a w [(0,b),(1,c)] (L) λ_ _=>Dg N d g=some r) ?_ ?_
 ·refine BJ (λn1=>λa w=>∃(s:Int),IV B S Z (66,[]) a w [(22,vI (↑d.length:Int)),(21,b),(0,b),(1,c),(23,vI s)] (L) λ_ _=>AA s∧D8 N d g (Dg N d g) n1 s=some r) N ?_ ?_ ?_
  ·intro p q i j;exact⟨0,_,_,i.sub (kp [22,21,0,1,23] O),j,ab,(Cc.refl S Z),(iq (n:=0) O),E⟩
  ·rintro p q ⟨_,_,_,_,_,_,_,_,E⟩;rw[D8] at E;cases E
  rintro n1 p q ⟨s,a7,a8,i,j,u,D,a9,E⟩;refine AI ?_ i j;clear i j q p;rw[D8] at E;refine AU ?_;refine AE O E (λae E=>?_) (λae E=>?_)
  ·refine AU ?_;refine BQ (AU ?_);have af:=ad.mono' D;refine AN E O O af sl_54.1 O λba E bb ag=>?_;obtain⟨bc,_,ah⟩:=ag.lv;refine AU ?_;refine BZ VK O u λbe bf F ai=>?_;have aj:=ah.mono ai;obtain⟨rfl,⟨ak,bg⟩⟩:=B8.ex aj;refine AW O O O O ty_90.1 O F .head O λbh x bi=>AU ?_;refine WF.rc (.inl O) x (AU ?_);have am:=l.nw;refine BB E O O O Wm O (λan G h' o=>MU (St.all h') (am.mono' (o.all x.1)) ak G) λan E ao=>?_;have bj:=ao;refine AU ?_;refine BD (kp [7,6,22,21,0,1,23] O) λbk H bl=>AU ?_;refine AE O E (λap E=>?_) (λap E=>?_)
   ·exact RT
   refine AU ?_;refine B3 (AU ?_);refine WF.nil (λp q i j=>?_);have I:=H.drop .head;exact⟨(BR (s+1)),_,_,i.sub (kp [22,21,0,1,23] O),j,I,EX,(B1 _),E⟩
  refine WF.exit O (λp q i j=>?_);exact⟨_,_,i.sub (kp [0,1] O),j,u,D,E⟩
 rintro p q ⟨A,C,i,j,J,bm,E⟩;refine AI ?_ i j;clear i j q p;rw[Dg] at E;have aq:=l.nw;refine AU ?_;refine AQ (λa w=>IV B A C (66,[]) a w [] (L) λ_ _=>Gj N=some r) ?_ ?_
 ·refine BJ (λn3=>λa w=>∃(t:Int),IV B A C (66,[]) a w [(40,vI (↑g.length:Int)),(39,c),(0,b),(41,vI t)] (L) λ_ _=>AA t∧EW N d g (Gj N) n3 t=some r) N ?_ ?_ ?_
  ·intro p q i j;exact⟨0,_,_,i.sub (kp [40,39,0,41] O),j,J,(Cc.refl A C),(iq (n:=0) O),E⟩
  ·rintro p q ⟨_,_,_,_,_,_,_,_,E⟩;rw[EW] at E;cases E
  rintro n3 p q ⟨t,bn,bo,i,j,y,K,bp,E⟩;refine AI ?_ i j;clear i j q p;rw[EW] at E;refine AU ?_;refine AE O E (λar E=>?_) (λar E=>?_)
  ·refine AU ?_;refine BQ (AU ?_);have au:=aq.mono' K;refine AN E O O au sl_54.1 O λbq E br av=>?_;obtain⟨bs,_,aw⟩:=av.lv;refine AU ?_;refine BZ VK O y λbt bu M ax=>?_;have ay:=aw.mono ax;obtain⟨rfl,⟨az,bv⟩⟩:=B8.ex ay;refine AW O O O O ty_90.1 O M .head O λbw z bx=>AU ?_;refine WF.rc (.inl O) z (AU ?_);have a0:=k.nw;refine BB E O O O Wm O (λa1 Q h' o=>MU (St.all h') (a0.mono' (o.all z.1)) az Q) λa1 E a2=>?_;have bz:=a2;refine AU ?_;refine BD (kp [12,11,10,40,39,0,41] O) λb0 U b1=>AU ?_;refine AE O E (λa3 E=>?_) (λa3 E=>?_)
   ·exact RT
   refine AU ?_;refine B3 (AU ?_);refine WF.nil (λp q i j=>?_);have V:=U.drop .head;exact⟨(BR (t+1)),_,_,i.sub (kp [40,39,0,41] O),j,V,EX,(B1 _),E⟩
  refine WF.exit O (λp q i j=>?_);exact⟨_,_,i.sub Ob,j,y,K,E⟩
 rintro p q ⟨b2,a5,i,j,a4,a6,E⟩;refine AI ?_ i j;clear i j q p;rw[Gj] at E;exact RT
def Ox (hs:St S L h) {I:Value}{D:AO}(W:Rd S h BI I D) {r:Bool}(E:Gy N D=some r):
 CD prog 93 #[I] S h (λv S' h'=>v= .bool r∧St S' (L) h'):=by
 refine A7 152 func93 O ntmps93 O λB=>?_;rw[Gy] at E;refine AU ?_;refine AT O W CE O hs λq1 S2 h3 C e5 H=>AU ?_;refine BQ (AU ?_);refine AE O E (λc7 E=>?_) (λc7 E=>?_)
 ·refine AU ?_;refine WF.rc (.inl O) C ?_;have c8:=H.fl Ms;obtain⟨eu,_,c9⟩:=c8.ll;refine AU ?_;refine BC E O O O Q6 O (λa5 a6 h' o=>HH (St.all h') (c9.mono' (o.all C.1)) a6) λa5 E=>AU ?_;obtain⟨a7,q,E⟩:=bd E;refine A6 5 15 (.bool a7) ?_ ?_
  ·cases a8:a5
   ·have q:=H8 a8 q;cases q;exact BO O O
   have q:=H7 a8 q;have da:=H.fl JE;have db:=da.fl MN.f_Lo;obtain⟨ev,_,dc⟩:=db.ll;refine AU ?_;refine BC q O O O Q6 O (λdd a9 h' o=>HH (St.all h') (dc.mono' (o.all C.1)) a9) λdd q=>AU ?_;cases q;exact A5 O
  refine AU ?_;obtain⟨ba,s,E⟩:=bd E;refine A6 5 21 (.bool ba) ?_ ?_
  ·cases bb:a7
   ·have s:=H8 bb s;cases s;exact BO O O
   have s:=H7 bb s;have de:=H.fl JE;have df:=de.fl MN.f_Hi;obtain⟨ew,_,dg⟩:=df.ll;refine AU ?_;refine BC s O O O Q6 O (λdh bc h' o=>HH (St.all h') (dg.mono' (o.all C.1)) bc) λdh s=>AU ?_;cases s;exact A5 O
  refine AU ?_;obtain⟨be,t,E⟩:=bd E;refine A6 7 29 (.bool be) ?_ ?_
  ·cases bf:ba
   ·have t:=H8 bf t;cases t;exact BO O O
   have t:=H7 bf t;have di:=H.fl JE;have dj:=di.fl MN.f_Lo;obtain⟨ex,_,dk⟩:=dj.ll;have dl:=H.fl Ms;obtain⟨ey,_,dm⟩:=dl.ll;refine AU ?_;refine BC t O O O bC O (λdn bg h' o=>OT (St.all h') (dk.mono' (o.all C.1)) (dm.mono' (o.all C.1)) bg) λdn t=>AU ?_;cases t;exact A5 O
  refine AU ?_;obtain⟨bh,u,E⟩:=bd E;refine A6 7 37 (.bool bh) ?_ ?_
  ·cases bi:be
   ·have u:=H8 bi u;cases u;exact BO O O
   have u:=H7 bi u;have dp:=H.fl Ms;obtain⟨ez,_,dq⟩:=dp.ll;have dr:=H.fl JE;have ds:=dr.fl MN.f_Hi;obtain⟨e0,_,dt⟩:=ds.ll;refine AU ?_;refine BC u O O O bC O (λdu bj h' o=>OT (St.all h') (dq.mono' (o.all C.1)) (dt.mono' (o.all C.1)) bj) λdu u=>AU ?_;cases u;exact A5 O
  refine AU ?_;obtain⟨bk,x,E⟩:=bd E;refine A6 4 42 (.bool bk) ?_ ?_
  ·cases bl:bh
   ·have x:=H8 bl x;cases x;exact BO O O
   have x:=H7 bl x;have dv:=H.fl Cv;have dw:=dv.i;refine AU ?_;refine BC x O O O KD O (λdx bm h' o=>Ch (St.all h') dw (iq (n:=0) O) (iq (n:=64) O) bm) λdx x=>AU ?_;cases x;exact A5 O
  refine AU ?_;obtain⟨bn,y,E⟩:=bd E;refine A6 6 49 (.bool bn) ?_ ?_
  ·cases bo:bk
   ·have y:=H8 bo y;cases y;exact BO O O
   have y:=H7 bo y;have dy:=H.fl HB;have dz:=dy.i;have d0:=H.fl Cv;have d1:=d0.i;refine AU ?_;refine BC y O O O KD O (λd2 bp h' o=>Ch (St.all h') dz (iq (n:=0) O) d1 bp) λd2 y=>AU ?_;cases y;exact A5 O
  refine AU ?_;obtain⟨bq,z,E⟩:=bd E;refine A6 4 54 (.bool bq) ?_ ?_
  ·cases br:bn
   ·have z:=H8 br z;cases z;exact BO O O
   have z:=H7 br z;have d3:=H.fl Mt;have d4:=d3.i;refine AU ?_;refine BC z O O O Lv O (λd5 bs h' o=>Co (St.all h') d4 bs) λd5 z=>AU ?_;cases z;exact A5 O
  refine AU ?_;obtain⟨d6,A,E⟩:=bd E;refine A6 6 61 (.bool d6) ?_ ?_
  ·cases bt:bq
   ·have A:=H8 bt A;cases A;exact BO O O
   have A:=H7 bt A;have d7:=H.fl Ip;have d8:=d7.i;have d9:=H.fl Iq;have ea:=d9.i;refine AU ?_;refine BC A O O O aF O (λeb bu h' o=>LS (St.all h') d8 ea bu) λeb A=>AU ?_;cases A;exact A5 O
  refine AU ?_;exact BD (kp [2] O) λeh ec ei=>RT
 refine AU ?_;refine Er (λa w=>∃(U:Bool),IV B S2 h3 (152,[]) a w [(4,vI D.F),(1,q1),(72,.bool U)] (L) λ_ _=>Eh N D U=some r) ?_ ?_
 ·refine AE O E (λbv E=>?_) (λbv E=>?_)
  ·refine AU ?_;refine WF.nil (λaa ww hf hw=>?_);exact⟨(decide (D.F=1)),_,_,hf.sub (kp [4,1,72] O),hw,C,(Cc.refl S2 h3),E⟩
  refine AU ?_;refine WF.nil (λaa ww hf hw=>?_);exact⟨(decide (D.F=5)),_,_,hf.sub (kp [4,1,72] O),hw,C,(Cc.refl S2 h3),E⟩
 rintro aa ww ⟨U,ej,ek,hf,hw,G,J,E⟩;refine AI ?_ hf hw;clear hf hw ww aa;rw[Eh] at E;refine AE O E (λbw E=>?_) (λbw E=>?_)
 ·refine AU ?_;refine WF.rc (.inl O) G ?_;have V:=H.mono J;have bx:=V.fl AO.f_Crest;have bz:=bx.i;refine AU ?_;refine BC E O O O Lv O (λX aq h' o=>Co (St.all h') bz aq) λX E=>AU ?_;obtain⟨Y,b,E⟩:=bd E;refine A6 4 82 (.bool Y) ?_ ?_
  ·cases Z:X
   ·have b:=H8 Z b;cases b;exact BO O O
   have b:=H7 Z b;have b0:=V.fl AO.f_Num;have b1:=b0.i;refine AU ?_;refine BC b O O O Lv O (λb2 ar h' o=>Co (St.all h') b1 ar) λb2 b=>AU ?_;cases b;exact A5 O
  refine AU ?_;obtain⟨b3,c,E⟩:=bd E;refine A6 4 87 (.bool b3) ?_ ?_
  ·cases ab:Y
   ·have c:=H8 ab c;cases c;exact BO O O
   have c:=H7 ab c;have b4:=V.fl AO.f_Den;have b5:=b4.i;refine AU ?_;refine BC c O O O KD O (λb6 au h' o=>Ch (St.all h') b5 (iq (n:=1) O) (iq (n:=1125899906842624) O) au) λb6 c=>AU ?_;cases c;exact A5 O
  refine AU ?_;exact BD (kp [2] O) λel ed em=>RT
 refine AU ?_;refine AE O E (λb7 E=>?_) (λb7 E=>?_)
 ·refine AU ?_;refine WF.rc (.inl O) G ?_;have K:=H.mono J;have b8:=K.fl AO.f_Num;have b9:=b8.i;refine AU ?_;refine BC E O O O Lv O (λac av h' o=>Co (St.all h') b9 av) λac E=>AU ?_;obtain⟨ad,d,E⟩:=bd E;refine A6 4 97 (.bool ad) ?_ ?_
  ·cases ae:ac
   ·have d:=H8 ae d;cases d;exact BO O O
   have d:=H7 ae d;have ca:=K.fl Cv;have cb:=ca.i;refine AU ?_;refine BC d O O O KD O (λcc aw h' o=>Ch (St.all h') cb (iq (n:=1) O) (iq (n:=64) O) aw) λcc d=>AU ?_;cases d;exact A5 O
  refine AU ?_;obtain⟨cd,g,E⟩:=bd E;refine A6 6 104 (.bool cd) ?_ ?_
  ·cases af:ad
   ·have g:=H8 af g;cases g;exact BO O O
   have g:=H7 af g;have ce:=K.fl HB;have cf:=ce.i;have cg:=K.fl Cv;have ch:=cg.i;refine AU ?_;refine BC g O O O KD O (λci ax h' o=>Ch (St.all h') cf (iq (n:=0) O) ch ax) λci g=>AU ?_;cases g;exact A5 O
  refine AU ?_;exact BD (kp [2] O) λen ee eo=>RT
 refine AU ?_;refine AE O E (λcj E=>?_) (λcj E=>?_)
 ·refine AU ?_;refine WF.rc (.inl O) G ?_;have M:=H.mono J;have ck:=M.fl AO.f_Num;have cl:=ck.i;refine AU ?_;refine BC E O O O Lv O (λag ay h' o=>Co (St.all h') cl ay) λag E=>AU ?_;obtain⟨ah,j,E⟩:=bd E;refine A6 4 114 (.bool ah) ?_ ?_
  ·cases ai:ag
   ·have j:=H8 ai j;cases j;exact BO O O
   have j:=H7 ai j;have cm:=M.fl AO.f_Den;have cn:=cm.i;refine AU ?_;refine BC j O O O KD O (λco az h' o=>Ch (St.all h') cn (iq (n:=1) O) (iq (n:=1125899906842624) O) az) λco j=>AU ?_;cases j;exact A5 O
  refine AU ?_;obtain⟨aj,k,E⟩:=bd E;refine A6 4 119 (.bool aj) ?_ ?_
  ·cases ak:ah
   ·have k:=H8 ak k;cases k;exact BO O O
   have k:=H7 ak k;have cp:=M.fl LI;have cq:=cp.i;refine AU ?_;refine BC k O O O Lv O (λcr a0 h' o=>Co (St.all h') cq a0) λcr k=>AU ?_;cases k;exact A5 O
  refine AU ?_;obtain⟨cs,l,E⟩:=bd E;refine A6 4 124 (.bool cs) ?_ ?_
  ·cases al:aj
   ·have l:=H8 al l;cases l;exact BO O O
   have l:=H7 al l;have ct:=M.fl Jz;have cu:=ct.i;refine AU ?_;refine BC l O O O Lv O (λcv a1 h' o=>Co (St.all h') cu a1) λcv l=>AU ?_;cases l;exact A5 O
  refine AU ?_;exact BD (kp [2] O) λep ef eq=>RT
 refine AU ?_;refine B3 (AU ?_);refine WF.rc (.inl O) G ?_;have Q:=H.mono J;have cw:=Q.fl AO.f_Num;have cx:=cw.i;refine AU ?_;refine BC E O O O Lv O (λam a2 h' o=>Co (St.all h') cx a2) λam E=>AU ?_;obtain⟨an,m,E⟩:=bd E;refine A6 4 139 (.bool an) ?_ ?_
 ·cases ao:am
  ·have m:=H8 ao m;cases m;exact BO O O
  have m:=H7 ao m;have cy:=Q.fl AO.f_Den;have cz:=cy.i;refine AU ?_;refine BC m O O O KD O (λc0 a3 h' o=>Ch (St.all h') cz (iq (n:=1) O) (iq (n:=1125899906842624) O) a3) λc0 m=>AU ?_;cases m;exact A5 O
 refine AU ?_;obtain⟨c1,p,E⟩:=bd E;refine A6 6 146 (.bool c1) ?_ ?_
 ·cases ap:an
  ·have p:=H8 ap p;cases p;exact BO O O
  have p:=H7 ap p;have c2:=Q.fl Ip;have c3:=c2.i;have c4:=Q.fl Iq;have c5:=c4.i;refine AU ?_;refine BC p O O O aF O (λc6 a4 h' o=>LS (St.all h') c3 c5 a4) λc6 p=>AU ?_;cases p;exact A5 O
 refine AU ?_;exact BD (kp [2] O) λer eg es=>RT
def Ot (l:St S L h) {a:Value}{c:AO}(b:Rd S h BI a c) {r:Bool}(E:Gx N c=some r):
 CD prog 94 #[a] S h (λv S' h'=>v= .bool r∧St S' (L) h'):=by
 refine A7 112 func94 O ntmps94 O λB=>?_;rw[Gx] at E;refine AU ?_;refine AT O b CE O l λn o p m q s=>AU ?_;refine AE O E (λd E=>?_) (λd E=>?_)
 ·exact RT
 refine AU ?_;refine AE O E (λg E=>?_) (λg E=>?_)
 ·exact RT
 refine AU ?_;refine AE O E (λi E=>?_) (λi E=>?_)
 ·exact RT
 refine AU ?_;refine AE O E (λj E=>?_) (λj E=>?_)
 ·exact RT
 refine AU ?_;refine AE O E (λk E=>?_) (λk E=>?_)
 ·exact RT
 exact RT
def PW (hs:St S L h) {k:Value}{l:AF}(t:Rd S h B7 k l) {r:Bool}(E:GP N l=some r):
 CD prog 39 #[k] S h (λv S' h'=>v= .bool r∧St S' (L) h'):=by
 refine A7 51 func39 O ntmps39 O λB=>?_;rw[GP] at E;refine AU ?_;refine AT O t CE O hs λq1 S2 h3 a1 e5 k6=>?_;have k8:=k6.fl AF.f_Links;obtain⟨v9,_,a2⟩:=k8.ll;refine AU ?_;refine AQ (λa w=>IV B S2 h3 (51,[]) a w [] (L) λ_ _=>EJ N=some r) ?_ ?_
 ·refine BJ (λn1=>λa w=>∃(p:Int),IV B S2 h3 (51,[]) a w [(7,vI (↑l.D.length:Int)),(6,v9),(1,q1),(8,vI p)] (L) λ_ _=>AA p∧DA N l (EJ N) n1 p=some r) N ?_ ?_ ?_
  ·intro z A q s;exact⟨0,_,_,q.sub (kp [7,6,1,8] O),s,a1,(Cc.refl S2 h3),(iq (n:=0) O),E⟩
  ·rintro z A ⟨_,_,_,_,_,_,_,_,E⟩;rw[DA] at E;cases E
  rintro n1 z A ⟨p,bv,bw,q,s,y,I,bx,E⟩;refine AI ?_ q s;clear q s A z;rw[DA] at E;refine AU ?_;refine AE O E (λa3 E=>?_) (λa3 E=>?_)
  ·refine AU ?_;refine BQ (AU ?_);have a4:=a2.mono' I;refine AN E O O a4 sl_24.1 O λJ E bz a5=>?_;obtain⟨b0,_,a6⟩:=a5.lv;refine AU ?_;refine BZ Nb O y λb1 b2 K a7=>?_;have a8:=a6.mono a7;obtain⟨b3,b4,b5,rfl,M,C,u,F,Q,U,V,W,X,Y,Z,ab,ac,ad,ae,af,ag,G⟩:=BI.ex a8;refine Hv O O O ON ty_102.1 O K .head O λb6 b m=>AU ?_;refine WF.rc (.inl O) b (AU ?_);refine BC E O O O KD O (λah ai h' o=>Ch (St.all h') C (iq (n:=0) O) (iq (n:=5) O) ai) λah E=>AU ?_;obtain⟨aj,c,E⟩:=bd E;refine A6 8 24 (.bool aj) ?_ ?_
   ·cases ak:(!ah)
    ·have c:=H8 ak c;have a9:=k6.nw;have ba:=a9.fl Ck;obtain⟨b7,_,bb⟩:=ba.ll;have bc:=bb.le;refine AU ?_;refine BC c O O O TN O (λbe am h' o=>Im (St.all h') u (M0 bc) am) λbe c=>AU ?_;cases c;exact A5 O
    have c:=H7 ak c;cases c;exact BO O O
   refine AU ?_;obtain⟨an,d,E⟩:=bd E;refine A6 8 33 (.bool an) ?_ ?_
   ·cases ao:aj
    ·have d:=H8 ao d;have bf:=k6.nw;obtain⟨b8,_,bg⟩:=bf.lv;refine AU ?_;refine BC d O O O gO O (λbh ap h' o=>Ny (St.all h') (bg.mono (o.all b.1)) u F ap) λbh d=>AU ?_;cases d;exact A5 O
    have d:=H7 ao d;cases d;exact BO O O
   refine AU ?_;obtain⟨aq,g,E⟩:=bd E;refine A6 5 39 (.bool aq) ?_ ?_
   ·cases ar:an
    ·have g:=H8 ar g;refine AU ?_;refine BC g O O O KD O (λbi au h' o=>Ch (St.all h') G (iq (n:=0) O) (iq (n:=240) O) au) λbi g=>AU ?_;cases g;exact A5 O
    have g:=H7 ar g;cases g;exact BO O O
   refine AU ?_;obtain⟨av,i,E⟩:=bd E;refine A6 4 44 (.bool av) ?_ ?_
   ·cases aw:aq
    ·have i:=H8 aw i;refine AU ?_;have bj:=Q.mono' m;have bk:=U.mono' m;have bl:=V.mono' m;obtain⟨b9,ax,i⟩:=bd i;refine Lp O O O pV O (λh' o=>Ox (St.all h') (BI.mk (x:=J) M C u F (bj.mono' (o.all b.1)) (bk.mono' (o.all b.1)) (bl.mono' (o.all b.1)) W X Y Z ab ac ad ae af ag G) ax) (AU ?_);cases i;exact A5 O
    have i:=H7 aw i;cases i;exact BO O O
   refine AU ?_;obtain⟨bm,j,E⟩:=bd E;refine A6 4 49 (.bool bm) ?_ ?_
   ·cases ay:av
    ·have j:=H8 ay j;refine AU ?_;have bn:=Q.mono' m;have bo:=U.mono' m;have bp:=V.mono' m;obtain⟨ca,az,j⟩:=bd j;refine Lp O O O pU O (λh' o=>Ot (St.all h') (BI.mk (x:=J) M C u F (bn.mono' (o.all b.1)) (bo.mono' (o.all b.1)) (bp.mono' (o.all b.1)) W X Y Z ab ac ad ae af ag G) az) (AU ?_);cases j;exact A5 O
    have j:=H7 ay j;cases j;exact BO O O
   refine BD (kp [49,7,6,1,8] O) λcb a0 cc=>AE O E (λbq E=>?_) (λbq E=>?_)
   ·exact RT
   refine AU ?_;refine B3 (AU ?_);refine WF.nil (λz A q s=>?_);have H:=a0.drop .head;exact⟨(BR (p+1)),_,_,q.sub (kp [7,6,1,8] O),s,H,EX,(B1 _),E⟩
  refine WF.exit O (λz A q s=>?_);exact⟨_,_,q.sub Ob,s,y,I,E⟩
 rintro z A ⟨bs,bt,q,s,br,bu,E⟩;refine AI ?_ q s;clear q s A z;rw[EJ] at E;exact RT
def PX (l:St S L h) {c:Value}{i:AF}(d:Rd S h B7 c i) {a:Int}(g:AA a) {b:Int}(j:AA b) {r:Bool}(E:K1 N i a b=some r):
 CD prog 95 #[c,vI a,vI b] S h (λv S' h'=>v= .bool r∧St S' (L) h'):=by
 refine A7 27 func95 O ntmps95 O λB=>?_;rw[K1] at E;refine AU ?_;refine AT O d CE O l λw x y m z n=>AU ?_;refine AE O E (λo E=>?_) (λo E=>?_)
 ·exact RT
 have p:=n.fl Ck;obtain⟨q,_,k⟩:=p.ll;refine AU ?_;exact AN E O O k sl_23.1 O λs E t u=>RT
def OH (hs:St S L h) {m:Value}{d:AF}(u:Rd S h B7 m d) {r:Bool}(E:Ia N d=some r):
 CD prog 40 #[m] S h (λv S' h'=>v= .bool r∧St S' (L) h'):=by
 refine A7 60 func40 O ntmps40 O λB=>?_;rw[Ia] at E;refine AU ?_;refine AT O u CE O hs λq1 S2 h3 ap e5 k6=>?_;have k8:=k6.fl Ck;obtain⟨v9,_,aq⟩:=k8.ll;refine AU ?_;refine AQ (λa w=>IV B S2 h3 (60,[]) a w [(1,q1)] (L) λ_ _=>EN N d=some r) ?_ ?_
 ·refine BJ (λn1=>λa w=>∃(p:Int),IV B S2 h3 (60,[]) a w [(10,vI (↑d.E.length:Int)),(9,v9),(1,q1),(11,vI p)] (L) λ_ _=>AA p∧EM N d (EN N d) n1 p=some r) N ?_ ?_ ?_
  ·intro k l g j;exact⟨0,_,_,g.sub (kp [10,9,1,11] O),j,ap,(Cc.refl S2 h3),(iq (n:=0) O),E⟩
  ·rintro k l ⟨_,_,_,_,_,_,_,_,E⟩;rw[EM] at E;cases E
  rintro n1 k l ⟨p,cg,ch,g,j,x,Q,ci,E⟩;refine AI ?_ g j;clear g j l k;rw[EM] at E;refine AU ?_;refine AE O E (λar E=>?_) (λar E=>?_)
  ·refine AU ?_;refine BQ (AU ?_);have au:=aq.mono' Q;refine AN E O O au sl_23.1 O λcj E ck av=>?_;obtain⟨cl,_,aw⟩:=av.lv;refine AU ?_;refine BZ Qh O x λcm cn U ax=>?_;have ay:=aw.mono ax;obtain⟨co,cp,cq,rfl,cr,cs,az,ct,cu,cv,cw,cx,a0,cy,cz,c0⟩:=B4.ex ay;refine Hv O O O ON ty_57.1 O U .head O λc1 y c2=>AU ?_;refine WF.rc (.inl O) y ?_;have a1:=k6.nw;obtain⟨c3,_,a2⟩:=a1.lv;refine AU ?_;refine BC E O O O gN O (λa3 V h' o=>PX (St.all h') (a2.mono (o.all y.1)) az a0 V) λa3 E=>AU ?_;refine BD (kp [21,10,9,1,11] O) λc4 W c5=>AE O E (λa4 E=>?_) (λa4 E=>?_)
   ·exact RT
   refine AU ?_;refine B3 (AU ?_);refine WF.nil (λk l g j=>?_);have X:=W.drop .head;exact⟨(BR (p+1)),_,_,g.sub (kp [10,9,1,11] O),j,X,EX,(B1 _),E⟩
  refine WF.exit O (λk l g j=>?_);exact⟨_,_,g.sub (kp [1] O),j,x,Q,E⟩
 rintro k l ⟨H,I,g,j,Y,a5,E⟩;refine AI ?_ g j;clear g j l k;rw[EN] at E;have Z:=k6.mono a5;have a6:=Z.fl AF.f_Links;obtain⟨a7,_,a8⟩:=a6.ll;refine AU ?_;refine AQ (λa w=>IV B H I (60,[]) a w [] (L) λ_ _=>GH N=some r) ?_ ?_
 ·refine BJ (λn3=>λa w=>∃(q:Int),IV B H I (60,[]) a w [(25,vI (↑d.D.length:Int)),(24,a7),(1,q1),(26,vI q)] (L) λ_ _=>AA q∧EL N d (GH N) n3 q=some r) N ?_ ?_ ?_
  ·intro k l g j;exact⟨0,_,_,g.sub (kp [25,24,1,26] O),j,Y,(Cc.refl H I),(iq (n:=0) O),E⟩
  ·rintro k l ⟨_,_,_,_,_,_,_,_,E⟩;rw[EL] at E;cases E
  rintro n3 k l ⟨q,c6,c7,g,j,z,ab,c8,E⟩;refine AI ?_ g j;clear g j l k;rw[EL] at E;refine AU ?_;refine AE O E (λa9 E=>?_) (λa9 E=>?_)
  ·refine AU ?_;refine BQ (AU ?_);have ba:=a8.mono' ab;refine AN E O O ba sl_24.1 O λbb E c9 bc=>?_;obtain⟨da,_,be⟩:=bc.lv;refine AU ?_;refine BZ Nb O z λdb dc ac bf=>?_;have bg:=be.mono bf;obtain⟨bj,bk,bl,rfl,dd,de,df,bh,bm,bn,bo,bp,bq,br,bs,bt,bu,bv,bw,bx,bz,b0⟩:=BI.ex bg;refine Hv O O O ON ty_102.1 O ac .head O λb1 s b2=>?_;have t:=Z.nw;have ad:=t.fl Ck;obtain⟨b3,_,ae⟩:=ad.ll;refine AU ?_;refine AN E O O ae sl_23.1 O λb4 E b5 af=>?_;have ag:=af.fl OX;have ah:=ag.i;refine AU ?_;refine WF.rc (.inl O) s ?_;obtain⟨b6,_,ai⟩:=t.lv;refine AU ?_;refine BC E O O O gN O (λA J h' o=>PX (St.all h') (ai.mono (o.all s.1)) ah bh J) λA E=>AU ?_;obtain⟨aj,b,E⟩:=bd E;refine A6 15 58 (.bool aj) ?_ ?_
   ·cases C:(!A)
    ·have b:=H8 C b;refine AU ?_;obtain⟨ak,c,b⟩:=bd b;refine A6 10 57 (.bool ak) ?_ ?_
     ·cases G:(decide (bb.F=4))
      ·have c:=H8 G c;cases c;exact BO O O
      have c:=H7 G c;have am:=t.fl Ck;obtain⟨b7,_,an⟩:=am.ll;refine AU ?_;refine AN c O O an sl_23.1 O λb8 c b9 ca=>AU ?_;cases c;exact A5 O
     refine AU ?_;cases b;exact A5 O
    have b:=H7 C b;cases b;exact BO O O
   refine BD (kp [58,25,24,1,26] O) λcb K cc=>AE O E (λao E=>?_) (λao E=>?_)
   ·exact RT
   refine AU ?_;refine B3 (AU ?_);refine WF.nil (λk l g j=>?_);have M:=K.drop .head;exact⟨(BR (q+1)),_,_,g.sub (kp [25,24,1,26] O),j,M,EX,(B1 _),E⟩
  refine WF.exit O (λk l g j=>?_);exact⟨_,_,g.sub Ob,j,z,ab,E⟩
 rintro k l ⟨cd,ce,g,j,bi,cf,E⟩;refine AI ?_ g j;clear g j l k;rw[GH] at E;exact RT
def Jk (F:St S L h) {b:Int}(k:AA b) {c:Int}(l:AA c) {r:Int}(E:E6 N b c=some r):
 CD prog 96 #[vI b,vI c] S h (λv S' h'=>v=vI r∧AA r∧St S' (L) h'):=by
 refine A7 34 func96 O ntmps96 O λB=>?_;rw[E6] at E;refine AU ?_;refine AE O E (λG E=>?_) (λG E=>?_)
 ·exact RT
 refine AU ?_;refine AE O E (λH E=>?_) (λH E=>?_)
 ·exact RT
 refine AU ?_;refine WF.rc (.inl O) F (AU ?_);refine Iy O QP Nc O ?_;obtain⟨s,t,E⟩:=bd E;refine Hu (v:= .tuple #[.int .u64 s.1,.int .u64 s.2]) (Ψ:=IntKind.has .u64 s.1∧IntKind.has .u64 s.2) O O O bB O (λh' o=>(Mf (St.all h') (Fw _ _) (show IntKind.has .u64 1099511627776 by first|assumption|exact⟨by decide,by decide⟩) t).mono λ_ _ _ _ p=>⟨p.1,⟨p.2.1,p.2.2.1⟩⟩) λI=>?_;obtain⟨J,K⟩:=I;refine AU ?_;refine BD (kp [6,5,1] O) λY u Z=>AU ?_;refine WF.rc (.inl O) u (AU ?_);refine Iy O QP Nc O ?_;obtain⟨d,q,E⟩:=bd E;refine Hu (v:= .tuple #[.int .u64 d.1,.int .u64 d.2]) (Ψ:=IntKind.has .u64 d.1∧IntKind.has .u64 d.2) O O O bA O (λh' o=>(Mg (St.all h') J K (Fw _ _) q).mono λ_ _ _ _ p=>⟨p.1,⟨p.2.1,p.2.2.1⟩⟩) λx=>?_;obtain⟨y,M⟩:=x;refine AU ?_;refine BD (kp [8,7] O) λj i Q=>AU ?_;refine Er (λa w=>∃(g:Int),IV B S j (34,[]) a w [(7,.int .u64 g)] (L) λ_ _=>IntKind.has .u64 g∧JO N g=some r) ?_ ?_
 ·refine AE O E (λz E=>?_) (λz E=>?_)
  ·refine AU ?_;refine WF.nil (λA C m n=>?_);exact⟨(IntKind.wrap .u64 (d.1+1)),_,_,m.sub (kp [7] O),n,i,(Cc.refl S j),(Fw _ _),E⟩
  refine AU ?_;refine WF.nil (λA C m n=>?_);exact⟨d.1,_,_,m.sub (kp [7] O),n,i,(Cc.refl S j),y,E⟩
 rintro A C ⟨g,U,V,m,n,D,W,X,E⟩;refine AI ?_ m n;clear m n C A;rw[JO] at E;refine AU ?_;exact Iy O Nc QP O (RT)
def Qc (hs:St S L h) {c:Value}{b:(List (List AV))}(i:Sl S h (BU.sl B8) c b) {r:Int}(E:Gp N b=some r):
 CD prog 97 #[c] S h (λv S' h'=>v=vI r∧AA r∧St S' (L) h'):=by
 refine A7 48 func97 O ntmps97 O λB=>?_;rw[Gp] at E;refine AU ?_;refine AQ (λa w=>∃(J:Int),IV B S h (48,[]) a w [(3,vI J)] (L) λ_ _=>AA J∧Cn N J=some r) ?_ ?_
 ·refine BJ (λK=>λa w=>∃(A:Int) (j:Int),IV B S h (48,[]) a w [(8,vI (↑b.length:Int)),(7,c),(3,vI A),(9,vI j)] (L) λ_ _=>AA A∧AA j∧CM N b (Cn N) K A j=some r) N ?_ ?_ ?_
  ·intro k l d g;exact⟨0,0,_,_,d.sub (kp [8,7,3,9] O),g,hs,(Cc.refl S h),(iq (n:=0) O),(iq (n:=0) O),E⟩
  ·rintro k l ⟨_,_,_,_,_,_,_,_,_,_,E⟩;rw[CM] at E;cases E
  rintro K k l ⟨A,j,y,z,d,g,u,C,r9,ah,E⟩;refine AI ?_ d g;clear d g l k;rw[CM] at E;refine AU ?_;refine AE O E (λM E=>?_) (λM E=>?_)
  ·refine AU ?_;refine AQ (λa w=>∃(q:Int),IV B y z (48,[]) a w [(8,vI (↑b.length:Int)),(7,c),(9,vI j),(3,vI q)] (L) λ_ _=>AA q∧DJ N j (CM N b (Cn N) K) q=some r) ?_ ?_
   ·refine AU ?_;have Q:=i.mono' C;refine AN E O O Q sl_217.1 O λU E ai V=>?_;obtain⟨W,_,s⟩:=V.ll;refine AU ?_;refine BQ (BJ (λn3=>λa w=>∃(m:Int) (t:Int),IV B y z (48,[]) a w [(5,W),(8,vI (↑b.length:Int)),(7,c),(9,vI j),(3,vI m),(6,vI t)] (L) λ_ _=>AA m∧AA t∧Cm N U (DJ N j (CM N b (Cn N) K)) n3 m t=some r) N ?_ ?_ ?_)
    ·intro k l d g;exact⟨A,1,_,_,d.sub (kp [5,8,7,9,3,6] O),g,u,(Cc.refl y z),r9,(iq (n:=1) O),E⟩
    ·rintro k l ⟨_,_,_,_,_,_,_,_,_,_,E⟩;rw[Cm] at E;cases E
    rintro n3 k l ⟨m,t,aj,ak,d,g,x,p,D,al,E⟩;refine AI ?_ d g;clear d g l k;rw[Cm] at E;have am:=s.mono' p;refine AU ?_;refine AE O E (λX E=>?_) (λX E=>?_)
    ·refine AU ?_;refine BQ (WF.rc (.inr ⟨mo,by kernel_rfl⟩) x (AU ?_));have Y:=s.mono' p;refine AN E O O Y sl_54.1 O λan E ao ap=>AU ?_;have Z:=s.mono' p;refine AN E O O Z sl_54.1 O λaq E ar au=>AU ?_;have ab:=s.mono' p;refine AN E O O ab sl_54.1 O λav E aw ax=>AU ?_;have ac:=s.mono' p;refine AN E O O ac sl_54.1 O λay E az a0=>AU ?_;refine BB E O O O UJ O (λF G h' o=>Jk (St.all h') (B1 _) (B1 _) G) λF E ad=>?_;have ae:=ad;refine Ku O O O (AU ?_);refine BD (kp [3,5,8,7,9,6] O) λa1 H a2=>B3 (AU ?_);refine WF.nil (λk l d g=>?_);exact⟨(max m F),(BR (t+1)),_,_,d.sub (kp [5,8,7,9,3,6] O),g,H,EX,(HK D ae),(B1 _),E⟩
    refine LG O (WF.nil (λk l d g=>?_));exact⟨m,_,_,d.sub (kp [8,7,9,3] O),g,x,p,D,E⟩
   rintro k l ⟨q,a3,a4,d,g,I,a5,af,E⟩;refine AI ?_ d g;clear d g l k;rw[DJ] at E;refine AU ?_;refine WF.nil (λk l d g=>?_);exact⟨q,(BR (j+1)),_,_,d.sub (kp [8,7,3,9] O),g,I,EX,af,(B1 _),E⟩
  refine WF.exit O (λk l d g=>?_);exact⟨A,_,_,d.sub (kp [3] O),g,u,C,r9,E⟩
 rintro k l ⟨J,a6,a7,d,g,ag,a8,r3,E⟩;refine AI ?_ d g;clear d g l k;rw[Cn] at E;exact RT
end Go.Proofs.YtibidnaedddfdaaGreat
