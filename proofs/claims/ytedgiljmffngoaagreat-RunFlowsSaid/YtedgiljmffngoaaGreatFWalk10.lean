import Derived.Test.YtedgiljmffngoaaGreatFFacts
import Derived.Test.YtedgiljmffngoaaGreatFForms
import Derived.Test.YtedgiljmffngoaaGreatFInst
import Derived.Test.YtedgiljmffngoaaGreatFSort5
import Derived.Test.YtedgiljmffngoaaGreatFWalk0
import Derived.Test.YtedgiljmffngoaaGreatFWalk2
import Derived.Test.YtedgiljmffngoaaGreatFWalk5
namespace Go.Proofs.YtedgiljmffngoaaGreat
set_option linter.all false
open Go.RowKit
open Go.Proofs.Tryz
set_option maxRecDepth 10000
set_option maxHeartbeats 2000000
variable {N:Nat}{S:Nat→Prop}{L:List HP}{h:AT}
def NM (k:St S L h) {c:Value}{d:(List Int)}(g:Sl S h AB c d) {a:Int}(i:AA a) {r:Bool}(E:K8 N d a=some r):
 B0 prog 187 #[c,vI a] S h (λv S' h'=>v= .bool r∧St S' (L) h'):=by
 refine BA 21 func187 O ntmps187 O λB=>?_;rw[K8] at E;refine AU ?_;refine BZ (.inl O) k (AU ?_);obtain⟨m,b,E⟩:=bd E;refine AS 3 20 (.bool m) ?_ ?_
 ·cases l:(((decide (0≤a))&&(decide (a≤16)))&&(decide ((↑d.length:Int)=a)))
  ·have b:=Em l b;cases b;exact A6 O O
  have b:=El l b;refine AU ?_;refine BC b O O O Vx O (λn j h' o=>NL (St.all h') (g.mono' (o.all k.1)) j) λn b=>AU ?_;cases b;exact AQ O
 refine AU ?_;exact BL (kp [4] O) λs p q=>RT
def Pr (hs:St S L h) {p:Value}{j:AO}(H:Rd S h BW p j) {q:Value}{i:AJ}(I:Rd S h A7 q i) {r:Int×Bool}(E:Lx N j i=some r):
 B0 prog 109 #[p,q] S h (λv S' h'=>v= .tuple #[vI r.1,.bool r.2]∧AA r.1∧St S' (L) h'):=by
 refine BA 76 func109 O ntmps109 O λB=>?_;rw[Lx] at E;refine AU ?_;refine B4 O H CE O hs λq1 S2 h3 bg e5 k6=>?_;have k7:=I.mono e5;refine B4 O k7 CE O bg λq8 S9 Y aj cr ak=>?_;have bh:=ak.fl Dg;obtain⟨bi,_,bj⟩:=bh.ll;refine AU ?_;refine AK (λa w=>∃(u:Int),IV B S9 Y (76,[]) a w [(3,q8),(2,q1),(6,vI u)] (L) λ_ _=>AA u∧Ii N j i u=some r) ?_ ?_
 ·refine AY (λn1=>λa w=>∃(s:Int) (x:Int),IV B S9 Y (76,[]) a w [(14,vI (↑i.F.length:Int)),(13,bi),(3,q8),(2,q1),(6,vI s),(15,vI x)] (L) λ_ _=>AA s∧AA x∧HM N j i (Ii N j i) n1 s x=some r) N ?_ ?_ ?_
  ·intro k l b g;exact⟨0,0,_,_,b.sub (kp [14,13,3,2,6,15] O),g,aj,(B6.refl S9 Y),(iq (n:=0) O),(iq (n:=0) O),E⟩
  ·rintro k l ⟨_,_,_,_,_,_,_,_,_,_,E⟩;rw[HM] at E;cases E
  rintro n1 k l ⟨s,x,cs,ct,b,g,y,am,bk,cu,E⟩;refine AI ?_ b g;clear b g l k;rw[HM] at E;refine AU ?_;refine AF O E (λbl E=>?_) (λbl E=>?_)
  ·refine AU ?_;refine AZ (AU ?_);have bm:=bj.mono' am;refine A9 E O O bm sl_32.1 O λcv E cw bn=>?_;obtain⟨cx,_,an⟩:=bn.ll;refine AU ?_;refine BZ (.inl O) y ?_;have bo:=k6.nw;have bp:=bo.fl Fp;obtain⟨cy,_,bq⟩:=bp.ll;have br:=bq.le;refine AU ?_;refine BC E O O O V4 O (λbs ao h' o=>NM (St.all h') (an.mono' (o.all y.1)) (Jb br) ao) λbs E=>AU ?_;refine BL (kp [24,8,14,13,3,2,6,15] O) λcz z bt=>AF O E (λbu E=>?_) (λbu E=>?_)
   ·refine AU ?_;refine BS (λk l b g=>?_);cases E;exact Hk b O g (Eg (GE b (v:=_) O) (Eg (GE b (v:=_) O) Hj)) O EX ⟨O,(iq (n:=0) O),z⟩
   refine AU ?_;refine BZ (.inl O) z (AU ?_);have bv:=an.mono' bt;refine CC E O O O Ls O (λap aq h' o=>Ci (St.all h') (bv.mono' (o.all z.1)) aq) λap E bw=>?_;have c0:=bw;refine AU ?_;refine BL (kp [6,14,13,3,2,15] O) λc1 K c2=>AU ?_;refine AF O E (λbx E=>?_) (λbx E=>?_)
   ·refine AU ?_;refine BS (λk l b g=>?_);cases E;exact Hk b O g (Eg (GE b (v:=_) O) (Eg (GE b (v:=_) O) Hj)) O EX ⟨O,(iq (n:=0) O),K⟩
   refine AU ?_;refine BD (AU ?_);refine WF.nil (λk l b g=>?_);exact⟨(BG (s+ap)),(BG (x+1)),_,_,b.sub (kp [14,13,3,2,6,15] O),g,K,EX,(BF _),(BF _),E⟩
  refine A8 O (λk l b g=>?_);exact⟨s,_,_,b.sub (kp [3,2,6] O),g,y,am,bk,E⟩
 rintro k l ⟨u,Z,ab,b,g,ar,bz,b0,E⟩;refine AI ?_ b g;clear b g l k;rw[Ii] at E;have au:=ak.mono bz;have b1:=au.fl Dt;obtain⟨b2,_,b3⟩:=b1.ll;refine AU ?_;refine AK (λa w=>∃(J:Int),IV B Z ab (76,[]) a w [(6,vI J)] (L) λ_ _=>AA J∧Ih N J=some r) ?_ ?_
 ·refine AY (λn3=>λa w=>∃(t:Int) (C:Int),IV B Z ab (76,[]) a w [(34,vI (↑i.P.length:Int)),(33,b2),(3,q8),(2,q1),(6,vI t),(35,vI C)] (L) λ_ _=>AA t∧AA C∧HL N j i (Ih N) n3 t C=some r) N ?_ ?_ ?_
  ·intro k l b g;exact⟨u,0,_,_,b.sub (kp [34,33,3,2,6,35] O),g,ar,(B6.refl Z ab),b0,(iq (n:=0) O),E⟩
  ·rintro k l ⟨_,_,_,_,_,_,_,_,_,_,E⟩;rw[HL] at E;cases E
  rintro n3 k l ⟨t,C,c3,c4,b,g,M,av,b4,c5,E⟩;refine AI ?_ b g;clear b g l k;rw[HL] at E;refine AU ?_;refine AF O E (λb5 E=>?_) (λb5 E=>?_)
  ·refine AU ?_;refine AZ (AU ?_);have b6:=b3.mono' av;refine A9 E O O b6 sl_33.1 O λb7 E c6 b8=>?_;obtain⟨c7,_,b9⟩:=b8.lv;refine AU ?_;refine CG NB O M λc8 c9 aw ca=>?_;have cb:=b9.mono ca;obtain⟨cd,rfl,ce,ax,Q⟩:=A3.ex cb;refine Dj O O O ON ty_121.1 O aw .head O λcf D ay=>AU ?_;refine BZ (.inl O) D ?_;have cg:=au.nw;refine AU ?_;obtain⟨U,c,E⟩:=bd E;refine AS 8 52 (.bool U) ?_ ?_
   ·cases V:(decide (b7.Aq<i.A))
    ·have c:=Em V c;have az:=k6.nw;have a0:=az.fl B3;obtain⟨ch,_,a1⟩:=a0.ll;have a2:=a1.le;refine AU ?_;refine BC c O O O NZ O (λa3 ac h' o=>FH (St.all h') ax (Jb a2) ac) λa3 c=>AU ?_;cases c;exact AQ O
    have c:=El V c;cases c;exact A6 O O
   refine AU ?_;obtain⟨a4,d,E⟩:=bd E;refine AS 8 61 (.bool a4) ?_ ?_
   ·cases W:U
    ·have d:=Em W d;have a5:=k6.nw;have a6:=a5.fl Fp;obtain⟨ci,_,a7⟩:=a6.ll;have a8:=a7.le;refine AU ?_;have a9:=Q.mono' ay;refine BC d O O O V4 O (λba ad h' o=>NM (St.all h') (a9.mono' (o.all D.1)) (Jb a8) ad) λba d=>AU ?_;cases d;exact AQ O
    have d:=El W d;cases d;exact A6 O O
   refine BL (kp [61,10,34,33,3,2,6,35] O) λcj m ck=>AF O E (λbb E=>?_) (λbb E=>?_)
   ·refine AU ?_;refine BS (λk l b g=>?_);have ae:=m.drop .head;cases E;exact Hk b O g (Eg (GE b (v:=_) O) (Eg (GE b (v:=_) O) Hj)) O EX ⟨O,(iq (n:=0) O),ae⟩
   refine AU ?_;refine BZ (.inl O) m (AU ?_);have bc:=Q.nw;refine CC E O O O Ls O (λX af h' o=>Ci (St.all h') (bc.mono' (o.all m.1)) af) λX E be=>?_;have cl:=be;refine AU ?_;refine BL (kp [11,34,33,3,2,6,35] O) λcm G cn=>AU ?_;refine AF O E (λbf E=>?_) (λbf E=>?_)
   ·refine AU ?_;refine BS (λk l b g=>?_);have ag:=G.drop .head;cases E;exact Hk b O g (Eg (GE b (v:=_) O) (Eg (GE b (v:=_) O) Hj)) O EX ⟨O,(iq (n:=0) O),ag⟩
   refine AU ?_;refine BD (AU ?_);refine WF.nil (λk l b g=>?_);have ah:=G.drop .head;exact⟨(BG (t+X)),(BG (C+1)),_,_,b.sub (kp [34,33,3,2,6,35] O),g,ah,EX,(BF _),(BF _),E⟩
  refine A8 O (λk l b g=>?_);exact⟨t,_,_,b.sub (kp [6] O),g,M,av,b4,E⟩
 rintro k l ⟨J,co,cp,b,g,ai,cq,cc,E⟩;refine AI ?_ b g;clear b g l k;rw[Ih] at E;refine AU ?_;refine BS (λk l b g=>?_);cases E;exact Hk b O g (Eg (GE b (v:=_) O) (Eg (GE b (v:=_) O) Hj)) O EX ⟨O,cc,ai⟩
def MH (F:St S L h) {c:Value}{i:(List Int)}(l:Sl S h AB c i) {b:Int}(q:AA b) {r:Int×Bool}(E:Ju N i b=some r):
 B0 prog 110 #[c,vI b] S h (λv S' h'=>v= .tuple #[vI r.1,.bool r.2]∧AA r.1∧St S' (L) h'):=by
 refine BA 29 func110 O ntmps110 O λB=>?_;rw[Ju] at E;refine AU ?_;refine AK (λa w=>∃(u:Int),IV B S h (29,[]) a w [(6,vI u)] (L) λ_ _=>AA u∧ID N u=some r) ?_ ?_
 ·refine AY (λD=>λa w=>∃(s:Int) (j:Int),IV B S h (29,[]) a w [(10,vI (↑i.length:Int)),(9,c),(1,vI b),(6,vI s),(11,vI j)] (L) λ_ _=>AA s∧AA j∧Gm N i b (ID N) D s j=some r) N ?_ ?_ ?_
  ·intro m o d g;exact⟨0,0,_,_,d.sub (kp [10,9,1,6,11] O),g,F,(B6.refl S h),(iq (n:=0) O),(iq (n:=0) O),E⟩
  ·rintro m o ⟨_,_,_,_,_,_,_,_,_,_,E⟩;rw[Gm] at E;cases E
  rintro D m o ⟨s,j,G,H,d,g,k,p,I,J,E⟩;refine AI ?_ d g;clear d g o m;rw[Gm] at E;refine AU ?_;refine AF O E (λx E=>?_) (λx E=>?_)
  ·refine AU ?_;refine AZ (AU ?_);have y:=l.mono' p;refine A9 E O O y sl_29.1 O λz E K M=>AU ?_;refine AF O E (λA E=>?_) (λA E=>?_)
   ·refine AU ?_;refine BS (λm o d g=>?_);cases E;exact Hk d O g (Eg (GE d (v:=_) O) (Eg (GE d (v:=_) O) Hj)) O p ⟨O,(iq (n:=0) O),k⟩
   refine AU ?_;refine BD (AU ?_);refine WF.nil (λm o d g=>?_);exact⟨(BG (s+z)),(BG (j+1)),_,_,d.sub (kp [10,9,1,6,11] O),g,k,p,(BF _),(BF _),E⟩
  refine A8 O (λm o d g=>?_);exact⟨s,_,_,d.sub (kp [6] O),g,k,p,I,E⟩
 rintro m o ⟨u,Q,U,d,g,t,C,V,E⟩;refine AI ?_ d g;clear d g o m;rw[ID] at E;refine AU ?_;refine BS (λm o d g=>?_);cases E;exact Hk d O g (Eg (GE d (v:=_) O) (Eg (GE d (v:=_) O) Hj)) O C ⟨O,V,t⟩
def QE (hs:St S L h) {p:Value}{c:AO}(C:Rd S h BW p c) {q:Value}{d:AJ}(D:Rd S h A7 q d) {r:Bool}(E:Mf N c d=some r):
 B0 prog 34 #[p,q] S h (λv S' h'=>v= .bool r∧St S' (L) h'):=by
 refine BA 168 func34 O ntmps34 O λB=>?_;rw[Mf] at E;refine AU ?_;refine B4 O C CE O hs λq1 S2 h3 b4 e5 k6=>?_;have k7:=D.mono e5;refine B4 O k7 CE O b4 λq8 S9 U aj s V=>?_;have em:=k6.mono s;have en:=k6.mono s;have eo:=k6.mono s;have ep:=k6.mono s;have eq:=k6.mono s;refine AU ?_;refine AF O E (λb5 E=>?_) (λb5 E=>?_)
 ·exact RT
 have ak:=k6.mono s;have b6:=ak.fl B3;obtain⟨b7,_,b8⟩:=b6.ll;refine AU ?_;refine AK (λa w=>IV B S9 U (168,[]) a w [(3,q8),(2,q1)] (L) λ_ _=>JO N c d=some r) ?_ ?_
 ·refine AY (λn1=>λa w=>∃(t:Int),IV B S9 U (168,[]) a w [(68,vI (↑c.E.length:Int)),(67,b7),(3,q8),(2,q1),(69,vI t)] (L) λ_ _=>AA t∧Hy N c d (JO N c d) n1 t=some r) N ?_ ?_ ?_
  ·intro k l g i;exact⟨0,_,_,g.sub (kp [68,67,3,2,69] O),i,aj,(B6.refl S9 U),(iq (n:=0) O),E⟩
  ·rintro k l ⟨_,_,_,_,_,_,_,_,E⟩;rw[Hy] at E;cases E
  rintro n1 k l ⟨t,er,es,g,i,F,am,eu,E⟩;refine AI ?_ g i;clear g i l k;rw[Hy] at E;refine AU ?_;refine AF O E (λb9 E=>?_) (λb9 E=>?_)
  ·refine AU ?_;refine AZ (AU ?_);have ca:=b8.mono' am;refine A9 E O O ca sl_23.1 O λev E ew an=>?_;obtain⟨cc,_,ao⟩:=an.lv;refine AU ?_;refine CG Lv O F λcd ce W ap=>AU ?_;have aq:=ao.mono ap;obtain⟨cf,cg,ch,rfl,ci,cj,ck,cl,cm,cn,co,cp,cq,cr,cs,ct⟩:=BX.ex aq;refine Dj O O O ON ty_101.1 O W .head O λcu X cv=>AU ?_;refine EF (.inr ⟨mo,by kernel_rfl⟩) ?_;have G:=V.nw;have ar:=G.fl Iz;obtain⟨cw,_,au⟩:=ar.ll;refine AU ?_;refine A9 E O O au sl_29.1 O λav E cx cy=>AU ?_;obtain⟨aw,b,E⟩:=bd E;refine AS 11 91 (.bool aw) ?_ ?_
   ·cases H:(decide (av<0))
    ·have b:=Em H b;have ax:=G.fl Iz;obtain⟨cz,_,ay⟩:=ax.ll;refine AU ?_;refine A9 b O O ay sl_29.1 O λc0 b c1 c2=>AU ?_;refine Qk O O O (AU ?_);cases b;exact AQ O
    have b:=El H b;cases b;exact A6 O O
   refine AU ?_;refine AF O E (λaz E=>?_) (λaz E=>?_)
   ·exact RT
   refine AU ?_;refine BD (AU ?_);refine WF.nil (λk l g i=>?_);have Y:=X.drop .head;exact⟨(BG (t+1)),_,_,g.sub (kp [68,67,3,2,69] O),i,Y,EX,(BF _),E⟩
  refine A8 O (λk l g i=>?_);exact⟨_,_,g.sub (kp [3,2] O),i,F,am,E⟩
 rintro k l ⟨u,x,g,i,Z,a0,E⟩;refine AI ?_ g i;clear g i l k;rw[JO] at E;have I:=ak.mono a0;have a1:=I.fl Ec;obtain⟨a2,_,a3⟩:=a1.ll;refine AU ?_;refine AK (λa w=>IV B u x (168,[]) a w [(3,q8),(2,q1)] (L) λ_ _=>JN N c d=some r) ?_ ?_
 ·refine AY (λn3=>λa w=>∃(j:Int),IV B u x (168,[]) a w [(95,vI (↑c.J.length:Int)),(94,a2),(3,q8),(2,q1),(96,vI j)] (L) λ_ _=>AA j∧Hx N c d (JN N c d) n3 j=some r) N ?_ ?_ ?_
  ·intro k l g i;exact⟨0,_,_,g.sub (kp [95,94,3,2,96] O),i,Z,(B6.refl u x),(iq (n:=0) O),E⟩
  ·rintro k l ⟨_,_,_,_,_,_,_,_,E⟩;rw[Hx] at E;cases E
  rintro n3 k l ⟨j,c3,c4,g,i,y,K,c5,E⟩;refine AI ?_ g i;clear g i l k;rw[Hx] at E;refine AU ?_;refine AF O E (λa4 E=>?_) (λa4 E=>?_)
  ·refine AU ?_;refine AZ (AU ?_);have a5:=a3.mono' K;refine A9 E O O a5 sl_24.1 O λc6 E c7 a6=>?_;obtain⟨c8,_,a7⟩:=a6.lv;refine AU ?_;refine CG NC O y λc9 da ab a8=>AU ?_;have a9:=a7.mono a8;obtain⟨db,dc,dd,rfl,de,df,dg,dh,di,dj,dk,dl,dm,dn,dp,dq,dr,ds,dt,du,dv,dw⟩:=Bu.ex a9;refine Dj O O O ON ty_117.1 O ab .head O λdx ac dy=>?_;have ba:=V.nw;have bb:=ba.fl Hh;obtain⟨dz,_,bc⟩:=bb.ll;refine AU ?_;refine A9 E O O bc sl_34.1 O λd0 E d1 be=>?_;obtain⟨d2,_,bf⟩:=be.lv;refine AU ?_;refine CG OM O ac λd3 d4 ad bg=>?_;have bh:=bf.mono bg;obtain⟨rfl,⟨d5,d6⟩⟩:=BK.ex bh;refine CV O O O O ty_106.1 O ad .head O λd7 ae d8=>AU ?_;refine AF O E (λbi E=>?_) (λbi E=>?_)
   ·exact RT
   refine AU ?_;refine AF O E (λbj E=>?_) (λbj E=>?_)
   ·exact RT
   refine AU ?_;refine BD (AU ?_);refine WF.nil (λk l g i=>?_);have af:=ae.sel [] 2 O;exact⟨(BG (j+1)),_,_,g.sub (kp [95,94,3,2,96] O),i,af,EX,(BF _),E⟩
  refine A8 O (λk l g i=>?_);exact⟨_,_,g.sub (kp [3,2] O),i,y,K,E⟩
 rintro k l ⟨d9,ea,g,i,m,bk,E⟩;refine AI ?_ g i;clear g i l k;rw[JN] at E;refine AU ?_;refine BZ (.inl O) m ?_;have bl:=I.mono bk;obtain⟨eb,_,bm⟩:=bl.lv;have M:=V.nw;obtain⟨ec,_,bn⟩:=M.lv;refine AU ?_;refine CC E O O O Zx O (λbo ag h' o=>Pr (St.all h') (bm.mono (o.all m.1)) (bn.mono (o.all m.1)) ag) λbo E bp=>?_;have ed:=bp;refine AU ?_;refine BL (kp [11,10,3] O) λee z bq=>AU ?_;refine AF O E (λbr E=>?_) (λbr E=>?_)
 ·exact RT
 refine AU ?_;refine BZ (.inl O) z ?_;have Q:=M.mono bq;have bs:=Q.fl Hm;obtain⟨ef,_,bt⟩:=bs.ll;refine AU ?_;refine CC E O O O V6 O (λbu ah h' o=>MH (St.all h') (bt.mono' (o.all z.1)) (iq (n:=1152921504606846976) O) ah) λbu E bv=>?_;have eg:=bv;refine AU ?_;refine BL (kp [11,12,10,3] O) λeh A bw=>AU ?_;refine AF O E (λbx E=>?_) (λbx E=>?_)
 ·exact RT
 refine AU ?_;refine BZ (.inl O) A ?_;have bz:=Q.mono bw;have b0:=bz.fl FE;obtain⟨ei,_,b1⟩:=b0.ll;refine AU ?_;refine CC E O O O V6 O (λb2 ai h' o=>MH (St.all h') (b1.mono' (o.all A.1)) (BF _) ai) λb2 E b3=>?_;have ej:=b3;refine AU ?_;exact BL (kp [11] O) λek cb el=>RT
def Ks {b:Value}{j:(List Int)}(hs:St S (OS (BB.intk .u8) 5 b j::L) h) {r:(List Int)}(E:GH N j=some r):
 B0 prog 276 #[b] S h (λv S' h'=>v= .tuple #[]∧St S' (OS (BB.intk .u8) 5 b r::L) h'):=by
 refine BA 28 func276 O ntmps276 O λB=>?_;rw[GH] at E;refine AU ?_;refine AZ (AY (λn0=>λa w=>∃(g:Int) (k:Int) (p:List Int),IV B S h (28,[]) a w [(0,b),(2,vI g),(3,vI k)] (OS (BB.intk .u8) 5 b p::L) λ_ _=>AA g∧AA k∧C0 N n0 g k p=some r) N ?_ ?_ ?_)
 ·intro C D q u;exact⟨0,(BG ((↑j.length:Int)-1)),j,_,_,q.sub (kp [0,2,3] O),u,hs,(B6.refl S h),(iq (n:=0) O),(BF _),E⟩
 ·rintro C D ⟨_,_,_,_,_,_,_,_,_,_,_,E⟩;rw[C0] at E;cases E
 rintro n0 C D ⟨g,k,p,a3,a4,q,u,c,ab,r8,ac,E⟩;refine AI ?_ q u;clear q u D C;rw[C0] at E;refine AU ?_;refine AF O E (λad E=>?_) (λad E=>?_)
 ·refine AU ?_;refine AZ ?_;obtain⟨a5,F,E⟩:=bd E;obtain⟨s,G,E⟩:=bd E;obtain⟨a6,H,E⟩:=bd E;obtain⟨t,I,E⟩:=bd E;obtain⟨a7,J,E⟩:=bd E;refine R8 (m:=[(0,b),(2,vI g),(3,vI k)]) 13 [2,3] (λi v z=>match i with|0=>v=b|1=>v=vI g∧AA g|2=>v=b|3=>v=vI k∧AA k|4=>v=b|5=>v=vI k∧AA k|6=>EP b (k.toNat*((BB.intk .u8)).sz+0) v|7=>v= .int .u8 s∧IntKind.has .u8 s|8=>v=b|9=>v=vI g∧AA g|10=>EP b (g.toNat*((BB.intk .u8)).sz+0) v|11=>v= .int .u8 t∧IntKind.has .u8 t|12=>EP b (g.toNat*((BB.intk .u8)).sz+0) v|_=>False) [[],[],[],[],[],[],[(4,18),(5,19)],[(6,20)],[],[],[(8,22),(9,23)],[(10,24)],[(0,14),(1,15)]] [(2,16),(3,17),(7,21),(11,25),(12,26)] mo (by kernel_rfl) [0,2,3] O (by kernel_rfl) (by kernel_rfl) (by kernel_rfl) (kp [0,2,3] O) MO ?_ ?_ ?_
  ·refine Pd.cons [] (by kernel_rfl) O O (by kernel_rfl) ?_ ?_
   ·intro A z o;intro a q;exact⟨b,ME q O,O⟩
   refine Pd.cons [] (by kernel_rfl) O O (by kernel_rfl) ?_ ?_
   ·intro A z o;intro a q;exact⟨vI k,ME q O,⟨O,ac⟩⟩
   exact trivial
  ·refine AW.cons O Fg (AW.cons O Fg (AW.cons O Fg (AW.cons O Fg (AW.cons O Fg (AW.cons O Fg (AW.cons O ?_ ?_))))))
   ·intro A z o;intro a8 af a9 ag;have d:=o.st c;cases af;obtain⟨rfl,ba⟩:=ag;refine AU ?_;refine BT d mh O O sl_267.1 F O λbb K=>AU ?_;exact CR K
   refine AW.cons O ?_ ?_
   ·intro A z o;intro bc ah;have d:=o.st c;refine AU ?_;have ai:=d.epAt mh G Co.id ah;refine SH FC (λ_ x=>x) O ai ty_5.1 O λaj=>AU ?_;exact CR ⟨O,aj⟩
   refine AW.cons O Fg (AW.cons O Fg (AW.cons O ?_ ?_))
   ·intro A z o;intro be ak bf al;have d:=o.st c;cases ak;obtain⟨rfl,bg⟩:=al;refine AU ?_;refine BT d mh O O sl_267.1 H O λbh M=>AU ?_;exact CR M
   refine AW.cons O ?_ ?_
   ·intro A z o;intro bi am;have d:=o.st c;refine AU ?_;have an:=d.epAt mh I Co.id am;refine SH FC (λ_ x=>x) O an ty_5.1 O λao=>AU ?_;exact CR ⟨O,ao⟩
   refine AW.cons O ?_ ?_
   ·intro A z o;intro bj ap bk aq;have d:=o.st c;cases ap;obtain⟨rfl,bl⟩:=aq;refine AU ?_;refine BT d mh O O sl_267.1 J O λbm Q=>AU ?_;exact CR Q
   exact trivial
  intro bn ar bo au bp av bq aw br ax bs ay;have U:=SN.st c ar;cases au;obtain⟨rfl,bt⟩:=av;obtain⟨rfl,az⟩:=aw;obtain⟨rfl,a0⟩:=ax;obtain⟨a1,V,E⟩:=bd E;refine De (r:=(BB.intk .u8)) (l:=p) (i:=g) (x:=a1) O O (⟨_,O,O,az⟩:Rd _ _ (BB.intk .u8) _ s) ay V MT.id ty_5.1 (λ_=>rfl) U .head λbu y bv=>AU ?_;obtain⟨bw,W,E⟩:=bd E;refine BT y mh O O sl_267.1 W O λbx X=>AU ?_;obtain⟨a2,Y,E⟩:=bd E;refine De (r:=(BB.intk .u8)) (l:=(upd p g s)) (i:=k) (x:=a2) O O (⟨_,O,O,a0⟩:Rd _ _ (BB.intk .u8) _ t) X Y MT.id ty_5.1 (λ_=>rfl) y .head λbz Z b0=>AU ?_;refine BD (AU ?_);refine WF.nil (λC D q u=>?_);exact⟨(BG (g+1)),(BG (k-1)),(upd (upd p g s) k t),_,_,q.sub (kp [0,2,3] O),u,Z,EX,(BF _),(BF _),E⟩
 refine JI O (WF.nil (λC D q u=>?_));cases E;exact Hk q O u Hj O ab ⟨O,c⟩
end Go.Proofs.YtedgiljmffngoaaGreat
