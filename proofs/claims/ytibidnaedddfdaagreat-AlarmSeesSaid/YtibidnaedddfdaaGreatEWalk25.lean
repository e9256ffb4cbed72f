import Derived.Test.YtibidnaedddfdaaGreatEFacts
import Derived.Test.YtibidnaedddfdaaGreatEForms
import Derived.Test.YtibidnaedddfdaaGreatEInsert
import Derived.Test.YtibidnaedddfdaaGreatEWalk0
import Derived.Test.YtibidnaedddfdaaGreatEWalk1
import Derived.Test.YtibidnaedddfdaaGreatEWalk2
import Derived.Test.YtibidnaedddfdaaGreatEWalk19
import Derived.Test.YtibidnaedddfdaaGreatEWalk24
namespace Go.Proofs.YtibidnaedddfdaaGreat
set_option linter.all false
open Go.RowKit
open Go.Proofs.Tryz
set_option maxRecDepth 10000
set_option maxHeartbeats 2000000
variable {N:Nat}{S:Nat→Prop}{L:List HP}{h:AX}
def Q5 (l:St S L h) {a:Int}(i:AA a) {b:Value}{g:(List AV)}(d:Pt S h (BU.sl B8) b g) {c:Value}{c2_:Int}(j:Pt S h AY c c2_) {r:Bool}(E:FY N g c2_ a=some r):
 CD prog 166 #[vI a,b,c] S h (λv S' h'=>v= .bool r∧St S' (L) h'):=by
 refine A7 12 func166 O ntmps166 O λB=>?_;rw[FY] at E;refine AU ?_;refine Ix (.inr ⟨mo,by kernel_rfl⟩) ?_;obtain⟨m,_,k⟩:=d.ll;refine AU ?_;exact AN E O O k sl_54.1 O λn E o p=>RT
def OU (hs:St S L h) {i:Value}{k:(List AV)}(m:Sl S h B8 i k) {d:Int}(q:AA d) {r:Int×Bool}(E:JJ N k d=some r):
 CD prog 137 #[i,vI d] S h (λv S' h'=>v= .tuple #[vI r.1,.bool r.2]∧AA r.1∧St S' (L) h'):=by
 refine A7 69 func137 O ntmps137 O λB=>?_;rw[JJ] at E;refine AU ?_;refine AT O (Se m) (λ_=>rfl) O hs λq1 S2 h3 ag e5 k6=>AT O (⟨_,O,O,q⟩:Rd _ _ AY _ d) (λ_=>rfl) O ag λq7 S8 h9 t ah ai=>AU ?_;refine WF.rc (.inr ⟨mo,by kernel_rfl⟩) t ?_;have A:=k6.mono ah;obtain⟨ba,_,aj⟩:=A.ll;refine AU ?_;refine BC E O O O Q6 O (λM Q h' o=>HH (St.all h') (aj.mono' (o.all t.1)) Q) λM E=>AU ?_;obtain⟨ak,b,E⟩:=bd E;refine A6 10 24 (.bool ak) ?_ ?_
 ·cases U:(!M)
  ·have b:=H8 U b;obtain⟨bb,_,am⟩:=A.ll;refine AU ?_;refine AN b O O am sl_54.1 O λbc b be bf=>AU ?_;cases b;exact A5 O
  have b:=H7 U b;cases b;exact BO O O
 refine BD (kp [24,3,2] O) λan l V=>AE O E (λao E=>?_) (λao E=>?_)
 ·refine AU ?_;refine WF.ret (λJ K c j=>?_);cases E;exact IS c O j (GB (KG c (v:=_) O) (GB (KG c (v:=_) O) ID)) O EX ⟨O,(iq (n:=0) O),l⟩
 refine AU ?_;refine WF.rc (.inl O) l ?_;have C:=A.mono V;obtain⟨bg,_,ap⟩:=C.ll;have aq:=ap.le;refine AU ?_;refine Ma O O O ?_;have W:=ai.mono V;have X:Rd S8 an (BU.fn prog (λx:Int=>([vI x]:List Value)) (λx:Int=>AA x) (λy:Bool=> .bool y) (λy:Bool=>True)) (.func (.func 166) #[] #[q1,q7]) (λx=>FY N k d x):=NZ 166 #[q1,q7] kW λS' h' s' e' L hs x y h1 h2=>(Q5 hs h1 (C.mono'' s' e') (W.mono'' s' e') h2).mono λ_ _ _ _ p=>⟨p.1,trivial,p.2⟩
 refine BB E O O O aR O (λar Y h' o=>OM (St.all h') (M0 aq) (X.mono (o.all l.1)) Y) λar E au=>?_;have bh:=au;refine AU ?_;refine BD (kp [6,3,2] O) λbi u av=>AU ?_;refine AE O E (λaw E=>?_) (λaw E=>?_)
 ·refine AU ?_;refine WF.ret (λJ K c j=>?_);cases E;exact IS c O j (GB (KG c (v:=_) O) (GB (KG c (v:=_) O) ID)) O EX ⟨O,(iq (n:=0) O),u⟩
 have Z:=C.mono av;obtain⟨bj,_,ax⟩:=Z.ll;refine AU ?_;refine AN E O O ax sl_54.1 O λD E bk ay=>?_;obtain⟨bl,_,az⟩:=ay.lv;refine AU ?_;refine BZ VK O u λab bm ac a0=>?_;have a1:=az.mono a0;obtain⟨rfl,⟨bn,bo⟩⟩:=B8.ex a1;refine AW O O O O ty_90.1 O ac .head O λbp ad bq=>AU ?_;refine WF.rc (.inr ⟨mo,by kernel_rfl⟩) ad ?_;have br:=W.nw;have ae:=Z.nw;obtain⟨bs,_,a2⟩:=ae.ll;refine AU ?_;refine AN E O O a2 sl_54.1 O λbt E bu bv=>?_;obtain⟨bw,_,a3⟩:=ae.ll;refine AU ?_;refine AN E O O a3 sl_54.1 O λbx E bz b0=>AU ?_;obtain⟨g,af,E⟩:=bd E;refine Hu (v:= .tuple #[vI g.1,vI g.2.1,.bool g.2.2]) (Ψ:=AA g.1∧AA g.2.1) O O O TR O (λh' o=>(KU (St.all h') (B1 _) (B1 _) (B1 _) af).mono λ_ _ _ _ p=>⟨p.1,⟨p.2.1,p.2.2.1⟩⟩) λa4=>?_;obtain⟨a5,b1⟩:=a4;refine AU ?_;refine BD (kp [9,8,7] O) λF z b2=>AU ?_;refine Er (λa w=>∃(s:Int),IV B S8 F (69,[]) a w [(7,vP ab 0),(8,vI s)] (Bx ab 90 [vI D.H,vI D.L]::L) λ_ _=>AA s∧JN N D s=some r) ?_ ?_
 ·refine AE O E (λa6 E=>?_) (λa6 E=>?_)
  ·refine AU ?_;refine WF.nil (λJ K c j=>?_);exact⟨(BR (g.1+1)),_,_,c.sub (kp [7,8] O),j,z,(Cc.refl S8 F),(B1 _),E⟩
  refine AU ?_;refine WF.nil (λJ K c j=>?_);exact⟨g.1,_,_,c.sub (kp [7,8] O),j,z,(Cc.refl S8 F),a5,E⟩
 rintro J K ⟨s,a7,a8,c,j,G,a9,b3,E⟩;refine AI ?_ c j;clear c j K J;rw[JN] at E;refine AU ?_;refine WF.ret (λJ K c j=>?_);have I:=G.drop .head;cases E;exact IS c O j (GB (KG c (v:=_) O) (GB (KG c (v:=_) O) ID)) O EX ⟨O,(B1 _),I⟩
def Tl (hs:St S L h) {c:Value}{a:AB}(g:Rd S h AC c a) {d:Value}{b:AB}(j:Rd S h AC d b) {r:AB×Bool}(E:LY N a b=some r):
 CD prog 138 #[c,d] S h (λv S' h'=>v= .tuple #[.agg #[vI r.1.B,vI r.1.A],.bool r.2]∧AB.ok r.1∧St S' (L) h'):=by
 refine A7 23 func138 O ntmps138 O λB=>?_;rw[LY] at E;refine AU ?_;refine AT O g CE O hs λq1 S2 h3 Q e5 k6=>?_;have k7:=j.mono e5;refine AT O k7 CE O Q λq8 S9 ac q ad U=>BZ EA O q λae af s V=>?_;have t:=k6.nw;have W:=t.fl AB.f_Lo;have u:=W.i;have w:=U.mono V;have X:=w.fl AB.f_Lo;have y:=X.i;refine AU ?_;refine Ku O O O ?_;have Y:=t.fl AB.f_Hi;have z:=Y.i;have Z:=w.fl AB.f_Hi;have C:=Z.i;refine AU ?_;refine Ka O O O (B6 (cs:=[vI (max a.B b.B),vI (min a.A b.A)]) Fv O O O (AU ?_));refine BZ EA O s λag ah D ai=>?_;refine AW O O O O ty_51.1 O D .head O λaj F ak=>AU ?_;refine WF.rc (.inl O) F (AU ?_);obtain⟨am,G,E⟩:=bd E;refine Lp O O O TS O (λh' o=>JR (St.all h') (AC.mk (x:=(⟨(max a.B b.B),(min a.A b.A)⟩:AB)) ⟨(HK u y),(G4 z C)⟩) G) (AU ?_);refine BD (kp [20,6,4] O) λan k ao=>AE O E (λab E=>?_) (λab E=>?_)
 ·refine AU ?_;refine B6 (cs:=[vI 0,vI 0]) Fv O O O (AU ?_);refine AW O O O O ty_51.1 O k (.tail .head) O λap H aq=>AU ?_;refine WF.ret (λaa ww p I=>?_);have l:=H.sel [1] 1 O;have J:=l.drop .head;cases E;exact IS p O I (GB (K5 p I l O mh ty_51.1 O) (GB (KG p (v:=_) O) ID)) O EX ⟨O,⟨(iq (n:=0) O),(iq (n:=0) O)⟩,J⟩
 refine AU ?_;refine AW O O O O ty_51.1 O k (.tail .head) O λar K au=>AU ?_;refine WF.ret (λaa ww p I=>?_);have m:=K.sel [1] 1 O;have M:=m.drop .head;cases E;exact IS p O I (GB (K5 p I m O mh ty_51.1 O) (GB (KG p (v:=_) O) ID)) O EX ⟨O,⟨(HK u y),(G4 z C)⟩,M⟩
def SK (hs:St S L h) {g:Value}{F:AF}(C:Rd S h B7 g F) {j:Value}{G:BW}(D:Rd S h Dj j G) {r:AB×Bool}(E:IM N F G=some r):
 CD prog 82 #[g,j] S h (λv S' h'=>v= .tuple #[.agg #[vI r.1.B,vI r.1.A],.bool r.2]∧AB.ok r.1∧St S' (L) h'):=by
 refine A7 81 func82 O ntmps82 O λB=>?_;rw[IM] at E;refine AU ?_;refine AT O C CE O hs λq1 S2 h3 ba e5 k6=>?_;have k7:=D.mono e5;refine AT O k7 CE O ba λq8 S9 cf ag cg bb=>BZ EA O ag λah ch k bc=>AU ?_;refine Ej ?_;have K:=k6.nw;obtain⟨ci,_,be⟩:=K.lv;have ai:=bb.mono bc;obtain⟨cj,_,bf⟩:=ai.lv;refine AU ?_;refine Hb E O O O lH O k (λbg aj=>Rh (St.all _) (be.mono k.ea) (bf.mono k.ea) aj) λbg E ck cl cm ak cn co p=>?_;obtain⟨rfl,⟨cp,cq,cr,ct,cu⟩,bz⟩:=p;refine AU ?_;refine BZ QL O ak λcv cw am cx=>?_;refine AW O O O O ty_147.1 O am .head O λcy l cz=>?_;have c0:=K.nw;refine AU ?_;refine AE O E (λbh E=>?_) (λbh E=>?_)
 ·refine AU ?_;refine B6 (cs:=[vI 0,vI 0]) Fv O O O (AU ?_);refine AW O O O O ty_51.1 O l (.tail .head) O λc1 an c2=>AU ?_;refine WF.ret (λM Q b d=>?_);have H:=an.sel [1] 1 O;have ao:=H.drop .head;cases E;exact IS b O d (GB (K5 b d H O mh ty_51.1 O) (GB (KG b (v:=_) O) ID)) O EX ⟨O,⟨(iq (n:=0) O),(iq (n:=0) O)⟩,ao⟩
 have bi:=K.nw;have bj:=bi.fl Ck;obtain⟨c3,_,bk⟩:=bj.ll;refine AU ?_;refine AN E O O bk sl_23.1 O λc4 E c5 bl=>?_;have bm:=bl.fl EU.f_Level;obtain⟨c6,_,U⟩:=bm.ll;refine AU ?_;refine WF.rc (.inl O) l (AU ?_);refine BC E O O O Q6 O (λbn ap h' o=>HH (St.all h') (U.mono' (o.all l.1)) ap) λbn E=>AU ?_;refine BD (kp [49,8,4,3] O) λc7 m bo=>AE O E (λbp E=>?_) (λbp E=>?_)
 ·refine AU ?_;refine B6 (cs:=[vI 0,vI 0]) Fv O O O (AU ?_);refine AW O O O O ty_51.1 O m (.tail .head) O λc8 aq c9=>AU ?_;refine WF.ret (λM Q b d=>?_);have I:=aq.sel [1] 1 O;have ar:=I.drop .head;cases E;exact IS b O d (GB (K5 b d I O mh ty_51.1 O) (GB (KG b (v:=_) O) ID)) O EX ⟨O,⟨(iq (n:=0) O),(iq (n:=0) O)⟩,ar⟩
 refine AU ?_;refine WF.rc (.inl O) m ?_;have au:=ai.nw;have bq:=au.fl K3;have br:=bq.fl AB.f_Lo;have bs:=br.i;refine AU ?_;have bt:=U.mono' bo;refine BB E O O O bE O (λq av h' o=>OU (St.all h') (bt.mono' (o.all m.1)) bs av) λq E bu=>?_;have bv:=bu;refine AU ?_;refine BD (kp [7,9,8,4,3] O) λda s bw=>AU ?_;refine AE O E (λaw E=>?_) (λaw E=>?_)
 ·refine AU ?_;refine B6 (cs:=[vI 0,vI 0]) Fv O O O (AU ?_);refine AW O O O O ty_51.1 O s (.tail .head) O λb0 V b1=>AU ?_;refine WF.ret (λM Q b d=>?_);have t:=V.sel [1] 1 O;have W:=t.drop .head;cases E;exact IS b O d (GB (K5 b d t O mh ty_51.1 O) (GB (KG b (v:=_) O) ID)) O EX ⟨O,⟨(iq (n:=0) O),(iq (n:=0) O)⟩,W⟩
 refine AU ?_;refine WF.rc (.inl O) s ?_;have ax:=au.mono bw;have ay:=ax.fl K3;have az:=ay.fl AB.f_Hi;have a0:=az.i;refine AU ?_;refine BB E O O O Q7 O (λa1 X h' o=>IP (St.all h') a0 (iq (n:=1) O) X) λa1 E a2=>?_;have a3:=a2;have a4:=U.nw;refine BB E O O O bE O (λJ Y h' o=>OU (St.all h') (a4.mono' (o.all s.1)) a3 Y) λJ E a5=>?_;have b2:=a5;refine AU ?_;refine BD (kp [12,11,10,9,4] O) λu y b3=>AU ?_;refine Er (λa w=>∃(c:Int),IV B S9 u (81,[]) a w [(9,vI q.1),(4,vP ah 0),(10,vI c)] (Bx ah 51 [vI 0,vI 0]::L) λ_ _=>AA c∧E2 N q c=some r) ?_ ?_
 ·refine AE O E (λa6 E=>?_) (λa6 E=>?_)
  ·refine AU ?_;refine WF.nil (λM Q b d=>?_);have Z:=y.sel [1] 1 O;exact⟨(BR (J.1-1)),_,_,b.sub (kp [9,4,10] O),d,Z,(Cc.refl S9 u),(B1 _),E⟩
  refine AU ?_;refine WF.nil (λM Q b d=>?_);have ab:=y.sel [1] 1 O;exact⟨1125899906842624,_,_,b.sub (kp [9,4,10] O),d,ab,(Cc.refl S9 u),(iq (n:=1125899906842624) O),E⟩
 rintro M Q ⟨c,b4,b5,b,d,ac,b6,a7,E⟩;refine AI ?_ b d;clear b d Q M;rw[E2] at E;refine AU ?_;refine Ej (AU ?_);refine B6 (cs:=[vI q.1,vI c]) Fv O O O (B6 (cs:=[vI 0,vI 1125899906842624]) Fv O O O (AU ?_));obtain⟨b7,ad,E⟩:=bd E;refine EQ O O O lG O ac (Tl (St.all _) (AC.mk (x:=(⟨q.1,c⟩:AB)) ⟨bv,a7⟩) (AC.mk (x:=(⟨0,1125899906842624⟩:AB)) ⟨(iq (n:=0) O),(iq (n:=1125899906842624) O)⟩) ad) λb8 b9 ca ae cb cc p=>?_;obtain⟨rfl,⟨a8,a9⟩,bx⟩:=p;refine AU ?_;refine AW O O O O ty_51.1 O ae .head O λcd z ce=>AU ?_;refine WF.ret (λM Q b d=>?_);have af:=z.drop .head;cases E;exact IS b O d (GB (K5 b d z O mh ty_51.1 O) (GB (KG b (v:=_) O) ID)) O EX ⟨O,⟨a8,a9⟩,af⟩
def Rm (hs:St S L h) {D:Value}{m:AF}(K:Rd S h B7 D m) {j:Int}(ab:AA j) {c:Value}{b:(List BW)}(o:Sl S h Dj c b) {r:Bool}(E:JZ N m j b=some r):
 CD prog 33 #[D,vI j,c] S h (λv S' h'=>v= .bool r∧St S' (L) h'):=by
 refine A7 107 func33 O ntmps33 O λB=>?_;rw[JZ] at E;refine AU ?_;refine AT O K CE O hs λq1 S2 h3 bl e5 k6=>AU ?_;obtain⟨bm,k,E⟩:=bd E;refine A6 8 32 (.bool bm) ?_ ?_
 ·cases ax:((decide (j<0))||(decide ((↑m.Ad.length:Int)≤j)))
  ·have k:=H8 ax k;have bn:=k6.fl GT;obtain⟨dj,_,bo⟩:=bn.ll;refine AU ?_;refine AN k O O bo sl_25.1 O λdk k dl dm=>AU ?_;cases k;exact A5 O
  have k:=H7 ax k;cases k;exact BO O O
 refine AU ?_;refine AE O E (λbp E=>?_) (λbp E=>?_)
 ·exact RT
 have bq:=k6.fl GT;obtain⟨dn,_,br⟩:=bq.ll;refine AU ?_;refine AN E O O br sl_25.1 O λd E dp bs=>?_;obtain⟨dq,_,bt⟩:=bs.lv;refine AU ?_;refine BZ Sf O bl λF dr ay bu=>?_;have bv:=bt.mono bu;obtain⟨rfl,⟨ds,dt,du,dv,dw,dx,dy⟩⟩:=Dn.ex bv;refine AW O O O O ty_114.1 O ay .head O λdz az d0=>?_;have a0:=k6.nw;refine AU ?_;obtain⟨a1,E⟩:=RM E;refine Tc (r:=BU.bool) (zx:=false) pP O O O O a1 O O az λQ ac a2 d1=>?_;have bw:=o.nw;refine AU ?_;refine AQ (λa w=>∃(U:Int),IV B S2 ac (107,[]) a w [(7,vP F 0),(9,vI U)] (Bx F 114 [.string d.M,vI d.Ah,vI d.Bd,vI d.Bf,vI d.Bj,vI d.Be,vI d.Ay]::L) λ_ _=>AA U∧Hs N d U=some r) ?_ ?_
 ·refine BJ (λn1=>λa w=>∃(t:Int) (z:Int) (y:List Bool),IV B S2 ac (107,[]) a w [(43,vI (↑b.length:Int)),(42,c),(8,Q),(7,vP F 0),(3,q1),(9,vI t),(44,vI z)] (OS BU.bool 4 Q y::Bx F 114 [.string d.M,vI d.Ah,vI d.Bd,vI d.Bf,vI d.Bj,vI d.Be,vI d.Ay]::L) λ_ _=>AA t∧AA z∧Di N m b d (Hs N d) n1 t z y=some r) N ?_ ?_ ?_
  ·intro G H q s;exact⟨0,0,(List.replicate ((↑m.Ab.length:Int):Int).toNat (false:Bool)),_,_,q.sub (kp [43,42,8,7,3,9,44] O),s,a2,(Cc.refl S2 ac),(iq (n:=0) O),(iq (n:=0) O),E⟩
  ·rintro G H ⟨_,_,_,_,_,_,_,_,_,_,_,E⟩;rw[Di] at E;cases E
  rintro n1 G H ⟨t,z,y,bx,bz,q,s,X,a3,V,d2,E⟩;refine AI ?_ q s;clear q s H G;rw[Di] at E;refine AU ?_;refine AE O E (λb0 E=>?_) (λb0 E=>?_)
  ·refine AU ?_;refine AQ (λa w=>∃(I:Int) (W:List Bool),IV B bx bz (107,[]) a w [(43,vI (↑b.length:Int)),(42,c),(8,Q),(7,vP F 0),(3,q1),(44,vI z),(9,vI I)] (OS BU.bool 4 Q W::Bx F 114 [.string d.M,vI d.Ah,vI d.Bd,vI d.Bf,vI d.Bj,vI d.Be,vI d.Ay]::L) λ_ _=>AA I∧Hr N z (Di N m b d (Hs N d) n1) I W=some r) ?_ ?_
   ·refine AU ?_;have b1:=bw.mono' a3;refine AN E O O b1 sl_86.1 O λJ E d3 b2=>?_;obtain⟨d4,_,b3⟩:=b2.lv;refine AU ?_;refine BZ iE O X λd5 d6 a4 b4=>?_;have b5:=b3.mono b4;obtain⟨rfl,⟨b6,b7,b8,a5⟩⟩:=Dj.ex b5;refine AW O O O O ty_145.1 O a4 .head O λcc u cd=>?_;have ce:=a0.nw;refine AU ?_;obtain⟨a6,g,E⟩:=bd E;refine A6 6 65 (.bool a6) ?_ ?_
    ·cases Y:((decide (J.Ao<0))||(decide ((↑m.Ab.length:Int)≤J.Ao)))
     ·have g:=H8 Y g;refine AU ?_;obtain⟨cf,ad,g⟩:=bd g;refine CS u (mt mh) O O sl_43.1 ad O λcg ae=>AU ?_;obtain⟨ch,af,g⟩:=bd g;have a7:=u.epAt (mt mh) af GC.id ae;refine cI KP (λ_ x=>x) O a7 ty_4.1 O (AU ?_);cases g;exact A5 O
     have g:=H7 Y g;cases g;exact BO O O
    refine AU ?_;refine AE O E (λa8 E=>?_) (λa8 E=>?_)
    ·refine WF.exit O (λG H q s=>?_);have ag:=u.sel [1,1] 1 O;exact⟨t,y,_,_,q.sub (kp [43,42,8,7,3,44,9] O),s,ag,EX,V,E⟩
    have Z:=a0.nw;have a9:=Z.fl H5;obtain⟨ci,_,ba⟩:=a9.ll;refine AU ?_;refine AN E O O ba sl_26.1 O λcj E ck bb=>?_;obtain⟨cl,_,bc⟩:=bb.lv;refine AU ?_;refine BZ QL O u λcm cn ah be=>?_;have bf:=bc.mono be;obtain⟨rfl,⟨co,cp,cq,cr,cs⟩⟩:=De.ex bf;refine AW O O O O ty_147.1 O ah .head O λct A cu=>AU ?_;refine AE O E (λbg E=>?_) (λbg E=>?_)
    ·refine WF.exit O (λG H q s=>?_);have ai:=A.sel [2,2] 2 O;exact⟨t,y,_,_,q.sub (kp [43,42,8,7,3,44,9] O),s,ai,EX,V,E⟩
    refine AU ?_;refine Ej ?_;have bh:=Z.nw;obtain⟨cv,_,bi⟩:=bh.lv;refine AU ?_;obtain⟨cw,aj,E⟩:=bd E;refine EQ O O O pY O A (SK (St.all _) (bi.mono A.ea) (Dj.mk (x:=J) ⟨b6,b7,b8,a5⟩) aj) λcx cy cz ak c0 c1 p=>?_;obtain⟨rfl,⟨c2,c3⟩,b9⟩:=p;refine AU ?_;refine BZ EA O ak λc4 c5 am c6=>?_;refine AW O O O O ty_51.1 O am .head O λc7 C c8=>AU ?_;refine AE O E (λbj E=>?_) (λbj E=>?_)
    ·refine AU ?_;obtain⟨c9,an,E⟩:=bd E;refine CS C (mt (mt (mt mh))) O O sl_43.1 an O λda ao=>AU ?_;obtain⟨bk,ap,E⟩:=bd E;refine JD (r:=BU.bool) (l:=y) (i:=J.Ao) (x:=bk) O O (⟨_,O,O⟩:Rd _ _ BU.bool _ true) ao ap QD.id ty_4.1 (λ_=>rfl) C (.tail (.tail (.tail .head))) λdb aq dc=>AU ?_;refine WF.nil (λG H q s=>?_);have ar:=aq.sel [3,3] 3 O;exact⟨(BR (t+1)),(upd y J.Ao true),_,_,q.sub (kp [43,42,8,7,3,44,9] O),s,ar,EX,(B1 _),E⟩
    refine AU ?_;refine WF.nil (λG H q s=>?_);have au:=C.sel [3,3] 3 O;exact⟨t,y,_,_,q.sub (kp [43,42,8,7,3,44,9] O),s,au,EX,V,E⟩
   rintro G H ⟨I,W,dd,de,q,s,av,df,ca,E⟩;refine AI ?_ q s;clear q s H G;rw[Hr] at E;refine AU ?_;refine WF.nil (λG H q s=>?_);exact⟨I,(BR (z+1)),W,_,_,q.sub (kp [43,42,8,7,3,9,44] O),s,av,EX,ca,(B1 _),E⟩
  refine WF.exit O (λG H q s=>?_);have aw:=X.sel [1] 1 O;exact⟨t,_,_,q.sub (kp [7,9] O),s,aw,a3,V,E⟩
 rintro G H ⟨U,dg,dh,q,s,cb,di,d7,E⟩;refine AI ?_ q s;clear q s H G;rw[Hs] at E;exact RT
def OD (U:St S L h) {a:Value}{g:AF}(c:Rd S h B7 a g) {b:Value}{i:BW}(d:Rd S h Dj b i) {r:Id×Bool}(E:Jo N g i=some r):
 CD prog 167 #[a,b] S h (λv S' h'=>v= .tuple #[.agg #[.string r.1.M,vI r.1.F,vI r.1.W,vI r.1.T,vI r.1.Bt],.bool r.2]∧Id.ok r.1∧St S' (L) h'):=by
 refine A7 24 func167 O ntmps167 O λB=>?_;rw[Jo] at E;refine AU ?_;refine AT O c CE O U λq1 S2 h3 t V Q=>?_;have X:=d.mono V;refine AT O X CE O t λq8 S9 Y o Z u=>BZ QL O o λab ac j w=>?_;have ad:=u.mono w;have ae:=Q.nw;refine AU ?_;refine AE O E (λx E=>?_) (λx E=>?_)
 ·refine AU ?_;refine B6 (cs:=[.string ByteArray.empty,vI 0,vI 0,vI 0,vI 0]) ZN O O O (AU ?_);refine AW O O O O ty_147.1 O j .head O λaf k ag=>AU ?_;refine WF.ret (λaa ww m p=>?_);have q:=k.drop .head;cases E;exact IS m O p (GB (K5 m p k O mh ty_147.1 O) (GB (KG m (v:=_) O) ID)) O EX ⟨O,⟨(by first|assumption|decide),(iq (n:=0) O),(iq (n:=0) O),(iq (n:=0) O),(iq (n:=0) O)⟩,q⟩
 have y:=Q.nw;have z:=y.fl H5;obtain⟨ah,_,A⟩:=z.ll;refine AU ?_;refine AN E O O A sl_26.1 O λai E aj C=>?_;obtain⟨ak,_,D⟩:=C.lv;refine AU ?_;obtain⟨rfl,⟨G,H,I,J,K⟩⟩:=De.ex D;refine AW O O O O ty_147.1 O j .head O λam l an=>AU ?_;refine WF.ret (λaa ww m p=>?_);have s:=l.drop .head;cases E;exact IS m O p (GB (K5 m p l O mh ty_147.1 O) (GB (KG m (v:=_) O) ID)) O EX ⟨O,⟨G,H,I,J,K⟩,s⟩
def Lw (U:St S L h) {b:Value}{i:(List AV)}(k:Sl S h B8 b i) {c:Int}(A:AA c) {r:Int}(E:Gv N i c=some r):
 CD prog 169 #[b,vI c] S h (λv S' h'=>v=vI r∧AA r∧St S' (L) h'):=by
 refine A7 24 func169 O ntmps169 O λB=>?_;rw[Gv] at E;refine AU ?_;refine AQ (λa w=>∃(C:Int),IV B S h (24,[]) a w [(5,vI C)] (L) λ_ _=>AA C∧Hn N C=some r) ?_ ?_
 ·refine BJ (λK=>λa w=>∃(t:Int) (u:Int),IV B S h (24,[]) a w [(0,b),(1,vI c),(5,vI t),(6,vI u)] (L) λ_ _=>AA t∧AA u∧Ee N i c (Hn N) K t u=some r) N ?_ ?_ ?_
  ·intro l m d g;exact⟨0,1125899906842625,_,_,d.sub (kp [0,1,5,6] O),g,U,(Cc.refl S h),(iq (n:=0) O),(iq (n:=1125899906842625) O),E⟩
  ·rintro l m ⟨_,_,_,_,_,_,_,_,_,_,E⟩;rw[Ee] at E;cases E
  rintro K l m ⟨t,u,V,W,d,g,j,x,M,D,E⟩;refine AI ?_ d g;clear d g m l;rw[Ee] at E;refine AU ?_;refine AE O E (λF E=>?_) (λF E=>?_)
  ·refine AU ?_;refine BQ (AU ?_);obtain⟨s,p,E⟩:=bd E;have y:IntKind.has .i64 s:=MF p;refine Ps O O O p (AU ?_);refine WF.rc (.inl O) j (AU ?_);have G:=k.mono' x;refine BB E O O O aK O (λH z h' o=>NC (St.all h') (G.mono' (o.all j.1)) (Qz.1 y) z) λH E I=>?_;have X:=I;refine AU ?_;refine BD (kp [19,7,0,1,5,6] O) λY q Z=>AE O E (λJ E=>?_) (λJ E=>?_)
   ·refine AU ?_;refine B3 (WF.nil (λl m d g=>?_));exact⟨t,s,_,_,d.sub (kp [0,1,5,6] O),g,q,EX,M,(Qz.1 y),E⟩
   refine AU ?_;refine B3 (WF.nil (λl m d g=>?_));exact⟨(BR (s+1)),u,_,_,d.sub (kp [0,1,5,6] O),g,q,EX,(B1 _),D,E⟩
  refine WF.exit O (λl m d g=>?_);exact⟨t,_,_,d.sub (kp [5] O),g,j,x,M,E⟩
 rintro l m ⟨C,ab,ac,d,g,Q,ad,r2,E⟩;refine AI ?_ d g;clear d g m l;rw[Hn] at E;exact RT
def OE (hs:St S L h) {g:Value}{C:AF}(y:Rd S h B7 g C) {j:Value}{l:BW}(z:Rd S h Dj j l) {r:AB×Bool}(E:IX N C l=some r):
 CD prog 139 #[g,j] S h (λv S' h'=>v= .tuple #[.agg #[vI r.1.B,vI r.1.A],.bool r.2]∧AB.ok r.1∧St S' (L) h'):=by
 refine A7 81 func139 O ntmps139 O λB=>?_;rw[IX] at E;refine AU ?_;refine AT O y CE O hs λq1 S2 h3 a4 e5 k6=>?_;have k7:=z.mono e5;refine AT O k7 CE O a4 λq8 S9 bz ac b0 a5=>BZ EA O ac λad b1 m a6=>AU ?_;refine Ej ?_;have I:=k6.nw;obtain⟨b2,_,a7⟩:=I.lv;have J:=a5.mono a6;obtain⟨b3,_,a8⟩:=J.lv;refine AU ?_;refine Hb E O O O kV O m (λa9 ae=>OD (St.all _) (a7.mono m.ea) (a8.mono m.ea) ae) λa9 E b4 b5 b6 af b7 b8 p=>?_;obtain⟨rfl,⟨b9,ca,cb,cc,cd⟩,bn⟩:=p;refine AU ?_;refine BZ QL O af λce cf ag cg=>?_;refine AW O O O O ty_147.1 O ag .head O λch q ci=>?_;have cj:=I.nw;refine AU ?_;refine AE O E (λba E=>?_) (λba E=>?_)
 ·refine AU ?_;refine B6 (cs:=[vI 0,vI 0]) Fv O O O (AU ?_);refine AW O O O O ty_51.1 O q (.tail .head) O λck ah cl=>AU ?_;refine WF.ret (λK M b c=>?_);have D:=ah.sel [1] 1 O;have ai:=D.drop .head;cases E;exact IS b O c (GB (K5 b c D O mh ty_51.1 O) (GB (KG b (v:=_) O) ID)) O EX ⟨O,⟨(iq (n:=0) O),(iq (n:=0) O)⟩,ai⟩
 have bb:=I.nw;have bc:=bb.fl Ck;obtain⟨cm,_,be⟩:=bc.ll;refine AU ?_;refine AN E O O be sl_23.1 O λbf E cn bg=>?_;have bh:=bg.fl EU.f_Level;obtain⟨bi,_,Q⟩:=bh.ll;refine AU ?_;refine WF.rc (.inl O) q (AU ?_);refine BC E O O O aQ O (λbj aj h' o=>Lz (St.all h') (Q.mono' (o.all q.1)) aj) λbj E=>?_;have co:=J.nw;refine AU ?_;refine BD (kp [56,8,4,3] O) λak k bk=>AE O E (λbl E=>?_) (λbl E=>?_)
 ·refine AU ?_;refine B6 (cs:=[vI 0,vI 0]) Fv O O O (AU ?_);refine AW O O O O ty_51.1 O k (.tail .head) O λcp am cq=>AU ?_;refine WF.ret (λK M b c=>?_);have F:=am.sel [1] 1 O;have an:=F.drop .head;cases E;exact IS b O c (GB (K5 b c F O mh ty_51.1 O) (GB (KG b (v:=_) O) ID)) O EX ⟨O,⟨(iq (n:=0) O),(iq (n:=0) O)⟩,an⟩
 have bm:=J.nw;refine AU ?_;refine Er (λa w=>∃(d:Int),IV B S9 ak (81,[]) a w [(8,bi),(4,vP ad 0),(3,q8),(9,vI d)] (Bx ad 51 [vI 0,vI 0]::L) λ_ _=>AA d∧GF N l bf d=some r) ?_ ?_
 ·refine AE O E (λao E=>?_) (λao E=>?_)
  ·refine WF.rc (.inl O) k (AU ?_);have ap:=Q.mono' bk;refine BB E O O O aP O (λG U h' o=>Lw (St.all h') (ap.mono' (o.all k.1)) (B1 _) U) λG E aq=>?_;have ar:=aq;refine AU ?_;refine BD (kp [9,8,4,3] O) λbo V au=>WF.nil (λK M b c=>?_);have W:=V.sel [1] 1 O;exact⟨G,_,_,b.sub (kp [8,4,3,9] O),c,W,au,ar,E⟩
  refine AU ?_;refine WF.nil (λK M b c=>?_);have X:=k.sel [1] 1 O;exact⟨0,_,_,b.sub (kp [8,4,3,9] O),c,X,(Cc.refl S9 ak),(iq (n:=0) O),E⟩
 rintro K M ⟨d,bp,bq,b,c,s,av,aw,E⟩;refine AI ?_ b c;clear b c M K;rw[GF] at E;refine AU ?_;refine WF.rc (.inl O) s ?_;have ax:=bm.mono av;have ay:=ax.fl K3;have az:=ay.fl AB.f_Hi;have a0:=az.i;refine AU ?_;have a1:=Q.nw;refine BB E O O O aP O (λH Y h' o=>Lw (St.all h') (a1.mono' (o.all s.1)) a0 Y) λH E a2=>?_;have br:=a2;refine AU ?_;refine BD (kp [10,4,9] O) λbs t bt=>AU ?_;refine AE O E (λa3 E=>?_) (λa3 E=>?_)
 ·refine AU ?_;refine B6 (cs:=[vI 0,vI 0]) Fv O O O (AU ?_);refine AW O O O O ty_51.1 O t .head O λbu u bv=>AU ?_;refine WF.ret (λK M b c=>?_);have Z:=u.drop .head;cases E;exact IS b O c (GB (K5 b c u O mh ty_51.1 O) (GB (KG b (v:=_) O) ID)) O EX ⟨O,⟨(iq (n:=0) O),(iq (n:=0) O)⟩,Z⟩
 refine AU ?_;refine B6 (cs:=[vI d,vI (BR (H-1))]) Fv O O O (AU ?_);refine AW O O O O ty_51.1 O t .head O λbw x bx=>AU ?_;refine WF.ret (λK M b c=>?_);have ab:=x.drop .head;cases E;exact IS b O c (GB (K5 b c x O mh ty_51.1 O) (GB (KG b (v:=_) O) ID)) O EX ⟨O,⟨aw,(B1 _)⟩,ab⟩
end Go.Proofs.YtibidnaedddfdaaGreat
