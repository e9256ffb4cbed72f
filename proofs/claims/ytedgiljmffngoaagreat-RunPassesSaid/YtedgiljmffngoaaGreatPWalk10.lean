import Derived.Test.YtedgiljmffngoaaGreatPInst
import Derived.Test.YtedgiljmffngoaaGreatPForms
import Derived.Test.YtedgiljmffngoaaGreatPSort5
import Derived.Test.YtedgiljmffngoaaGreatPWalk0
import Derived.Test.YtedgiljmffngoaaGreatPWalk2
import Derived.Test.YtedgiljmffngoaaGreatPWalk5
namespace Go.Proofs.YtedgiljmffngoaaGreat
set_option linter.all false
open Go.RowKit
open Go.Proofs.Tryz
set_option maxRecDepth 10000
set_option maxHeartbeats 2000000
variable {N:Nat}{S:Nat→Prop}{L:List HP}{h:AS}
def O0 (k:St S L h) {c:Value}{d:(List Int)}(g:Sl S h AB c d) {a:Int}(i:AA a) {r:Bool}(E:Jt N d a=some r):
 B6 prog 187 #[c,vI a] S h (λv S' h'=>v= .bool r∧St S' (L) h'):=by
 refine A7 21 func187 O ntmps187 O λB=>?_;rw[Jt] at E;refine AU ?_;refine BY (.inl O) k (AU ?_);obtain⟨m,b,E⟩:=bd E;refine AW 3 20 (.bool m) ?_ ?_
 ·cases l:(((decide (0≤a))&&(decide (a≤16)))&&(decide ((↑d.length:Int)=a)))
  ·have b:=Gw l b;cases b;exact BD O O
  have b:=Gv l b;refine AU ?_;refine A5 b O O O eG O (λn j h' o=>Oz (St.all h') (g.mono' (o.all k.1)) j) λn b=>AU ?_;cases b;exact AX O
 refine AU ?_;exact BG (kp [4] O) λs p q=>RT
def SE (hs:St S L h) {p:Value}{j:AE}(G:Rd S h By p j) {q:Value}{i:AF}(I:Rd S h BA q i) {r:Int×Bool}(E:J5 N j i=some r):
 B6 prog 109 #[p,q] S h (λv S' h'=>v= .tuple #[vI r.1,.bool r.2]∧AA r.1∧St S' (L) h'):=by
 refine A7 76 func109 O ntmps109 O λB=>?_;rw[J5] at E;refine AU ?_;refine Bz O G CE O hs λq1 S2 h3 bg e5 k6=>?_;have k7:=I.mono e5;refine Bz O k7 CE O bg λq8 S9 Y aj cr ak=>?_;have bh:=ak.fl FL;obtain⟨bi,_,bj⟩:=bh.ll;refine AU ?_;refine AN (λa w=>∃(u:Int),IV B S9 Y (76,[]) a w [(3,q8),(2,q1),(6,vI u)] (L) λ_ _=>AA u∧E7 N j i u=some r) ?_ ?_
 ·refine AY (λn1=>λa w=>∃(s:Int) (x:Int),IV B S9 Y (76,[]) a w [(14,vI (↑i.E.length:Int)),(13,bi),(3,q8),(2,q1),(6,vI s),(15,vI x)] (L) λ_ _=>AA s∧AA x∧E6 N j i (E7 N j i) n1 s x=some r) N ?_ ?_ ?_
  ·intro k l b g;exact⟨0,0,_,_,b.sub (kp [14,13,3,2,6,15] O),g,aj,(CG.refl S9 Y),(iq (n:=0) O),(iq (n:=0) O),E⟩
  ·rintro k l ⟨_,_,_,_,_,_,_,_,_,_,E⟩;rw[E6] at E;cases E
  rintro n1 k l ⟨s,x,cs,ct,b,g,y,am,bk,cu,E⟩;refine AK ?_ b g;clear b g l k;rw[E6] at E;refine AU ?_;refine AG O E (λbl E=>?_) (λbl E=>?_)
  ·refine AU ?_;refine A3 (AU ?_);have bm:=bj.mono' am;refine A4 E O O bm IP.1 O λcv E cw bn=>?_;obtain⟨cx,_,an⟩:=bn.ll;refine AU ?_;refine BY (.inl O) y ?_;have bo:=k6.nw;have bp:=bo.fl Hb;obtain⟨cy,_,bq⟩:=bp.ll;have br:=bq.le;refine AU ?_;refine A5 E O O O eN O (λbs ao h' o=>O0 (St.all h') (an.mono' (o.all y.1)) (KU br) ao) λbs E=>AU ?_;refine BG (kp [24,8,14,13,3,2,6,15] O) λcz z bt=>AG O E (λbu E=>?_) (λbu E=>?_)
   ·refine AU ?_;refine B0 (λk l b g=>?_);cases E;exact JC b O g (G4 (IC b (v:=_) O) (G4 (IC b (v:=_) O) JB)) O EX ⟨O,(iq (n:=0) O),z⟩
   refine AU ?_;refine BY (.inl O) z (AU ?_);have bv:=an.mono' bt;refine B4 E O O O L9 O (λap aq h' o=>C1 (St.all h') (bv.mono' (o.all z.1)) aq) λap E bw=>?_;have c0:=bw;refine AU ?_;refine BG (kp [6,14,13,3,2,15] O) λc1 K c2=>AU ?_;refine AG O E (λbx E=>?_) (λbx E=>?_)
   ·refine AU ?_;refine B0 (λk l b g=>?_);cases E;exact JC b O g (G4 (IC b (v:=_) O) (G4 (IC b (v:=_) O) JB)) O EX ⟨O,(iq (n:=0) O),K⟩
   refine AU ?_;refine BE (AU ?_);refine WF.nil (λk l b g=>?_);exact⟨(A9 (s+ap)),(A9 (x+1)),_,_,b.sub (kp [14,13,3,2,6,15] O),g,K,EX,(BF _),(BF _),E⟩
  refine A8 O (λk l b g=>?_);exact⟨s,_,_,b.sub (kp [3,2,6] O),g,y,am,bk,E⟩
 rintro k l ⟨u,Z,ab,b,g,ar,bz,b0,E⟩;refine AK ?_ b g;clear b g l k;rw[E7] at E;have au:=ak.mono bz;have b1:=au.fl Fs;obtain⟨b2,_,b3⟩:=b1.ll;refine AU ?_;refine AN (λa w=>∃(J:Int),IV B Z ab (76,[]) a w [(6,vI J)] (L) λ_ _=>AA J∧Hs N J=some r) ?_ ?_
 ·refine AY (λn3=>λa w=>∃(t:Int) (A:Int),IV B Z ab (76,[]) a w [(34,vI (↑i.H.length:Int)),(33,b2),(3,q8),(2,q1),(6,vI t),(35,vI A)] (L) λ_ _=>AA t∧AA A∧GE N j i (Hs N) n3 t A=some r) N ?_ ?_ ?_
  ·intro k l b g;exact⟨u,0,_,_,b.sub (kp [34,33,3,2,6,35] O),g,ar,(CG.refl Z ab),b0,(iq (n:=0) O),E⟩
  ·rintro k l ⟨_,_,_,_,_,_,_,_,_,_,E⟩;rw[GE] at E;cases E
  rintro n3 k l ⟨t,A,c3,c4,b,g,M,av,b4,c5,E⟩;refine AK ?_ b g;clear b g l k;rw[GE] at E;refine AU ?_;refine AG O E (λb5 E=>?_) (λb5 E=>?_)
  ·refine AU ?_;refine A3 (AU ?_);have b6:=b3.mono' av;refine A4 E O O b6 LA.1 O λb7 E c6 b8=>?_;obtain⟨c7,_,b9⟩:=b8.lv;refine AU ?_;refine CP Nq O M λc8 c9 aw ca=>?_;have cb:=b9.mono ca;obtain⟨cd,rfl,ce,ax,Q⟩:=AZ.ex cb;refine DU O O O ON Ns.1 O aw .head O λcf D ay=>AU ?_;refine BY (.inl O) D ?_;have cg:=au.nw;refine AU ?_;obtain⟨U,c,E⟩:=bd E;refine AW 8 52 (.bool U) ?_ ?_
   ·cases V:(decide (b7.Ao<i.C))
    ·have c:=Gw V c;have az:=k6.nw;have a0:=az.fl BZ;obtain⟨ch,_,a1⟩:=a0.ll;have a2:=a1.le;refine AU ?_;refine A5 c O O O PB O (λa3 ac h' o=>HK (St.all h') ax (KU a2) ac) λa3 c=>AU ?_;cases c;exact AX O
    have c:=Gv V c;cases c;exact BD O O
   refine AU ?_;obtain⟨a4,d,E⟩:=bd E;refine AW 8 61 (.bool a4) ?_ ?_
   ·cases W:U
    ·have d:=Gw W d;have a5:=k6.nw;have a6:=a5.fl Hb;obtain⟨ci,_,a7⟩:=a6.ll;have a8:=a7.le;refine AU ?_;have a9:=Q.mono' ay;refine A5 d O O O eN O (λba ad h' o=>O0 (St.all h') (a9.mono' (o.all D.1)) (KU a8) ad) λba d=>AU ?_;cases d;exact AX O
    have d:=Gv W d;cases d;exact BD O O
   refine BG (kp [61,10,34,33,3,2,6,35] O) λcj m ck=>AG O E (λbb E=>?_) (λbb E=>?_)
   ·refine AU ?_;refine B0 (λk l b g=>?_);have ae:=m.drop .head;cases E;exact JC b O g (G4 (IC b (v:=_) O) (G4 (IC b (v:=_) O) JB)) O EX ⟨O,(iq (n:=0) O),ae⟩
   refine AU ?_;refine BY (.inl O) m (AU ?_);have bc:=Q.nw;refine B4 E O O O L9 O (λX af h' o=>C1 (St.all h') (bc.mono' (o.all m.1)) af) λX E be=>?_;have cl:=be;refine AU ?_;refine BG (kp [11,34,33,3,2,6,35] O) λcm F cn=>AU ?_;refine AG O E (λbf E=>?_) (λbf E=>?_)
   ·refine AU ?_;refine B0 (λk l b g=>?_);have ag:=F.drop .head;cases E;exact JC b O g (G4 (IC b (v:=_) O) (G4 (IC b (v:=_) O) JB)) O EX ⟨O,(iq (n:=0) O),ag⟩
   refine AU ?_;refine BE (AU ?_);refine WF.nil (λk l b g=>?_);have ah:=F.drop .head;exact⟨(A9 (t+X)),(A9 (A+1)),_,_,b.sub (kp [34,33,3,2,6,35] O),g,ah,EX,(BF _),(BF _),E⟩
  refine A8 O (λk l b g=>?_);exact⟨t,_,_,b.sub (kp [6] O),g,M,av,b4,E⟩
 rintro k l ⟨J,co,cp,b,g,ai,cq,cc,E⟩;refine AK ?_ b g;clear b g l k;rw[Hs] at E;refine AU ?_;refine B0 (λk l b g=>?_);cases E;exact JC b O g (G4 (IC b (v:=_) O) (G4 (IC b (v:=_) O) JB)) O EX ⟨O,cc,ai⟩
def NS (F:St S L h) {c:Value}{i:(List Int)}(l:Sl S h AB c i) {b:Int}(q:AA b) {r:Int×Bool}(E:Ii N i b=some r):
 B6 prog 110 #[c,vI b] S h (λv S' h'=>v= .tuple #[vI r.1,.bool r.2]∧AA r.1∧St S' (L) h'):=by
 refine A7 29 func110 O ntmps110 O λB=>?_;rw[Ii] at E;refine AU ?_;refine AN (λa w=>∃(u:Int),IV B S h (29,[]) a w [(6,vI u)] (L) λ_ _=>AA u∧HQ N u=some r) ?_ ?_
 ·refine AY (λD=>λa w=>∃(s:Int) (j:Int),IV B S h (29,[]) a w [(10,vI (↑i.length:Int)),(9,c),(1,vI b),(6,vI s),(11,vI j)] (L) λ_ _=>AA s∧AA j∧FW N i b (HQ N) D s j=some r) N ?_ ?_ ?_
  ·intro m o d g;exact⟨0,0,_,_,d.sub (kp [10,9,1,6,11] O),g,F,(CG.refl S h),(iq (n:=0) O),(iq (n:=0) O),E⟩
  ·rintro m o ⟨_,_,_,_,_,_,_,_,_,_,E⟩;rw[FW] at E;cases E
  rintro D m o ⟨s,j,G,H,d,g,k,p,I,J,E⟩;refine AK ?_ d g;clear d g o m;rw[FW] at E;refine AU ?_;refine AG O E (λx E=>?_) (λx E=>?_)
  ·refine AU ?_;refine A3 (AU ?_);have y:=l.mono' p;refine A4 E O O y Ce.1 O λz E K M=>AU ?_;refine AG O E (λA E=>?_) (λA E=>?_)
   ·refine AU ?_;refine B0 (λm o d g=>?_);cases E;exact JC d O g (G4 (IC d (v:=_) O) (G4 (IC d (v:=_) O) JB)) O p ⟨O,(iq (n:=0) O),k⟩
   refine AU ?_;refine BE (AU ?_);refine WF.nil (λm o d g=>?_);exact⟨(A9 (s+z)),(A9 (j+1)),_,_,d.sub (kp [10,9,1,6,11] O),g,k,p,(BF _),(BF _),E⟩
  refine A8 O (λm o d g=>?_);exact⟨s,_,_,d.sub (kp [6] O),g,k,p,I,E⟩
 rintro m o ⟨u,Q,U,d,g,t,C,V,E⟩;refine AK ?_ d g;clear d g o m;rw[HQ] at E;refine AU ?_;refine B0 (λm o d g=>?_);cases E;exact JC d O g (G4 (IC d (v:=_) O) (G4 (IC d (v:=_) O) JB)) O C ⟨O,V,t⟩
def Ok (hs:St S L h) {p:Value}{c:AE}(D:Rd S h By p c) {q:Value}{d:AF}(G:Rd S h BA q d) {r:Bool}(E:Jm N c d=some r):
 B6 prog 34 #[p,q] S h (λv S' h'=>v= .bool r∧St S' (L) h'):=by
 refine A7 168 func34 O ntmps34 O λB=>?_;rw[Jm] at E;refine AU ?_;refine Bz O D CE O hs λq1 S2 h3 b5 e5 k6=>?_;have k7:=G.mono e5;refine Bz O k7 CE O b5 λq8 S9 V ak s W=>?_;have en:=k6.mono s;have eo:=k6.mono s;have ep:=k6.mono s;have eq:=k6.mono s;have er:=k6.mono s;refine AU ?_;refine AG O E (λb6 E=>?_) (λb6 E=>?_)
 ·exact RT
 have am:=k6.mono s;have b7:=am.fl BZ;obtain⟨b8,_,b9⟩:=b7.ll;refine AU ?_;refine AN (λa w=>IV B S9 V (168,[]) a w [(3,q8),(2,q1)] (L) λ_ _=>Fw N c d=some r) ?_ ?_
 ·refine AY (λn1=>λa w=>∃(t:Int),IV B S9 V (168,[]) a w [(68,vI (↑c.A.length:Int)),(67,b8),(3,q8),(2,q1),(69,vI t)] (L) λ_ _=>AA t∧Fu N c d (Fw N c d) n1 t=some r) N ?_ ?_ ?_
  ·intro k l g i;exact⟨0,_,_,g.sub (kp [68,67,3,2,69] O),i,ak,(CG.refl S9 V),(iq (n:=0) O),E⟩
  ·rintro k l ⟨_,_,_,_,_,_,_,_,E⟩;rw[Fu] at E;cases E
  rintro n1 k l ⟨t,es,eu,g,i,H,an,ev,E⟩;refine AK ?_ g i;clear g i l k;rw[Fu] at E;refine AU ?_;refine AG O E (λca E=>?_) (λca E=>?_)
  ·refine AU ?_;refine A3 (AU ?_);have cb:=b9.mono' an;refine A4 E O O cb Kk.1 O λew E ey ao=>?_;obtain⟨cd,_,ap⟩:=ao.lv;refine AU ?_;refine CP MS O H λce cf X aq=>AU ?_;have ar:=ap.mono aq;obtain⟨cg,ch,ci,rfl,cj,ck,cl,cm,cn,co,cp,cq,cr,cs,ct,cu⟩:=CJ.ex ar;refine DU O O O ON MW.1 O X .head O λcv Y cw=>AU ?_;refine I0 (.inr ⟨mo,by kernel_rfl⟩) ?_;have I:=W.nw;have au:=I.fl Jx;obtain⟨cx,_,av⟩:=au.ll;refine AU ?_;refine A4 E O O av Ce.1 O λaw E cy cz=>AU ?_;obtain⟨ax,b,E⟩:=bd E;refine AW 11 91 (.bool ax) ?_ ?_
   ·cases J:(decide (aw<0))
    ·have b:=Gw J b;have ay:=I.fl Jx;obtain⟨c0,_,az⟩:=ay.ll;refine AU ?_;refine A4 b O O az Ce.1 O λc1 b c2 c3=>AU ?_;refine Td O O O (AU ?_);cases b;exact AX O
    have b:=Gv J b;cases b;exact BD O O
   refine AU ?_;refine AG O E (λa0 E=>?_) (λa0 E=>?_)
   ·exact RT
   refine AU ?_;refine BE (AU ?_);refine WF.nil (λk l g i=>?_);have Z:=Y.drop .head;exact⟨(A9 (t+1)),_,_,g.sub (kp [68,67,3,2,69] O),i,Z,EX,(BF _),E⟩
  refine A8 O (λk l g i=>?_);exact⟨_,_,g.sub (kp [3,2] O),i,H,an,E⟩
 rintro k l ⟨u,x,g,i,ab,a1,E⟩;refine AK ?_ g i;clear g i l k;rw[Fw] at E;have K:=am.mono a1;have a2:=K.fl Gn;obtain⟨a3,_,a4⟩:=a2.ll;refine AU ?_;refine AN (λa w=>IV B u x (168,[]) a w [(3,q8),(2,q1)] (L) λ_ _=>Fv N c d=some r) ?_ ?_
 ·refine AY (λn3=>λa w=>∃(j:Int),IV B u x (168,[]) a w [(95,vI (↑c.F.length:Int)),(94,a3),(3,q8),(2,q1),(96,vI j)] (L) λ_ _=>AA j∧Ft N c d (Fv N c d) n3 j=some r) N ?_ ?_ ?_
  ·intro k l g i;exact⟨0,_,_,g.sub (kp [95,94,3,2,96] O),i,ab,(CG.refl u x),(iq (n:=0) O),E⟩
  ·rintro k l ⟨_,_,_,_,_,_,_,_,E⟩;rw[Ft] at E;cases E
  rintro n3 k l ⟨j,c4,c5,g,i,y,M,c6,E⟩;refine AK ?_ g i;clear g i l k;rw[Ft] at E;refine AU ?_;refine AG O E (λa5 E=>?_) (λa5 E=>?_)
  ·refine AU ?_;refine A3 (AU ?_);have a6:=a4.mono' M;refine A4 E O O a6 Om.1 O λc7 E c8 a7=>?_;obtain⟨c9,_,a8⟩:=a7.lv;refine AU ?_;refine CP Oe O y λda db ac a9=>AU ?_;have ba:=a8.mono a9;obtain⟨dc,dd,de,rfl,df,dg,dh,di,dj,dk,dl,dm,dn,dp,dq,dr,ds,dt,du,dv,dw,dx⟩:=B7.ex ba;refine DU O O O ON Oj.1 O ac .head O λdy ad dz=>?_;have bb:=W.nw;have bc:=bb.fl Ix;obtain⟨d0,_,be⟩:=bc.ll;refine AU ?_;refine A4 E O O be NV.1 O λd1 E d2 bf=>?_;obtain⟨d3,_,bg⟩:=bf.lv;refine AU ?_;refine CP P7 O ad λd4 d5 ae bh=>?_;have bi:=bg.mono bh;obtain⟨rfl,⟨d6,d7⟩⟩:=BJ.ex bi;refine C0 O O O O Hh.1 O ae .head O λd8 af d9=>AU ?_;refine AG O E (λbj E=>?_) (λbj E=>?_)
   ·exact RT
   refine AU ?_;refine AG O E (λbk E=>?_) (λbk E=>?_)
   ·exact RT
   refine AU ?_;refine BE (AU ?_);refine WF.nil (λk l g i=>?_);have ag:=af.sel [] 2 O;exact⟨(A9 (j+1)),_,_,g.sub (kp [95,94,3,2,96] O),i,ag,EX,(BF _),E⟩
  refine A8 O (λk l g i=>?_);exact⟨_,_,g.sub (kp [3,2] O),i,y,M,E⟩
 rintro k l ⟨ea,eb,g,i,m,bl,E⟩;refine AK ?_ g i;clear g i l k;rw[Fv] at E;refine AU ?_;refine BY (.inl O) m ?_;have bm:=K.mono bl;obtain⟨ec,_,bn⟩:=bm.lv;have Q:=W.nw;obtain⟨ed,_,bo⟩:=Q.lv;refine AU ?_;refine B4 E O O O rR O (λbp ah h' o=>SE (St.all h') (bn.mono (o.all m.1)) (bo.mono (o.all m.1)) ah) λbp E bq=>?_;have ee:=bq;refine AU ?_;refine BG (kp [11,10,3] O) λef z br=>AU ?_;refine AG O E (λbs E=>?_) (λbs E=>?_)
 ·exact RT
 refine AU ?_;refine BY (.inl O) z ?_;have U:=Q.mono br;have bt:=U.fl I1;obtain⟨eg,_,bu⟩:=bt.ll;refine AU ?_;refine B4 E O O O eP O (λbv ai h' o=>NS (St.all h') (bu.mono' (o.all z.1)) (iq (n:=1152921504606846976) O) ai) λbv E bw=>?_;have eh:=bw;refine AU ?_;refine BG (kp [11,12,10,3] O) λei C bx=>AU ?_;refine AG O E (λbz E=>?_) (λbz E=>?_)
 ·exact RT
 refine AU ?_;refine BY (.inl O) C ?_;have b0:=U.mono bx;have b1:=b0.fl HI;obtain⟨ej,_,b2⟩:=b1.ll;refine AU ?_;refine B4 E O O O eP O (λb3 aj h' o=>NS (St.all h') (b2.mono' (o.all C.1)) (BF _) aj) λb3 E b4=>?_;have ek:=b4;refine AU ?_;exact BG (kp [11] O) λel cc em=>RT
def Lx {b:Value}{j:(List Int)}(hs:St S (OS (A6.intk .u8) 5 b j::L) h) {r:(List Int)}(E:Hx N j=some r):
 B6 prog 276 #[b] S h (λv S' h'=>v= .tuple #[]∧St S' (OS (A6.intk .u8) 5 b r::L) h'):=by
 refine A7 28 func276 O ntmps276 O λB=>?_;rw[Hx] at E;refine AU ?_;refine A3 (AY (λn0=>λa w=>∃(g:Int) (k:Int) (p:List Int),IV B S h (28,[]) a w [(0,b),(2,vI g),(3,vI k)] (OS (A6.intk .u8) 5 b p::L) λ_ _=>AA g∧AA k∧D3 N n0 g k p=some r) N ?_ ?_ ?_)
 ·intro C D q u;exact⟨0,(A9 ((↑j.length:Int)-1)),j,_,_,q.sub (kp [0,2,3] O),u,hs,(CG.refl S h),(iq (n:=0) O),(BF _),E⟩
 ·rintro C D ⟨_,_,_,_,_,_,_,_,_,_,_,E⟩;rw[D3] at E;cases E
 rintro n0 C D ⟨g,k,p,a3,a4,q,u,c,ab,r8,ac,E⟩;refine AK ?_ q u;clear q u D C;rw[D3] at E;refine AU ?_;refine AG O E (λad E=>?_) (λad E=>?_)
 ·refine AU ?_;refine A3 ?_;obtain⟨a5,F,E⟩:=bd E;obtain⟨s,G,E⟩:=bd E;obtain⟨a6,H,E⟩:=bd E;obtain⟨t,I,E⟩:=bd E;obtain⟨a7,J,E⟩:=bd E;refine Ta (m:=[(0,b),(2,vI g),(3,vI k)]) 13 [2,3] (λi v z=>match i with|0=>v=b|1=>v=vI g∧AA g|2=>v=b|3=>v=vI k∧AA k|4=>v=b|5=>v=vI k∧AA k|6=>EP b (k.toNat*((A6.intk .u8)).sz+0) v|7=>v= .int .u8 s∧IntKind.has .u8 s|8=>v=b|9=>v=vI g∧AA g|10=>EP b (g.toNat*((A6.intk .u8)).sz+0) v|11=>v= .int .u8 t∧IntKind.has .u8 t|12=>EP b (g.toNat*((A6.intk .u8)).sz+0) v|_=>False) [[],[],[],[],[],[],[(4,18),(5,19)],[(6,20)],[],[],[(8,22),(9,23)],[(10,24)],[(0,14),(1,15)]] [(2,16),(3,17),(7,21),(11,25),(12,26)] mo (by kernel_rfl) [0,2,3] O (by kernel_rfl) (by kernel_rfl) (by kernel_rfl) (kp [0,2,3] O) MO ?_ ?_ ?_
  ·refine Rv.cons [] (by kernel_rfl) O O (by kernel_rfl) ?_ ?_
   ·intro A z o;intro a q;exact⟨b,NO q O,O⟩
   refine Rv.cons [] (by kernel_rfl) O O (by kernel_rfl) ?_ ?_
   ·intro A z o;intro a q;exact⟨vI k,NO q O,⟨O,ac⟩⟩
   exact trivial
  ·refine AV.cons O ET (AV.cons O ET (AV.cons O ET (AV.cons O ET (AV.cons O ET (AV.cons O ET (AV.cons O ?_ ?_))))))
   ·intro A z o;intro a8 af a9 ag;have d:=o.st c;cases af;obtain⟨rfl,ba⟩:=ag;refine AU ?_;refine BT d mh O O RN.1 F O λbb K=>AU ?_;exact BC K
   refine AV.cons O ?_ ?_
   ·intro A z o;intro bc ah;have d:=o.st c;refine AU ?_;have ai:=d.epAt mh G Ff.id ah;refine VP K9 (λ_ x=>x) O ai gT.1 O λaj=>AU ?_;exact BC ⟨O,aj⟩
   refine AV.cons O ET (AV.cons O ET (AV.cons O ?_ ?_))
   ·intro A z o;intro be ak bf al;have d:=o.st c;cases ak;obtain⟨rfl,bg⟩:=al;refine AU ?_;refine BT d mh O O RN.1 H O λbh M=>AU ?_;exact BC M
   refine AV.cons O ?_ ?_
   ·intro A z o;intro bi am;have d:=o.st c;refine AU ?_;have an:=d.epAt mh I Ff.id am;refine VP K9 (λ_ x=>x) O an gT.1 O λao=>AU ?_;exact BC ⟨O,ao⟩
   refine AV.cons O ?_ ?_
   ·intro A z o;intro bj ap bk aq;have d:=o.st c;cases ap;obtain⟨rfl,bl⟩:=aq;refine AU ?_;refine BT d mh O O RN.1 J O λbm Q=>AU ?_;exact BC Q
   exact trivial
  intro bn ar bo au bp av bq aw br ax bs ay;have U:=SN.st c ar;cases au;obtain⟨rfl,bt⟩:=av;obtain⟨rfl,az⟩:=aw;obtain⟨rfl,a0⟩:=ax;obtain⟨a1,V,E⟩:=bd E;refine FK (r:=(A6.intk .u8)) (l:=p) (i:=g) (x:=a1) O O (⟨_,O,O,az⟩:Rd _ _ (A6.intk .u8) _ s) ay V Nh.id gT.1 (λ_=>rfl) U .head λbu y bv=>AU ?_;obtain⟨bw,W,E⟩:=bd E;refine BT y mh O O RN.1 W O λbx X=>AU ?_;obtain⟨a2,Y,E⟩:=bd E;refine FK (r:=(A6.intk .u8)) (l:=(upd p g s)) (i:=k) (x:=a2) O O (⟨_,O,O,a0⟩:Rd _ _ (A6.intk .u8) _ t) X Y Nh.id gT.1 (λ_=>rfl) y .head λbz Z b0=>AU ?_;refine BE (AU ?_);refine WF.nil (λC D q u=>?_);exact⟨(A9 (g+1)),(A9 (k-1)),(upd (upd p g s) k t),_,_,q.sub (kp [0,2,3] O),u,Z,EX,(BF _),(BF _),E⟩
 refine KH O (WF.nil (λC D q u=>?_));cases E;exact JC q O u JB O ab ⟨O,c⟩
end Go.Proofs.YtedgiljmffngoaaGreat
