import Derived.Test.YtabonambpbofgaaGreatMInst
import Derived.Test.YtabonambpbofgaaGreatMForms
import Derived.Test.YtabonambpbofgaaGreatMSort5
import Derived.Test.YtabonambpbofgaaGreatMCore47
import Derived.Test.YtabonambpbofgaaGreatMSortD
import Derived.Test.YtabonambpbofgaaGreatMWalk1
import Derived.Test.YtabonambpbofgaaGreatMWalk3
namespace Go.Proofs.YtabonambpbofgaaGreat
set_option linter.all false
open Go.RowKit
open Go.Proofs.Tryz
set_option maxRecDepth 10000
set_option maxHeartbeats 20000000
variable {N:Nat}{S:Nat→Prop}{L:List HP}{h:AO}
def Ov (hs:St S L h) {j:Value}{k:AF}(u:Rd S h BZ j k) {r:Bool}(E:Ew N k=some r):
 CJ prog 77 #[j] S h (λv S' h'=>v= .bool r∧St S' (L) h'):=by
 refine CJ.go 51 func77 O ntmps77 O λB=>?_;rw[Ew] at E;refine AU ?_;refine Cn O u CE O hs λq1 S2 h3 ai e5 k6=>?_;have k8:=k6.fl HG;obtain⟨v9,_,aj⟩:=k8.ll;refine AU ?_;refine AS (λa w=>IV B S2 h3 (51,[]) a w [] (L) λ_ _=>Dd N=some r) ?_ ?_
 ·refine A6 (λn1=>λa w=>∃(m:Int),IV B S2 h3 (51,[]) a w [(7,vI (↑k.C.length:Int)),(6,v9),(1,q1),(8,vI m)] (L) λ_ _=>AA m∧CS N k (Dd N) n1 m=some r) N ?_ ?_ ?_
  ·intro y z p q;exact⟨0,_,_,p.sub (kp [7,6,1,8] O),q,ai,(BF.refl S2 h3),(iq (n:=0) O),E⟩
  ·rintro y z ⟨_,_,_,_,_,_,_,_,E⟩;rw[CS] at E;cases E
  rintro n1 y z ⟨m,ba,bb,p,q,x,F,bc,E⟩;refine AL ?_ p q;clear p q z y;rw[CS] at E;refine AU ?_;refine AH O E (λak E=>?_) (λak E=>?_)
  ·refine AU ?_;refine A4 (AU ?_);have am:=aj.mono' F;refine BH E O O am N2.1 O λbe E bf an=>?_;obtain⟨bg,_,ao⟩:=an.lv;refine AU ?_;refine Dp OI O x λbh bi G ap=>?_;have A:=ao.mono ap;obtain⟨bj,bk,bl,rfl,bm,aq,H,ar,bn,bo,bp,bq,br,bs,bt,bu,bv,bw,bx,bz,b0,au⟩:=B8.ex A;refine JZ O O O ON OM.1 O G .head O λb1 l I=>AU ?_;refine CW (.inl O) l (AU ?_);refine BA E O O O He O (λJ K h' o=>CY (St.all h') aq (iq (n:=0) O) (iq (n:=5) O) K) λJ E=>AU ?_;obtain⟨M,b,E⟩:=bd E;refine AY 8 24 (.bool M) ?_ ?_
   ·cases Q:(!J)
    ·have b:=HM Q b;have av:=k6.nw;have aw:=av.fl Ce;obtain⟨b2,_,ax⟩:=aw.ll;have ay:=ax.le;refine AU ?_;refine BA b O O O P1 O (λaz U h' o=>Hy (St.all h') H (K4 ay) U) λaz b=>AU ?_;cases b;exact AZ O
    have b:=HL Q b;cases b;exact BE O O
   refine AU ?_;obtain⟨V,c,E⟩:=bd E;refine AY 8 33 (.bool V) ?_ ?_
   ·cases W:M
    ·have c:=HM W c;have a0:=k6.nw;obtain⟨b3,_,a1⟩:=a0.lv;refine AU ?_;refine BA c O O O eJ O (λa2 X h' o=>NY (St.all h') (a1.mono (o.all l.1)) H ar X) λa2 c=>AU ?_;cases c;exact AZ O
    have c:=HL W c;cases c;exact BE O O
   refine AU ?_;obtain⟨Y,d,E⟩:=bd E;refine AY 5 39 (.bool Y) ?_ ?_
   ·cases Z:V
    ·have d:=HM Z d;refine AU ?_;refine BA d O O O He O (λa3 ab h' o=>CY (St.all h') au (iq (n:=0) O) (iq (n:=240) O) ab) λa3 d=>AU ?_;cases d;exact AZ O
    have d:=HL Z d;cases d;exact BE O O
   refine AU ?_;obtain⟨ac,g,E⟩:=bd E;refine AY 4 44 (.bool ac) ?_ ?_
   ·cases ad:Y
    ·have g:=HM ad g;refine AU ?_;have s:=A.mono I;obtain⟨b4,ae,g⟩:=bd g;refine JX O O O rD O (λh' o=>OH (St.all h') (s.mono (o.all l.1)) ae) (AU ?_);cases g;exact AZ O
    have g:=HL ad g;cases g;exact BE O O
   refine AU ?_;obtain⟨a4,i,E⟩:=bd E;refine AY 4 49 (.bool a4) ?_ ?_
   ·cases af:ac
    ·have i:=HM af i;refine AU ?_;have t:=A.mono I;obtain⟨b5,ag,i⟩:=bd i;refine JX O O O rC O (λh' o=>OD (St.all h') (t.mono (o.all l.1)) ag) (AU ?_);cases i;exact AZ O
    have i:=HL af i;cases i;exact BE O O
   refine BW (kp [49,7,6,1,8] O) λb6 ah b7=>AH O E (λa5 E=>?_) (λa5 E=>?_)
   ·exact RT
   refine AU ?_;refine BK (AU ?_);refine WF.nil (λy z p q=>?_);have D:=ah.drop .head;exact⟨(BO (m+1)),_,_,p.sub (kp [7,6,1,8] O),q,D,EX,(BT _),E⟩
  refine BL O (λy z p q=>?_);exact⟨_,_,p.sub Sa,q,x,F,E⟩
 rintro y z ⟨a7,a8,p,q,a6,a9,E⟩;refine AL ?_ p q;clear p q z y;rw[Dd] at E;exact RT
def Ow (l:St S L h) {c:Value}{i:AF}(d:Rd S h BZ c i) {a:Int}(g:AA a) {b:Int}(j:AA b) {r:Bool}(E:KI N i a b=some r):
 CJ prog 153 #[c,vI a,vI b] S h (λv S' h'=>v= .bool r∧St S' (L) h'):=by
 refine CJ.go 27 func153 O ntmps153 O λB=>?_;rw[KI] at E;refine AU ?_;refine Cn O d CE O l λw S2 x m y n=>AU ?_;refine AH O E (λo E=>?_) (λo E=>?_)
 ·exact RT
 have p:=n.fl Ce;obtain⟨q,_,k⟩:=p.ll;refine AU ?_;exact BH E O O k Mx.1 O λs E t u=>RT
def Nr (hs:St S L h) {m:Value}{d:AF}(u:Rd S h BZ m d) {r:Bool}(E:Ho N d=some r):
 CJ prog 78 #[m] S h (λv S' h'=>v= .bool r∧St S' (L) h'):=by
 refine CJ.go 60 func78 O ntmps78 O λB=>?_;rw[Ho] at E;refine AU ?_;refine Cn O u CE O hs λq1 S2 h3 aq e5 k6=>?_;have k8:=k6.fl Ce;obtain⟨v9,_,ar⟩:=k8.ll;refine AU ?_;refine AS (λa w=>IV B S2 h3 (60,[]) a w [(1,q1)] (L) λ_ _=>D3 N d=some r) ?_ ?_
 ·refine A6 (λn1=>λa w=>∃(p:Int),IV B S2 h3 (60,[]) a w [(10,vI (↑d.A.length:Int)),(9,v9),(1,q1),(11,vI p)] (L) λ_ _=>AA p∧D2 N d (D3 N d) n1 p=some r) N ?_ ?_ ?_
  ·intro k l g j;exact⟨0,_,_,g.sub (kp [10,9,1,11] O),j,aq,(BF.refl S2 h3),(iq (n:=0) O),E⟩
  ·rintro k l ⟨_,_,_,_,_,_,_,_,E⟩;rw[D2] at E;cases E
  rintro n1 k l ⟨p,ch,ci,g,j,x,U,cj,E⟩;refine AL ?_ g j;clear g j l k;rw[D2] at E;refine AU ?_;refine AH O E (λau E=>?_) (λau E=>?_)
  ·refine AU ?_;refine A4 (AU ?_);have av:=ar.mono' U;refine BH E O O av Mx.1 O λck E cl aw=>?_;obtain⟨cm,_,ax⟩:=aw.lv;refine AU ?_;refine Dp Pk O x λcn co V ay=>?_;have az:=ax.mono ay;obtain⟨cp,cq,cr,rfl,cs,ct,a0,cu,cv,cw,cx,cy,a1,cz,c0,c1⟩:=BY.ex az;refine JZ O O O ON Po.1 O V .head O λc2 y c3=>AU ?_;refine CW (.inl O) y ?_;have a2:=k6.nw;obtain⟨c4,_,a3⟩:=a2.lv;refine AU ?_;refine BA E O O O eH O (λa4 W h' o=>Ow (St.all h') (a3.mono (o.all y.1)) a0 a1 W) λa4 E=>AU ?_;refine BW (kp [21,10,9,1,11] O) λc5 X c6=>AH O E (λa5 E=>?_) (λa5 E=>?_)
   ·exact RT
   refine AU ?_;refine BK (AU ?_);refine WF.nil (λk l g j=>?_);have Y:=X.drop .head;exact⟨(BO (p+1)),_,_,g.sub (kp [10,9,1,11] O),j,Y,EX,(BT _),E⟩
  refine BL O (λk l g j=>?_);exact⟨_,_,g.sub (kp [1] O),j,x,U,E⟩
 rintro k l ⟨I,J,g,j,Z,a6,E⟩;refine AL ?_ g j;clear g j l k;rw[D3] at E;have ab:=k6.mono a6;have a7:=ab.fl HG;obtain⟨a8,_,a9⟩:=a7.ll;refine AU ?_;refine AS (λa w=>IV B I J (60,[]) a w [] (L) λ_ _=>Fg N=some r) ?_ ?_
 ·refine A6 (λn3=>λa w=>∃(q:Int),IV B I J (60,[]) a w [(25,vI (↑d.C.length:Int)),(24,a8),(1,q1),(26,vI q)] (L) λ_ _=>AA q∧D1 N d (Fg N) n3 q=some r) N ?_ ?_ ?_
  ·intro k l g j;exact⟨0,_,_,g.sub (kp [25,24,1,26] O),j,Z,(BF.refl I J),(iq (n:=0) O),E⟩
  ·rintro k l ⟨_,_,_,_,_,_,_,_,E⟩;rw[D1] at E;cases E
  rintro n3 k l ⟨q,c7,c8,g,j,z,ac,c9,E⟩;refine AL ?_ g j;clear g j l k;rw[D1] at E;refine AU ?_;refine AH O E (λba E=>?_) (λba E=>?_)
  ·refine AU ?_;refine A4 (AU ?_);have bb:=a9.mono' ac;refine BH E O O bb N2.1 O λbc E da be=>?_;obtain⟨db,_,bf⟩:=be.lv;refine AU ?_;refine Dp OI O z λdc dd ad bg=>?_;have bh:=bf.mono bg;obtain⟨bk,bl,bm,rfl,de,df,dg,bi,bn,bo,bp,bq,br,bs,bt,bu,bv,bw,bx,bz,b0,b1⟩:=B8.ex bh;refine JZ O O O ON OM.1 O ad .head O λb2 s b3=>?_;have t:=ab.nw;have ae:=t.fl Ce;obtain⟨b4,_,af⟩:=ae.ll;refine AU ?_;refine BH E O O af Mx.1 O λb5 E b6 ag=>?_;have ah:=ag.fl N5;have ai:=ah.i;refine AU ?_;refine CW (.inl O) s ?_;obtain⟨b7,_,aj⟩:=t.lv;refine AU ?_;refine BA E O O O eH O (λD K h' o=>Ow (St.all h') (aj.mono (o.all s.1)) ai bi K) λD E=>AU ?_;obtain⟨ak,b,E⟩:=bd E;refine AY 15 58 (.bool ak) ?_ ?_
   ·cases G:(!D)
    ·have b:=HM G b;refine AU ?_;obtain⟨am,c,b⟩:=bd b;refine AY 10 57 (.bool am) ?_ ?_
     ·cases H:(decide (bc.F=4))
      ·have c:=HM H c;cases c;exact BE O O
      have c:=HL H c;have an:=t.fl Ce;obtain⟨b8,_,ao⟩:=an.ll;refine AU ?_;refine BH c O O ao Mx.1 O λb9 c ca cb=>AU ?_;cases c;exact AZ O
     refine AU ?_;cases b;exact AZ O
    have b:=HL G b;cases b;exact BE O O
   refine BW (kp [58,25,24,1,26] O) λcc M cd=>AH O E (λap E=>?_) (λap E=>?_)
   ·exact RT
   refine AU ?_;refine BK (AU ?_);refine WF.nil (λk l g j=>?_);have Q:=M.drop .head;exact⟨(BO (q+1)),_,_,g.sub (kp [25,24,1,26] O),j,Q,EX,(BT _),E⟩
  refine BL O (λk l g j=>?_);exact⟨_,_,g.sub Sa,j,z,ac,E⟩
 rintro k l ⟨ce,cf,g,j,bj,cg,E⟩;refine AL ?_ g j;clear g j l k;rw[Fg] at E;exact RT
def I2 (F:St S L h) {b:Int}(k:AA b) {c:Int}(l:AA c) {r:Int}(E:Gf N b c=some r):
 CJ prog 154 #[vI b,vI c] S h (λv S' h'=>v=vI r∧AA r∧St S' (L) h'):=by
 refine CJ.go 34 func154 O ntmps154 O λB=>?_;rw[Gf] at E;refine AU ?_;refine AH O E (λG E=>?_) (λG E=>?_)
 ·exact RT
 refine AU ?_;refine AH O E (λH E=>?_) (λH E=>?_)
 ·exact RT
 refine AU ?_;refine CW (.inl O) F (AU ?_);refine JE O Qr M4 O ?_;obtain⟨s,t,E⟩:=bd E;refine Jp (v:= .tuple #[.int .u64 s.1,.int .u64 s.2]) (Ψ:=IntKind.has .u64 s.1∧IntKind.has .u64 s.2) O O O dW O (λh' o=>(MG (St.all h') (FX _ _) (show IntKind.has .u64 1099511627776 by first|assumption|exact⟨by decide,by decide⟩) t).mono λ_ _ _ _ p=>⟨p.1,⟨p.2.1,p.2.2.1⟩⟩) λI=>?_;obtain⟨J,K⟩:=I;refine AU ?_;refine BW (kp [6,5,1] O) λY u Z=>AU ?_;refine CW (.inl O) u (AU ?_);refine JE O Qr M4 O ?_;obtain⟨d,q,E⟩:=bd E;refine Jp (v:= .tuple #[.int .u64 d.1,.int .u64 d.2]) (Ψ:=IntKind.has .u64 d.1∧IntKind.has .u64 d.2) O O O dV O (λh' o=>(MH (St.all h') J K (FX _ _) q).mono λ_ _ _ _ p=>⟨p.1,⟨p.2.1,p.2.2.1⟩⟩) λx=>?_;obtain⟨y,M⟩:=x;refine AU ?_;refine BW (kp [8,7] O) λj i Q=>AU ?_;refine IC (λa w=>∃(g:Int),IV B S j (34,[]) a w [(7,.int .u64 g)] (L) λ_ _=>IntKind.has .u64 g∧KH N g=some r) ?_ ?_
 ·refine AH O E (λz E=>?_) (λz E=>?_)
  ·refine AU ?_;refine WF.nil (λA C m n=>?_);exact⟨(IntKind.wrap .u64 (d.1+1)),_,_,m.sub (kp [7] O),n,i,(BF.refl S j),(FX _ _),E⟩
  refine AU ?_;refine WF.nil (λA C m n=>?_);exact⟨d.1,_,_,m.sub (kp [7] O),n,i,(BF.refl S j),y,E⟩
 rintro A C ⟨g,U,V,m,n,D,W,X,E⟩;refine AL ?_ m n;clear m n C A;rw[KH] at E;refine AU ?_;exact JE O M4 Qr O (RT)
def P5 (hs:St S L h) {c:Value}{b:(List (List BU))}(i:Sl S h (A5.sl CA) c b) {r:Int}(E:JW N b=some r):
 CJ prog 155 #[c] S h (λv S' h'=>v=vI r∧AA r∧St S' (L) h'):=by
 refine CJ.go 48 func155 O ntmps155 O λB=>?_;rw[JW] at E;refine AU ?_;refine AS (λa w=>∃(J:Int),IV B S h (48,[]) a w [(3,vI J)] (L) λ_ _=>AA J∧Ee N J=some r) ?_ ?_
 ·refine A6 (λK=>λa w=>∃(A:Int) (j:Int),IV B S h (48,[]) a w [(8,vI (↑b.length:Int)),(7,c),(3,vI A),(9,vI j)] (L) λ_ _=>AA A∧AA j∧Dg N b (Ee N) K A j=some r) N ?_ ?_ ?_
  ·intro k l d g;exact⟨0,0,_,_,d.sub (kp [8,7,3,9] O),g,hs,(BF.refl S h),(iq (n:=0) O),(iq (n:=0) O),E⟩
  ·rintro k l ⟨_,_,_,_,_,_,_,_,_,_,E⟩;rw[Dg] at E;cases E
  rintro K k l ⟨A,j,y,z,d,g,u,C,r9,ah,E⟩;refine AL ?_ d g;clear d g l k;rw[Dg] at E;refine AU ?_;refine AH O E (λM E=>?_) (λM E=>?_)
  ·refine AU ?_;refine AS (λa w=>∃(q:Int),IV B y z (48,[]) a w [(8,vI (↑b.length:Int)),(7,c),(9,vI j),(3,vI q)] (L) λ_ _=>AA q∧GK N j (Dg N b (Ee N) K) q=some r) ?_ ?_
   ·refine AU ?_;have Q:=i.mono' C;refine BH E O O Q oJ.1 O λU E ai V=>?_;obtain⟨W,_,s⟩:=V.ll;refine AU ?_;refine A4 (A6 (λn3=>λa w=>∃(m:Int) (t:Int),IV B y z (48,[]) a w [(5,W),(8,vI (↑b.length:Int)),(7,c),(9,vI j),(3,vI m),(6,vI t)] (L) λ_ _=>AA m∧AA t∧FJ N U (GK N j (Dg N b (Ee N) K)) n3 m t=some r) N ?_ ?_ ?_)
    ·intro k l d g;exact⟨A,1,_,_,d.sub (kp [5,8,7,9,3,6] O),g,u,(BF.refl y z),r9,(iq (n:=1) O),E⟩
    ·rintro k l ⟨_,_,_,_,_,_,_,_,_,_,E⟩;rw[FJ] at E;cases E
    rintro n3 k l ⟨m,t,aj,ak,d,g,x,p,D,al,E⟩;refine AL ?_ d g;clear d g l k;rw[FJ] at E;have am:=s.mono' p;refine AU ?_;refine AH O E (λX E=>?_) (λX E=>?_)
    ·refine AU ?_;refine A4 (CW (.inr ⟨mo,by kernel_rfl⟩) x (AU ?_));have Y:=s.mono' p;refine BH E O O Y K0.1 O λan E ao ap=>AU ?_;have Z:=s.mono' p;refine BH E O O Z K0.1 O λaq E ar au=>AU ?_;have ab:=s.mono' p;refine BH E O O ab K0.1 O λav E aw ax=>AU ?_;have ac:=s.mono' p;refine BH E O O ac K0.1 O λay E az a0=>AU ?_;refine DF E O O O Q7 O (λF G h' o=>I2 (St.all h') (BT _) (BT _) G) λF E ad=>?_;have ae:=ad;refine RI O O O (AU ?_);refine BW (kp [3,5,8,7,9,6] O) λa1 H a2=>BK (AU ?_);refine WF.nil (λk l d g=>?_);exact⟨(max m F),(BO (t+1)),_,_,d.sub (kp [5,8,7,9,3,6] O),g,H,EX,(Q6 D ae),(BT _),E⟩
    refine JB O (WF.nil (λk l d g=>?_));exact⟨m,_,_,d.sub (kp [8,7,9,3] O),g,x,p,D,E⟩
   rintro k l ⟨q,a3,a4,d,g,I,a5,af,E⟩;refine AL ?_ d g;clear d g l k;rw[GK] at E;refine AU ?_;refine WF.nil (λk l d g=>?_);exact⟨q,(BO (j+1)),_,_,d.sub (kp [8,7,3,9] O),g,I,EX,af,(BT _),E⟩
  refine BL O (λk l d g=>?_);exact⟨A,_,_,d.sub (kp [3] O),g,u,C,r9,E⟩
 rintro k l ⟨J,a6,a7,d,g,ag,a8,r3,E⟩;refine AL ?_ d g;clear d g l k;rw[Ee] at E;exact RT
def OE (hs:St S L h) {ai:Value}{k:AF}(a3:Rd S h BZ ai k) {r:Bool}(E:H3 N k=some r):
 CJ prog 79 #[ai] S h (λv S' h'=>v= .bool r∧St S' (L) h'):=by
 refine CJ.go 128 func79 O ntmps79 O λB=>?_;rw[H3] at E;refine AU ?_;refine Cn O a3 CE O hs λq1 S2 h3 fp e5 k6=>AU ?_;obtain⟨dk,E⟩:=LX E;refine LE (r:=AB) (zx:=0) H5 O ⟨O,by unfold AA;omega⟩ O O dk O O fp λq bo dl fq=>?_;have dm:=k6.mono fq;have fr:=dm.fl Ce;obtain⟨fs,_,ft⟩:=fr.ll;refine AU ?_;refine AS (λa w=>∃(a4:List Int),IV B S2 bo (128,[]) a w [(3,q),(1,q1)] (OS AB 3 q a4::L) λ_ _=>EG N k a4=some r) ?_ ?_
 ·refine A6 (λn1=>λa w=>∃(ah:Int) (an:List Int),IV B S2 bo (128,[]) a w [(16,vI (↑k.A.length:Int)),(15,fs),(3,q),(1,q1),(17,vI ah)] (OS AB 3 q an::L) λ_ _=>AA ah∧EE N k (EG N k) n1 ah an=some r) N ?_ ?_ ?_
  ·intro t u d g;exact⟨0,(List.replicate ((↑k.A.length:Int):Int).toNat (0:Int)),_,_,d.sub (kp [16,15,3,1,17] O),g,dl,(BF.refl S2 bo),(iq (n:=0) O),E⟩
  ·rintro t u ⟨_,_,_,_,_,_,_,_,_,E⟩;rw[EE] at E;cases E
  rintro n1 t u ⟨ah,an,js,jt,d,g,a8,dn,ju,E⟩;refine AL ?_ d g;clear d g u t;rw[EE] at E;refine AU ?_;refine AH O E (λfu E=>?_) (λfu E=>?_)
  ·refine AU ?_;refine A4 (AU ?_);have fv:=ft.mono' dn;refine BH E O O fv Mx.1 O λjv E jw fw=>?_;obtain⟨jx,_,fx⟩:=fw.lv;refine AU ?_;refine Dp Pk O a8 λjy jz dp fy=>AU ?_;have f0:=fx.mono fy;obtain⟨j0,j1,j2,rfl,j3,j4,j5,j6,j7,j8,f1,f2,j9,ka,kb,kc⟩:=BY.ex f0;refine JZ O O O ON Po.1 O dp .head O λkd dq ke=>AU ?_;refine DK (AU ?_);refine DN E O O O Q7 O dq (λbp dr=>I2 (St.all _) f1 f2 dr) λbp E kf kg kh a9 ki kj p=>?_;obtain⟨rfl,f3,gf⟩:=p;refine AU ?_;obtain⟨kk,ds,E⟩:=bd E;refine BS a9 (mt mh) O O CQ.1 ds O λkl dt=>AU ?_;obtain⟨f4,du,E⟩:=bd E;refine EM (r:=AB) (l:=an) (i:=ah) (x:=f4) O O (⟨_,O,O,f3⟩:Rd _ _ AB _ bp) dt du L7.id FE.1 (λ_=>rfl) a9 (.tail .head) λkm dv kn=>AU ?_;refine BK (AU ?_);refine WF.nil (λt u d g=>?_);have dw:=dv.sel [1] 1 O;exact⟨(BO (ah+1)),(upd an ah bp),_,_,d.sub (kp [16,15,3,1,17] O),g,dw,EX,(BT _),E⟩
  refine BL O (λt u d g=>?_);exact⟨an,_,_,d.sub (kp [3,1] O),g,a8,dn,E⟩
 rintro t u ⟨a4,bq,br,d,g,dx,f5,E⟩;refine AL ?_ d g;clear d g u t;rw[EG] at E;have f6:=dm.mono f5;have f7:=f6.fl HG;obtain⟨ap,_,f8⟩:=f7.ll;refine AU ?_;refine AS (λa w=>∃(ao:List Int),IV B bq br (128,[]) a w [(3,q)] (OS AB 3 q ao::L) λ_ _=>C9 N ao=some r) ?_ ?_
 ·refine A6 (λn3=>λa w=>∃(U:Int) (y:List Int),IV B bq br (128,[]) a w [(33,vI (↑k.C.length:Int)),(32,ap),(3,q),(34,vI U)] (OS AB 3 q y::L) λ_ _=>AA U∧B0 N k (C9 N) n3 U y=some r) N ?_ ?_ ?_
  ·intro t u d g;exact⟨0,a4,_,_,d.sub (kp [33,32,3,34] O),g,dx,(BF.refl bq br),(iq (n:=0) O),E⟩
  ·rintro t u ⟨_,_,_,_,_,_,_,_,_,E⟩;rw[B0] at E;cases E
  rintro n3 t u ⟨U,y,G,dy,d,g,aq,ba,ko,E⟩;refine AL ?_ d g;clear d g u t;rw[B0] at E;refine AU ?_;refine AH O E (λdz E=>?_) (λdz E=>?_)
  ·refine AU ?_;refine AS (λa w=>∃(aj:List Int),IV B G dy (128,[]) a w [(33,vI (↑k.C.length:Int)),(32,ap),(3,q),(34,vI U)] (OS AB 3 q aj::L) λ_ _=>Cv N U (B0 N k (C9 N) n3) aj=some r) ?_ ?_
   ·refine AU ?_;have d0:=f8.mono' ba;refine BH E O O d0 N2.1 O λc E gg d1=>?_;obtain⟨gh,_,d2⟩:=d1.lv;refine AU ?_;refine Dp OI O aq λz gi bs d3=>?_;have d4:=d2.mono d3;obtain⟨bb,bc,be,rfl,gj,gl,gm,gn,d5,d6,d7,gp,gq,gr,gs,bf,bg,gu,gv,bh,bi,gw⟩:=B8.ex d4;refine JZ O O O ON OM.1 O bs .head O λH j gx=>AU ?_;refine A4 (AU ?_);refine AH O E (λd8 E=>?_) (λd8 E=>?_)
    ·refine AU ?_;obtain⟨gy,bt,E⟩:=bd E;obtain⟨J,bu,E⟩:=bd E;obtain⟨K,bv,E⟩:=bd E;obtain⟨gz,bw,E⟩:=bd E;refine M0 (m:=[(7,vP z 0),(33,vI (↑k.C.length:Int)),(32,ap),(3,q),(34,vI U)]) 17 (λi v hh=>match i with|0=>v=q|1=>v=vP z 2|2=>v=vI c.M∧AA c.M|3=>EP q (c.M.toNat*(AB).sz+0) v|4=>v=vI J∧AA J|5=>v=vP z 4|6=>Sl G hh CA v c.As|7=>v=vP z 5|8=>v=vP z 5|9=>Sl G hh CA v c.Ad.Av|10=>v=vP z 5|11=>v=vP z 6|12=>Sl G hh CA v c.Ad.Aw|13=>Sl (SN G H hh) hh (A5.sl CA) v ([c.As,c.Ad.Av,c.Ad.Aw]:List (List BU))∧∃ad,v= .slice (some ad) 3 3|14=>v=vI K∧AA K|15=>v=vI (BO (J+K))∧AA (BO (J+K))|16=>EP q (c.M.toNat*(AB).sz+0) v|_=>False) [[],[],[(1,43)],[(0,42),(2,44)],[(3,45)],[],[(5,47)],[],[(7,49)],[(8,50)],[],[(10,52)],[(11,53)],[(6,48),(9,51),(12,54)],[(13,55)],[(4,46),(14,56)],[(0,42),(2,44)]] [(15,57),(16,58)] mo (by kernel_rfl) [7,33,32,3,34] O (by kernel_rfl) (by kernel_rfl) (by kernel_rfl) (kp [7,33,32,3,34] O) MO ?_ ?_
     ·refine A3.cons O Fe (A3.cons O Fe (A3.cons O Fe (A3.cons O ?_ ?_)))
      ·intro mq hh o;intro g0 d9 g1 eb;have I:=o.st j;cases d9;obtain⟨rfl,g2⟩:=eb;refine AU ?_;refine BS I (mt mh) O O CQ.1 bt O λg3 bx=>AU ?_;exact BV bx
      refine A3.cons O ?_ ?_
      ·intro mq hh o;intro g4 ec;have I:=o.st j;refine AU ?_;have ed:=I.epAt (mt mh) bu Fd.id ec;refine Ez Hi (λ_ x=>x) O ed FE.1 O λee=>AU ?_;exact BV ⟨O,ee⟩
      refine A3.cons O Fe (A3.cons O ?_ ?_)
      ·intro mq hh o;intro g5 ef;have I:=o.st j;cases ef;refine AU ?_;have eg:=d5.nw;exact BV eg
      refine A3.cons O Fe (A3.cons O Fe (A3.cons O ?_ ?_))
      ·intro mq hh o;intro g6 eh;have I:=o.st j;cases eh;refine AU ?_;have ei:=d6.nw;exact BV ei
      refine A3.cons O Fe (A3.cons O Fe (A3.cons O ?_ ?_))
      ·intro mq hh o;intro g7 ej;have I:=o.st j;cases ej;refine AU ?_;have ek:=d7.nw;exact BV ek
      refine A3.cons O ?_ ?_
      ·intro mq hh o;intro el X em Z en ab;have I:=SN.st j o;have X:=Sl.sn H X;have X:Sl _ _ CA el c.As:=X;have Z:=Sl.sn H Z;have Z:Sl _ _ CA em c.Ad.Av:=Z;have ab:=Sl.sn H ab;have ab:Sl _ _ CA en c.Ad.Aw:=ab;have f9:=I.fz;obtain⟨bz,a5,rfl,g8⟩:=(X).len;obtain⟨b0,a6,rfl,g9⟩:=(Z).len;obtain⟨b1,a7,rfl,ha⟩:=(ab).len;refine ID (cs:=[(.slice bz c.As.length a5),(.slice b0 c.Ad.Av.length a6),(.slice b1 c.Ad.Aw.length a7)]) pU O O O O O O O f9 λhc hd b2 ar=>?_;have eo:=ab.mono' ar;have ep:=Z.mono' ar;have eq:=X.mono' ar;have b3:=b2.bxos (r:=(A5.sl CA)) (l:=([c.As,c.Ad.Av,c.Ad.Aw]:List (List BU))) .head ⟨_,_,O,⟨_,O,eq⟩,⟨_,_,O,⟨_,O,ep⟩,⟨_,_,O,⟨_,O,eo⟩,O⟩⟩⟩ (by simp [maxLen]);obtain⟨he,b4,hg,er⟩:=b3.pubs .head;have au:=Fz.done o EX b4;exact A7 au.1 ⟨Sl.mono' er au.2,_,O⟩
      refine A3.cons O ?_ ?_
      ·intro mq hh o;intro hi av;have I:=SN.st j o;obtain⟨av,ga,rfl⟩:=av;refine FZ O O O rB O I (P5 (St.all _) (av.mono I.ea.1 I.ea.2) bv) λhj hk hl gb hm bj p=>?_;obtain⟨rfl,es,gc⟩:=p;exact A7 ⟨bj.siz,λb hb=>bj.same b hb⟩ ⟨O,es⟩
      refine A3.cons O Fe (A3.cons O ?_ ?_)
      ·intro mq hh o;intro hn eu ho ev;have I:=o.st j;cases eu;obtain⟨rfl,hp⟩:=ev;refine AU ?_;refine BS I (mt mh) O O CQ.1 bw O λhq b5=>AU ?_;exact BV b5
      exact trivial
     intro hr ew ht ey hu ez;have b6:=SN.st j ew;obtain⟨rfl,e0⟩:=ey;obtain⟨e1,b7,E⟩:=bd E;refine EM (r:=AB) (l:=y) (i:=c.M) (x:=e1) O O (⟨_,O,O,e0⟩:Rd _ _ AB _ (BO (J+K))) ez b7 L7.id FE.1 (λ_=>rfl) b6 (.tail .head) λhv W hx=>AU ?_;refine AH O E (λe2 E=>?_) (λe2 E=>?_)
     ·refine Ns 12 mo (by kernel_rfl) O W (AU ?_);obtain⟨hy,b8,E⟩:=bd E;refine BS W (mt mh) O O CQ.1 b8 O λhz b9=>?_;obtain⟨bk,ca,E⟩:=bd E;have e3:=W.epAt (mt mh) ca Fd.id b9;refine Ez PT (λ_ x=>x) O e3 FE.1 O λh0=>AU ?_;refine DF E O O O Q7 O (λaw cb h' o=>I2 (St.all h') bh bi cb) λaw E e4=>?_;have h1:=e4;refine AU ?_;obtain⟨h2,cc,E⟩:=bd E;refine BS W (mt mh) O O CQ.1 cc O λh4 cd=>MT λh5 ce h6=>?_;obtain⟨e6,cf,E⟩:=bd E;refine EM (r:=AB) (l:=(upd y c.M (BO (J+K)))) (i:=c.E) (x:=e6) O O (⟨_,O,O,(BT _)⟩:Rd _ _ AB _ (BO (bk+aw))) cd cf L7.id FE.1 (λ_=>rfl) ce (.tail .head) λh7 cg h8=>AU ?_;refine BK (WF.nil (λt u d g=>?_));have ch:=cg.sel [1] 1 O;exact⟨(upd (upd y c.M (BO (J+K))) c.E (BO (bk+aw))),_,_,d.sub (kp [33,32,3,34] O),g,ch,EX,E⟩
     refine AU ?_;refine BK (WF.nil (λt u d g=>?_));have ci:=W.sel [1] 1 O;exact⟨(upd y c.M (BO (J+K))),_,_,d.sub (kp [33,32,3,34] O),g,ci,EX,E⟩
    refine AU ?_;refine IC (λa w=>∃(ax:Bool),IV B G H (128,[]) a w [(39,vI c.F),(7,vP z 0),(33,vI (↑k.C.length:Int)),(32,ap),(3,q),(34,vI U),(74,.bool ax)] (Bx z 139 [.string c.D,vI c.F,vI c.M,vI c.E,bb,bc,be,vI c.V,vI c.Ag,vI c.Bb,vI c.Bc,vI c.Y,vI c.S,vI c.Ay,vI c.Az,vI c.Aq,vI c.Al,vI c.Q]::OS AB 3 q y::L) λ_ _=>EF N y c (Cv N U (B0 N k (C9 N) n3)) ax=some r) ?_ ?_
    ·refine AH O E (λe7 E=>?_) (λe7 E=>?_)
     ·refine AU ?_;refine WF.nil (λt u d g=>?_);exact⟨(decide (c.F=1)),_,_,d.sub (kp [39,7,33,32,3,34,74] O),g,j,(BF.refl G H),E⟩
     refine AU ?_;refine IC (λa w=>∃(ak:Bool),IV B G H (128,[]) a w [(39,vI c.F),(7,vP z 0),(33,vI (↑k.C.length:Int)),(32,ap),(3,q),(34,vI U),(74,.bool ak)] (Bx z 139 [.string c.D,vI c.F,vI c.M,vI c.E,bb,bc,be,vI c.V,vI c.Ag,vI c.Bb,vI c.Bc,vI c.Y,vI c.S,vI c.Ay,vI c.Az,vI c.Aq,vI c.Al,vI c.Q]::OS AB 3 q y::L) λ_ _=>IB N (EF N y c (Cv N U (B0 N k (C9 N) n3))) ak=some r) ?_ ?_
     ·refine AH O E (λe8 E=>?_) (λe8 E=>?_)
      ·refine AU ?_;refine WF.nil (λt u d g=>?_);exact⟨(decide (c.F=5)),_,_,d.sub (kp [39,7,33,32,3,34,74] O),g,j,(BF.refl G H),E⟩
      refine AU ?_;refine WF.nil (λt u d g=>?_);exact⟨(decide (c.F=3)),_,_,d.sub (kp [39,7,33,32,3,34,74] O),g,j,(BF.refl G H),E⟩
     rintro t u ⟨ak,h9,ia,d,g,cj,e9,E⟩;refine AL ?_ d g;clear d g u t;rw[IB] at E;refine WF.nil (λt u d g=>?_);exact⟨ak,_,_,d.sub (kp [39,7,33,32,3,34,74] O),g,cj,e9,E⟩
    rintro t u ⟨ax,ib,ic,d,g,s,ie,E⟩;refine AL ?_ d g;clear d g u t;rw[EF] at E;refine AH O E (λfa E=>?_) (λfa E=>?_)
    ·refine Ns 12 mo (by kernel_rfl) O s (AU ?_);obtain⟨ig,ck,E⟩:=bd E;refine BS s (mt mh) O O CQ.1 ck O λih cl=>?_;obtain⟨bl,cm,E⟩:=bd E;have fb:=s.epAt (mt mh) cm Fd.id cl;refine Ez PT (λ_ x=>x) O fb FE.1 O λii=>AU ?_;refine DF E O O O Q7 O (λay cn h' o=>I2 (St.all h') bf bg cn) λay E fc=>?_;have ij:=fc;refine AU ?_;obtain⟨ik,co,E⟩:=bd E;refine BS s (mt mh) O O CQ.1 co O λil cp=>MT λim cq io=>?_;obtain⟨fd,cr,E⟩:=bd E;refine EM (r:=AB) (l:=y) (i:=c.M) (x:=fd) O O (⟨_,O,O,(BT _)⟩:Rd _ _ AB _ (BO (bl+ay))) cp cr L7.id FE.1 (λ_=>rfl) cq (.tail .head) λip ct ir=>AU ?_;refine BK (WF.nil (λt u d g=>?_));have cu:=ct.sel [1] 1 O;exact⟨(upd y c.M (BO (bl+ay))),_,_,d.sub (kp [33,32,3,34] O),g,cu,EX,E⟩
    refine AU ?_;refine AH O E (λfe E=>?_) (λfe E=>?_)
    ·refine AU ?_;refine Ns 13 mo (by kernel_rfl) O s (AU ?_);obtain⟨it,cv,E⟩:=bd E;refine BS s (mt mh) O O CQ.1 cv O λiu cw=>?_;obtain⟨az,cx,E⟩:=bd E;have ff:=s.epAt (mt mh) cx Fd.id cw;refine Ez PT (λ_ x=>x) O ff FE.1 O λiv=>AU ?_;refine DF E O O O Q7 O (λam cy h' o=>I2 (St.all h') bf bg cy) λam E fg=>?_;have iw:=fg;refine AU ?_;obtain⟨iy,cz,E⟩:=bd E;refine BS s (mt mh) O O CQ.1 cz O λiz c0=>MT λi0 c1 i1=>?_;obtain⟨fh,c2,E⟩:=bd E;refine EM (r:=AB) (l:=y) (i:=c.M) (x:=fh) O O (⟨_,O,O,(BT _)⟩:Rd _ _ AB _ (BO (az+(BO (2*am))))) c0 c2 L7.id FE.1 (λ_=>rfl) c1 (.tail .head) λi2 ac i3=>AU ?_;refine Ns 13 mo (by kernel_rfl) O ac (AU ?_);obtain⟨i4,c3,E⟩:=bd E;refine BS ac (mt mh) O O CQ.1 c3 O λi5 c4=>?_;obtain⟨bm,c5,E⟩:=bd E;have fi:=ac.epAt (mt mh) c5 Fd.id c4;refine Ez PT (λ_ x=>x) O fi FE.1 O λi6=>AU ?_;refine DF E O O O Q7 O (λa0 c6 h' o=>I2 (St.all h') bh bi c6) λa0 E fj=>?_;have i7:=fj;refine AU ?_;obtain⟨i8,c7,E⟩:=bd E;refine BS ac (mt mh) O O CQ.1 c7 O λi9 c8=>MT λja c9 jb=>?_;obtain⟨fk,da,E⟩:=bd E;refine EM (r:=AB) (l:=(upd y c.M (BO (az+(BO (2*am)))))) (i:=c.E) (x:=fk) O O (⟨_,O,O,(BT _)⟩:Rd _ _ AB _ (BO (bm+(BO (2*a0))))) c8 da L7.id FE.1 (λ_=>rfl) c9 (.tail .head) λjc db jd=>AU ?_;refine BK (WF.nil (λt u d g=>?_));have dc:=db.sel [1] 1 O;exact⟨(upd (upd y c.M (BO (az+(BO (2*am))))) c.E (BO (bm+(BO (2*a0))))),_,_,d.sub (kp [33,32,3,34] O),g,dc,EX,E⟩
    refine AU ?_;refine BK (WF.nil (λt u d g=>?_));have dd:=s.sel [1] 1 O;exact⟨y,_,_,d.sub (kp [33,32,3,34] O),g,dd,EX,E⟩
   rintro t u ⟨aj,je,jf,d,g,de,jg,E⟩;refine AL ?_ d g;clear d g u t;rw[Cv] at E;refine AU ?_;refine WF.nil (λt u d g=>?_);exact⟨(BO (U+1)),aj,_,_,d.sub (kp [33,32,3,34] O),g,de,EX,(BT _),E⟩
  refine BL O (λt u d g=>?_);exact⟨y,_,_,d.sub (kp [3] O),g,aq,ba,E⟩
 rintro t u ⟨ao,a1,a2,d,g,df,jh,E⟩;refine AL ?_ d g;clear d g u t;rw[C9] at E;refine AU ?_;refine AS (λa w=>IV B a1 a2 (128,[]) a w [] (L) λ_ _=>GB N=some r) ?_ ?_
 ·refine A6 (λn8=>λa w=>∃(ag:Int),IV B a1 a2 (128,[]) a w [(120,vI (↑ao.length:Int)),(119,q),(121,vI ag)] (OS AB 3 q ao::L) λ_ _=>AA ag∧ED N ao (GB N) n8 ag=some r) N ?_ ?_ ?_
  ·intro t u d g;exact⟨0,_,_,d.sub (kp [120,119,121] O),g,df,(BF.refl a1 a2),(iq (n:=0) O),E⟩
  ·rintro t u ⟨_,_,_,_,_,_,_,_,E⟩;rw[ED] at E;cases E
  rintro n8 t u ⟨ag,ji,jj,d,g,af,bn,jk,E⟩;refine AL ?_ d g;clear d g u t;rw[ED] at E;refine AU ?_;refine AH O E (λfm E=>?_) (λfm E=>?_)
  ·refine AU ?_;refine A4 (AU ?_);obtain⟨jl,dg,E⟩:=bd E;refine BS af mh O O CQ.1 dg O λjm dh=>?_;obtain⟨jn,di,E⟩:=bd E;have fn:=af.epAt mh di Fd.id dh;refine Ez Hi (λ_ x=>x) O fn FE.1 O λjo=>AU ?_;refine AH O E (λfo E=>?_) (λfo E=>?_)
   ·exact RT
   refine AU ?_;refine BK (AU ?_);refine WF.nil (λt u d g=>?_);exact⟨(BO (ag+1)),_,_,d.sub (kp [120,119,121] O),g,af,bn,(BT _),E⟩
  refine BL O (λt u d g=>?_);have dj:=af.drop .head;exact⟨_,_,d.sub Sa,g,dj,bn,E⟩
 rintro t u ⟨jp,jq,d,g,ge,jr,E⟩;refine AL ?_ d g;clear d g u t;rw[GB] at E;exact RT
end Go.Proofs.YtabonambpbofgaaGreat
