import Derived.Test.YtabonambpbofgaaGreatKInst
import Derived.Test.YtabonambpbofgaaGreatKForms
import Derived.Test.YtabonambpbofgaaGreatKSort5
import Derived.Test.YtabonambpbofgaaGreatKSortD
import Derived.Test.YtabonambpbofgaaGreatKWalk1
import Derived.Test.YtabonambpbofgaaGreatKWalk3
namespace Go.Proofs.YtabonambpbofgaaGreat
set_option linter.all false
open Go.RowKit
open Go.Proofs.Tryz
set_option maxRecDepth 10000
set_option maxHeartbeats 20000000
variable {N:Nat}{S:Nat→Prop}{L:List HP}{h:AS}
def PH (hs:St S L h) {j:Value}{k:AF}(u:Rd S h B5 j k) {r:Bool}(E:FJ N k=some r):
 CM prog 77 #[j] S h (λv S' h'=>v= .bool r∧St S' (L) h'):=by
 refine CM.go 51 func77 O ntmps77 O λB=>?_;rw[FJ] at E;refine AU ?_;refine Cg O u CE O hs λq1 S2 h3 ai e5 k6=>?_;have k8:=k6.fl HW;obtain⟨v9,_,aj⟩:=k8.ll;refine AU ?_;refine AQ (λa w=>IV B S2 h3 (51,[]) a w [] (L) λ_ _=>D2 N=some r) ?_ ?_
 ·refine A8 (λn1=>λa w=>∃(m:Int),IV B S2 h3 (51,[]) a w [(7,vI (↑k.C.length:Int)),(6,v9),(1,q1),(8,vI m)] (L) λ_ _=>AA m∧Cd N k (D2 N) n1 m=some r) N ?_ ?_ ?_
  ·intro y z p q;exact⟨0,_,_,p.sub (kp [7,6,1,8] O),q,ai,(C2.refl S2 h3),(iq (n:=0) O),E⟩
  ·rintro y z ⟨_,_,_,_,_,_,_,_,E⟩;rw[Cd] at E;cases E
  rintro n1 y z ⟨m,ba,bb,p,q,x,F,bc,E⟩;refine AK ?_ p q;clear p q z y;rw[Cd] at E;refine AU ?_;refine AH O E (λak E=>?_) (λak E=>?_)
  ·refine AU ?_;refine A5 (AU ?_);have am:=aj.mono' F;refine BI E O O am OK.1 O λbe E bf an=>?_;obtain⟨bg,_,ao⟩:=an.lv;refine AU ?_;refine D0 Og O x λbh bi G ap=>?_;have A:=ao.mono ap;obtain⟨bj,bk,bl,rfl,bm,aq,H,ar,bn,bo,bp,bq,br,bs,bt,bu,bv,bw,bx,bz,b0,au⟩:=CD.ex A;refine JI O O O ON Ok.1 O G .head O λb1 l I=>AU ?_;refine CV (.inl O) l (AU ?_);refine BC E O O O Hu O (λJ K h' o=>Co (St.all h') aq (iq (n:=0) O) (iq (n:=5) O) K) λJ E=>AU ?_;obtain⟨M,b,E⟩:=bd E;refine AY 8 24 (.bool M) ?_ ?_
   ·cases Q:(!J)
    ·have b:=HV Q b;have av:=k6.nw;have aw:=av.fl Cv;obtain⟨b2,_,ax⟩:=aw.ll;have ay:=ax.le;refine AU ?_;refine BC b O O O QL O (λaz U h' o=>IF (St.all h') H (Lj ay) U) λaz b=>AU ?_;cases b;exact AZ O
    have b:=HU Q b;cases b;exact BE O O
   refine AU ?_;obtain⟨V,c,E⟩:=bd E;refine AY 8 33 (.bool V) ?_ ?_
   ·cases W:M
    ·have c:=HV W c;have a0:=k6.nw;obtain⟨b3,_,a1⟩:=a0.lv;refine AU ?_;refine BC c O O O fK O (λa2 X h' o=>Nu (St.all h') (a1.mono (o.all l.1)) H ar X) λa2 c=>AU ?_;cases c;exact AZ O
    have c:=HU W c;cases c;exact BE O O
   refine AU ?_;obtain⟨Y,d,E⟩:=bd E;refine AY 5 39 (.bool Y) ?_ ?_
   ·cases Z:V
    ·have d:=HV Z d;refine AU ?_;refine BC d O O O Hu O (λa3 ab h' o=>Co (St.all h') au (iq (n:=0) O) (iq (n:=240) O) ab) λa3 d=>AU ?_;cases d;exact AZ O
    have d:=HU Z d;cases d;exact BE O O
   refine AU ?_;obtain⟨ac,g,E⟩:=bd E;refine AY 4 44 (.bool ac) ?_ ?_
   ·cases ad:Y
    ·have g:=HV ad g;refine AU ?_;have s:=A.mono I;obtain⟨b4,ae,g⟩:=bd g;refine IW O O O sI O (λh' o=>Of (St.all h') (s.mono (o.all l.1)) ae) (AU ?_);cases g;exact AZ O
    have g:=HU ad g;cases g;exact BE O O
   refine AU ?_;obtain⟨a4,i,E⟩:=bd E;refine AY 4 49 (.bool a4) ?_ ?_
   ·cases af:ac
    ·have i:=HV af i;refine AU ?_;have t:=A.mono I;obtain⟨b5,ag,i⟩:=bd i;refine IW O O O sH O (λh' o=>Ob (St.all h') (t.mono (o.all l.1)) ag) (AU ?_);cases i;exact AZ O
    have i:=HU af i;cases i;exact BE O O
   refine BZ (kp [49,7,6,1,8] O) λb6 ah b7=>AH O E (λa5 E=>?_) (λa5 E=>?_)
   ·exact RT
   refine AU ?_;refine BJ (AU ?_);refine WF.nil (λy z p q=>?_);have D:=ah.drop .head;exact⟨(BQ (m+1)),_,_,p.sub (kp [7,6,1,8] O),q,D,EX,(BW _),E⟩
  refine BL O (λy z p q=>?_);exact⟨_,_,p.sub Ri,q,x,F,E⟩
 rintro y z ⟨a7,a8,p,q,a6,a9,E⟩;refine AK ?_ p q;clear p q z y;rw[D2] at E;exact RT
def PI (l:St S L h) {c:Value}{i:AF}(d:Rd S h B5 c i) {a:Int}(g:AA a) {b:Int}(j:AA b) {r:Bool}(E:KV N i a b=some r):
 CM prog 153 #[c,vI a,vI b] S h (λv S' h'=>v= .bool r∧St S' (L) h'):=by
 refine CM.go 27 func153 O ntmps153 O λB=>?_;rw[KV] at E;refine AU ?_;refine Cg O d CE O l λw S2 x m y n=>AU ?_;refine AH O E (λo E=>?_) (λo E=>?_)
 ·exact RT
 have p:=n.fl Cv;obtain⟨q,_,k⟩:=p.ll;refine AU ?_;exact BI E O O k NM.1 O λs E t u=>RT
def OB (hs:St S L h) {m:Value}{d:AF}(u:Rd S h B5 m d) {r:Bool}(E:H4 N d=some r):
 CM prog 78 #[m] S h (λv S' h'=>v= .bool r∧St S' (L) h'):=by
 refine CM.go 60 func78 O ntmps78 O λB=>?_;rw[H4] at E;refine AU ?_;refine Cg O u CE O hs λq1 S2 h3 aq e5 k6=>?_;have k8:=k6.fl Cv;obtain⟨v9,_,ar⟩:=k8.ll;refine AU ?_;refine AQ (λa w=>IV B S2 h3 (60,[]) a w [(1,q1)] (L) λ_ _=>EO N d=some r) ?_ ?_
 ·refine A8 (λn1=>λa w=>∃(p:Int),IV B S2 h3 (60,[]) a w [(10,vI (↑d.A.length:Int)),(9,v9),(1,q1),(11,vI p)] (L) λ_ _=>AA p∧EN N d (EO N d) n1 p=some r) N ?_ ?_ ?_
  ·intro k l g j;exact⟨0,_,_,g.sub (kp [10,9,1,11] O),j,aq,(C2.refl S2 h3),(iq (n:=0) O),E⟩
  ·rintro k l ⟨_,_,_,_,_,_,_,_,E⟩;rw[EN] at E;cases E
  rintro n1 k l ⟨p,ch,ci,g,j,x,U,cj,E⟩;refine AK ?_ g j;clear g j l k;rw[EN] at E;refine AU ?_;refine AH O E (λau E=>?_) (λau E=>?_)
  ·refine AU ?_;refine A5 (AU ?_);have av:=ar.mono' U;refine BI E O O av NM.1 O λck E cl aw=>?_;obtain⟨cm,_,ax⟩:=aw.lv;refine AU ?_;refine D0 P5 O x λcn co V ay=>?_;have az:=ax.mono ay;obtain⟨cp,cq,cr,rfl,cs,ct,a0,cu,cv,cw,cx,cy,a1,cz,c0,c1⟩:=B4.ex az;refine JI O O O ON P7.1 O V .head O λc2 y c3=>AU ?_;refine CV (.inl O) y ?_;have a2:=k6.nw;obtain⟨c4,_,a3⟩:=a2.lv;refine AU ?_;refine BC E O O O fJ O (λa4 W h' o=>PI (St.all h') (a3.mono (o.all y.1)) a0 a1 W) λa4 E=>AU ?_;refine BZ (kp [21,10,9,1,11] O) λc5 X c6=>AH O E (λa5 E=>?_) (λa5 E=>?_)
   ·exact RT
   refine AU ?_;refine BJ (AU ?_);refine WF.nil (λk l g j=>?_);have Y:=X.drop .head;exact⟨(BQ (p+1)),_,_,g.sub (kp [10,9,1,11] O),j,Y,EX,(BW _),E⟩
  refine BL O (λk l g j=>?_);exact⟨_,_,g.sub (kp [1] O),j,x,U,E⟩
 rintro k l ⟨I,J,g,j,Z,a6,E⟩;refine AK ?_ g j;clear g j l k;rw[EO] at E;have ab:=k6.mono a6;have a7:=ab.fl HW;obtain⟨a8,_,a9⟩:=a7.ll;refine AU ?_;refine AQ (λa w=>IV B I J (60,[]) a w [] (L) λ_ _=>F5 N=some r) ?_ ?_
 ·refine A8 (λn3=>λa w=>∃(q:Int),IV B I J (60,[]) a w [(25,vI (↑d.C.length:Int)),(24,a8),(1,q1),(26,vI q)] (L) λ_ _=>AA q∧EM N d (F5 N) n3 q=some r) N ?_ ?_ ?_
  ·intro k l g j;exact⟨0,_,_,g.sub (kp [25,24,1,26] O),j,Z,(C2.refl I J),(iq (n:=0) O),E⟩
  ·rintro k l ⟨_,_,_,_,_,_,_,_,E⟩;rw[EM] at E;cases E
  rintro n3 k l ⟨q,c7,c8,g,j,z,ac,c9,E⟩;refine AK ?_ g j;clear g j l k;rw[EM] at E;refine AU ?_;refine AH O E (λba E=>?_) (λba E=>?_)
  ·refine AU ?_;refine A5 (AU ?_);have bb:=a9.mono' ac;refine BI E O O bb OK.1 O λbc E da be=>?_;obtain⟨db,_,bf⟩:=be.lv;refine AU ?_;refine D0 Og O z λdc dd ad bg=>?_;have bh:=bf.mono bg;obtain⟨bk,bl,bm,rfl,de,df,dg,bi,bn,bo,bp,bq,br,bs,bt,bu,bv,bw,bx,bz,b0,b1⟩:=CD.ex bh;refine JI O O O ON Ok.1 O ad .head O λb2 s b3=>?_;have t:=ab.nw;have ae:=t.fl Cv;obtain⟨b4,_,af⟩:=ae.ll;refine AU ?_;refine BI E O O af NM.1 O λb5 E b6 ag=>?_;have ah:=ag.fl OQ;have ai:=ah.i;refine AU ?_;refine CV (.inl O) s ?_;obtain⟨b7,_,aj⟩:=t.lv;refine AU ?_;refine BC E O O O fJ O (λD K h' o=>PI (St.all h') (aj.mono (o.all s.1)) ai bi K) λD E=>AU ?_;obtain⟨ak,b,E⟩:=bd E;refine AY 15 58 (.bool ak) ?_ ?_
   ·cases G:(!D)
    ·have b:=HV G b;refine AU ?_;obtain⟨am,c,b⟩:=bd b;refine AY 10 57 (.bool am) ?_ ?_
     ·cases H:(decide (bc.F=4))
      ·have c:=HV H c;cases c;exact BE O O
      have c:=HU H c;have an:=t.fl Cv;obtain⟨b8,_,ao⟩:=an.ll;refine AU ?_;refine BI c O O ao NM.1 O λb9 c ca cb=>AU ?_;cases c;exact AZ O
     refine AU ?_;cases b;exact AZ O
    have b:=HU G b;cases b;exact BE O O
   refine BZ (kp [58,25,24,1,26] O) λcc M cd=>AH O E (λap E=>?_) (λap E=>?_)
   ·exact RT
   refine AU ?_;refine BJ (AU ?_);refine WF.nil (λk l g j=>?_);have Q:=M.drop .head;exact⟨(BQ (q+1)),_,_,g.sub (kp [25,24,1,26] O),j,Q,EX,(BW _),E⟩
  refine BL O (λk l g j=>?_);exact⟨_,_,g.sub Ri,j,z,ac,E⟩
 rintro k l ⟨ce,cf,g,j,bj,cg,E⟩;refine AK ?_ g j;clear g j l k;rw[F5] at E;exact RT
def JN (F:St S L h) {b:Int}(k:AA b) {c:Int}(l:AA c) {r:Int}(E:Gw N b c=some r):
 CM prog 154 #[vI b,vI c] S h (λv S' h'=>v=vI r∧AA r∧St S' (L) h'):=by
 refine CM.go 34 func154 O ntmps154 O λB=>?_;rw[Gw] at E;refine AU ?_;refine AH O E (λG E=>?_) (λG E=>?_)
 ·exact RT
 refine AU ?_;refine AH O E (λH E=>?_) (λH E=>?_)
 ·exact RT
 refine AU ?_;refine CV (.inl O) F (AU ?_);refine JY O Q9 NV O ?_;obtain⟨s,t,E⟩:=bd E;refine J4 (v:= .tuple #[.int .u64 s.1,.int .u64 s.2]) (Ψ:=IntKind.has .u64 s.1∧IntKind.has .u64 s.2) O O O fD O (λh' o=>(Me (St.all h') (Ft _ _) (show IntKind.has .u64 1099511627776 by first|assumption|exact⟨by decide,by decide⟩) t).mono λ_ _ _ _ p=>⟨p.1,⟨p.2.1,p.2.2.1⟩⟩) λI=>?_;obtain⟨J,K⟩:=I;refine AU ?_;refine BZ (kp [6,5,1] O) λY u Z=>AU ?_;refine CV (.inl O) u (AU ?_);refine JY O Q9 NV O ?_;obtain⟨d,q,E⟩:=bd E;refine J4 (v:= .tuple #[.int .u64 d.1,.int .u64 d.2]) (Ψ:=IntKind.has .u64 d.1∧IntKind.has .u64 d.2) O O O fC O (λh' o=>(Mf (St.all h') J K (Ft _ _) q).mono λ_ _ _ _ p=>⟨p.1,⟨p.2.1,p.2.2.1⟩⟩) λx=>?_;obtain⟨y,M⟩:=x;refine AU ?_;refine BZ (kp [8,7] O) λj i Q=>AU ?_;refine JH (λa w=>∃(g:Int),IV B S j (34,[]) a w [(7,.int .u64 g)] (L) λ_ _=>IntKind.has .u64 g∧KU N g=some r) ?_ ?_
 ·refine AH O E (λz E=>?_) (λz E=>?_)
  ·refine AU ?_;refine WF.nil (λA C m n=>?_);exact⟨(IntKind.wrap .u64 (d.1+1)),_,_,m.sub (kp [7] O),n,i,(C2.refl S j),(Ft _ _),E⟩
  refine AU ?_;refine WF.nil (λA C m n=>?_);exact⟨d.1,_,_,m.sub (kp [7] O),n,i,(C2.refl S j),y,E⟩
 rintro A C ⟨g,U,V,m,n,D,W,X,E⟩;refine AK ?_ m n;clear m n C A;rw[KU] at E;refine AU ?_;exact JY O NV Q9 O (RT)
def QP (hs:St S L h) {c:Value}{b:(List (List By))}(i:Sl S h (A7.sl CH) c b) {r:Int}(E:Jr N b=some r):
 CM prog 155 #[c] S h (λv S' h'=>v=vI r∧AA r∧St S' (L) h'):=by
 refine CM.go 48 func155 O ntmps155 O λB=>?_;rw[Jr] at E;refine AU ?_;refine AQ (λa w=>∃(J:Int),IV B S h (48,[]) a w [(3,vI J)] (L) λ_ _=>AA J∧Ev N J=some r) ?_ ?_
 ·refine A8 (λK=>λa w=>∃(A:Int) (j:Int),IV B S h (48,[]) a w [(8,vI (↑b.length:Int)),(7,c),(3,vI A),(9,vI j)] (L) λ_ _=>AA A∧AA j∧D4 N b (Ev N) K A j=some r) N ?_ ?_ ?_
  ·intro k l d g;exact⟨0,0,_,_,d.sub (kp [8,7,3,9] O),g,hs,(C2.refl S h),(iq (n:=0) O),(iq (n:=0) O),E⟩
  ·rintro k l ⟨_,_,_,_,_,_,_,_,_,_,E⟩;rw[D4] at E;cases E
  rintro K k l ⟨A,j,y,z,d,g,u,C,r9,ah,E⟩;refine AK ?_ d g;clear d g l k;rw[D4] at E;refine AU ?_;refine AH O E (λM E=>?_) (λM E=>?_)
  ·refine AU ?_;refine AQ (λa w=>∃(q:Int),IV B y z (48,[]) a w [(8,vI (↑b.length:Int)),(7,c),(9,vI j),(3,vI q)] (L) λ_ _=>AA q∧Gb N j (D4 N b (Ev N) K) q=some r) ?_ ?_
   ·refine AU ?_;have Q:=i.mono' C;refine BI E O O Q pQ.1 O λU E ai V=>?_;obtain⟨W,_,s⟩:=V.ll;refine AU ?_;refine A5 (A8 (λn3=>λa w=>∃(m:Int) (t:Int),IV B y z (48,[]) a w [(5,W),(8,vI (↑b.length:Int)),(7,c),(9,vI j),(3,vI m),(6,vI t)] (L) λ_ _=>AA m∧AA t∧Fd N U (Gb N j (D4 N b (Ev N) K)) n3 m t=some r) N ?_ ?_ ?_)
    ·intro k l d g;exact⟨A,1,_,_,d.sub (kp [5,8,7,9,3,6] O),g,u,(C2.refl y z),r9,(iq (n:=1) O),E⟩
    ·rintro k l ⟨_,_,_,_,_,_,_,_,_,_,E⟩;rw[Fd] at E;cases E
    rintro n3 k l ⟨m,t,aj,ak,d,g,x,p,D,al,E⟩;refine AK ?_ d g;clear d g l k;rw[Fd] at E;have am:=s.mono' p;refine AU ?_;refine AH O E (λX E=>?_) (λX E=>?_)
    ·refine AU ?_;refine A5 (CV (.inr ⟨mo,by kernel_rfl⟩) x (AU ?_));have Y:=s.mono' p;refine BI E O O Y LN.1 O λan E ao ap=>AU ?_;have Z:=s.mono' p;refine BI E O O Z LN.1 O λaq E ar au=>AU ?_;have ab:=s.mono' p;refine BI E O O ab LN.1 O λav E aw ax=>AU ?_;have ac:=s.mono' p;refine BI E O O ac LN.1 O λay E az a0=>AU ?_;refine DV E O O O RQ O (λF G h' o=>JN (St.all h') (BW _) (BW _) G) λF E ad=>?_;have ae:=ad;refine Rb O O O (AU ?_);refine BZ (kp [3,5,8,7,9,6] O) λa1 H a2=>BJ (AU ?_);refine WF.nil (λk l d g=>?_);exact⟨(max m F),(BQ (t+1)),_,_,d.sub (kp [5,8,7,9,3,6] O),g,H,EX,(RP D ae),(BW _),E⟩
    refine IQ O (WF.nil (λk l d g=>?_));exact⟨m,_,_,d.sub (kp [8,7,9,3] O),g,x,p,D,E⟩
   rintro k l ⟨q,a3,a4,d,g,I,a5,af,E⟩;refine AK ?_ d g;clear d g l k;rw[Gb] at E;refine AU ?_;refine WF.nil (λk l d g=>?_);exact⟨q,(BQ (j+1)),_,_,d.sub (kp [8,7,3,9] O),g,I,EX,af,(BW _),E⟩
  refine BL O (λk l d g=>?_);exact⟨A,_,_,d.sub (kp [3] O),g,u,C,r9,E⟩
 rintro k l ⟨J,a6,a7,d,g,ag,a8,r3,E⟩;refine AK ?_ d g;clear d g l k;rw[Ev] at E;exact RT
def Oc (hs:St S L h) {ah:Value}{k:AF}(a2:Rd S h B5 ah k) {r:Bool}(E:IL N k=some r):
 CM prog 79 #[ah] S h (λv S' h'=>v= .bool r∧St S' (L) h'):=by
 refine CM.go 128 func79 O ntmps79 O λB=>?_;rw[IL] at E;refine AU ?_;refine Cg O a2 CE O hs λq1 S2 h3 fo e5 k6=>AU ?_;obtain⟨dj,E⟩:=Lp E;refine K6 (r:=AB) (zx:=0) JU O ⟨O,by unfold AA;omega⟩ O O dj O O fo λq bn dk fp=>?_;have dl:=k6.mono fp;have fq:=dl.fl Cv;obtain⟨fr,_,fs⟩:=fq.ll;refine AU ?_;refine AQ (λa w=>∃(a3:List Int),IV B S2 bn (128,[]) a w [(3,q),(1,q1)] (OS AB 3 q a3::L) λ_ _=>EZ N k a3=some r) ?_ ?_
 ·refine A8 (λn1=>λa w=>∃(ag:Int) (am:List Int),IV B S2 bn (128,[]) a w [(16,vI (↑k.A.length:Int)),(15,fr),(3,q),(1,q1),(17,vI ag)] (OS AB 3 q am::L) λ_ _=>AA ag∧EW N k (EZ N k) n1 ag am=some r) N ?_ ?_ ?_
  ·intro t u d g;exact⟨0,(List.replicate ((↑k.A.length:Int):Int).toNat (0:Int)),_,_,d.sub (kp [16,15,3,1,17] O),g,dk,(C2.refl S2 bn),(iq (n:=0) O),E⟩
  ·rintro t u ⟨_,_,_,_,_,_,_,_,_,E⟩;rw[EW] at E;cases E
  rintro n1 t u ⟨ag,am,jp,jq,d,g,a7,dm,jr,E⟩;refine AK ?_ d g;clear d g u t;rw[EW] at E;refine AU ?_;refine AH O E (λft E=>?_) (λft E=>?_)
  ·refine AU ?_;refine A5 (AU ?_);have fu:=fs.mono' dm;refine BI E O O fu NM.1 O λjs E jt fv=>?_;obtain⟨ju,_,fw⟩:=fv.lv;refine AU ?_;refine D0 P5 O a7 λjv jw dn fx=>AU ?_;have fy:=fw.mono fx;obtain⟨jx,jy,jz,rfl,j0,j1,j2,j3,j4,j5,f0,f1,j6,j7,j8,j9⟩:=B4.ex fy;refine JI O O O ON P7.1 O dn .head O λka dp kb=>AU ?_;refine De (AU ?_);refine Dd E O O O RQ O dp (λbo dq=>JN (St.all _) f0 f1 dq) λbo E kc kd ke a8 kf kg p=>?_;obtain⟨rfl,f2,gd⟩:=p;refine AU ?_;obtain⟨kh,dr,E⟩:=bd E;refine BR a8 (mt mh) O O CY.1 dr O λki ds=>AU ?_;obtain⟨f3,dt,E⟩:=bd E;refine Ee (r:=AB) (l:=am) (i:=ag) (x:=f3) O O (⟨_,O,O,f2⟩:Rd _ _ AB _ bo) ds dt L4.id Fi.1 (λ_=>rfl) a8 (.tail .head) λkj du kk=>AU ?_;refine BJ (AU ?_);refine WF.nil (λt u d g=>?_);have dv:=du.sel [1] 1 O;exact⟨(BQ (ag+1)),(upd am ag bo),_,_,d.sub (kp [16,15,3,1,17] O),g,dv,EX,(BW _),E⟩
  refine BL O (λt u d g=>?_);exact⟨am,_,_,d.sub (kp [3,1] O),g,a7,dm,E⟩
 rintro t u ⟨a3,bp,bq,d,g,dw,f4,E⟩;refine AK ?_ d g;clear d g u t;rw[EZ] at E;have f5:=dl.mono f4;have f6:=f5.fl HW;obtain⟨ao,_,f7⟩:=f6.ll;refine AU ?_;refine AQ (λa w=>∃(an:List Int),IV B bp bq (128,[]) a w [(3,q)] (OS AB 3 q an::L) λ_ _=>DO N an=some r) ?_ ?_
 ·refine A8 (λn3=>λa w=>∃(Q:Int) (y:List Int),IV B bp bq (128,[]) a w [(33,vI (↑k.C.length:Int)),(32,ao),(3,q),(34,vI Q)] (OS AB 3 q y::L) λ_ _=>AA Q∧B6 N k (DO N) n3 Q y=some r) N ?_ ?_ ?_
  ·intro t u d g;exact⟨0,a3,_,_,d.sub (kp [33,32,3,34] O),g,dw,(C2.refl bp bq),(iq (n:=0) O),E⟩
  ·rintro t u ⟨_,_,_,_,_,_,_,_,_,E⟩;rw[B6] at E;cases E
  rintro n3 t u ⟨Q,y,G,dx,d,g,ap,a9,kl,E⟩;refine AK ?_ d g;clear d g u t;rw[B6] at E;refine AU ?_;refine AH O E (λdy E=>?_) (λdy E=>?_)
  ·refine AU ?_;refine AQ (λa w=>∃(ai:List Int),IV B G dx (128,[]) a w [(33,vI (↑k.C.length:Int)),(32,ao),(3,q),(34,vI Q)] (OS AB 3 q ai::L) λ_ _=>DB N Q (B6 N k (DO N) n3) ai=some r) ?_ ?_
   ·refine AU ?_;have dz:=f7.mono' a9;refine BI E O O dz OK.1 O λc E ge d0=>?_;obtain⟨gf,_,d1⟩:=d0.lv;refine AU ?_;refine D0 Og O ap λz gg br d2=>?_;have d3:=d1.mono d2;obtain⟨ba,bb,bc,rfl,gh,gi,gj,gl,d4,d5,d6,gm,gn,gp,gq,be,bf,gr,gs,bg,bh,gt⟩:=CD.ex d3;refine JI O O O ON Ok.1 O br .head O λH j gu=>AU ?_;refine A5 (AU ?_);refine AH O E (λd7 E=>?_) (λd7 E=>?_)
    ·refine AU ?_;obtain⟨gv,bs,E⟩:=bd E;obtain⟨J,bt,E⟩:=bd E;obtain⟨K,bu,E⟩:=bd E;obtain⟨gw,bv,E⟩:=bd E;refine NS (m:=[(7,vP z 0),(33,vI (↑k.C.length:Int)),(32,ao),(3,q),(34,vI Q)]) 17 (λi v hh=>match i with|0=>v=q|1=>v=vP z 2|2=>v=vI c.M∧AA c.M|3=>EP q (c.M.toNat*(AB).sz+0) v|4=>v=vI J∧AA J|5=>v=vP z 4|6=>Sl G hh CH v c.As|7=>v=vP z 5|8=>v=vP z 5|9=>Sl G hh CH v c.Ad.Aw|10=>v=vP z 5|11=>v=vP z 6|12=>Sl G hh CH v c.Ad.Ax|13=>Sl (SN G H hh) hh (A7.sl CH) v ([c.As,c.Ad.Aw,c.Ad.Ax]:List (List By))∧∃ad,v= .slice (some ad) 3 3|14=>v=vI K∧AA K|15=>v=vI (BQ (J+K))∧AA (BQ (J+K))|16=>EP q (c.M.toNat*(AB).sz+0) v|_=>False) [[],[],[(1,43)],[(0,42),(2,44)],[(3,45)],[],[(5,47)],[],[(7,49)],[(8,50)],[],[(10,52)],[(11,53)],[(6,48),(9,51),(12,54)],[(13,55)],[(4,46),(14,56)],[(0,42),(2,44)]] [(15,57),(16,58)] mo (by kernel_rfl) [7,33,32,3,34] O (by kernel_rfl) (by kernel_rfl) (by kernel_rfl) (kp [7,33,32,3,34] O) MO ?_ ?_
     ·refine A6.cons O Fx (A6.cons O Fx (A6.cons O Fx (A6.cons O ?_ ?_)))
      ·intro mq hh o;intro gx d8 gy d9;have I:=o.st j;cases d8;obtain⟨rfl,gz⟩:=d9;refine AU ?_;refine BR I (mt mh) O O CY.1 bs O λg0 bw=>AU ?_;exact B1 bw
      refine A6.cons O ?_ ?_
      ·intro mq hh o;intro g1 eb;have I:=o.st j;refine AU ?_;have ec:=I.epAt (mt mh) bt Fg.id eb;refine Eh Hj (λ_ x=>x) O ec Fi.1 O λed=>AU ?_;exact B1 ⟨O,ed⟩
      refine A6.cons O Fx (A6.cons O ?_ ?_)
      ·intro mq hh o;intro g2 ee;have I:=o.st j;cases ee;refine AU ?_;have ef:=d4.nw;exact B1 ef
      refine A6.cons O Fx (A6.cons O Fx (A6.cons O ?_ ?_))
      ·intro mq hh o;intro g3 eg;have I:=o.st j;cases eg;refine AU ?_;have eh:=d5.nw;exact B1 eh
      refine A6.cons O Fx (A6.cons O Fx (A6.cons O ?_ ?_))
      ·intro mq hh o;intro g4 ei;have I:=o.st j;cases ei;refine AU ?_;have ej:=d6.nw;exact B1 ej
      refine A6.cons O ?_ ?_
      ·intro mq hh o;intro ek V el X em Z;have I:=SN.st j o;have V:=Sl.sn H V;have V:Sl _ _ CH ek c.As:=V;have X:=Sl.sn H X;have X:Sl _ _ CH el c.Ad.Aw:=X;have Z:=Sl.sn H Z;have Z:Sl _ _ CH em c.Ad.Ax:=Z;have f8:=I.fz;obtain⟨bx,a4,rfl,g5⟩:=(V).len;obtain⟨bz,a5,rfl,g6⟩:=(X).len;obtain⟨b0,a6,rfl,g7⟩:=(Z).len;refine JJ (cs:=[(.slice bx c.As.length a4),(.slice bz c.Ad.Aw.length a5),(.slice b0 c.Ad.Ax.length a6)]) rA O O O O O O O f8 λg8 g9 b1 aq=>?_;have en:=Z.mono' aq;have eo:=X.mono' aq;have ep:=V.mono' aq;have b2:=b1.bxos (r:=(A7.sl CH)) (l:=([c.As,c.Ad.Aw,c.Ad.Ax]:List (List By))) .head ⟨_,_,O,⟨_,O,ep⟩,⟨_,_,O,⟨_,O,eo⟩,⟨_,_,O,⟨_,O,en⟩,O⟩⟩⟩ (by simp [maxLen]);obtain⟨ha,b3,hc,eq⟩:=b2.pubs .head;have ar:=Fz.done o EX b3;exact BA ar.1 ⟨Sl.mono' eq ar.2,_,O⟩
      refine A6.cons O ?_ ?_
      ·intro mq hh o;intro hd au;have I:=SN.st j o;obtain⟨au,f9,rfl⟩:=au;refine Fv O O O sG O I (QP (St.all _) (au.mono I.ea.1 I.ea.2) bu) λhe hg hi ga hj bi p=>?_;obtain⟨rfl,er,gb⟩:=p;exact BA ⟨bi.siz,λb hb=>bi.same b hb⟩ ⟨O,er⟩
      refine A6.cons O Fx (A6.cons O ?_ ?_)
      ·intro mq hh o;intro hk es hl eu;have I:=o.st j;cases es;obtain⟨rfl,hm⟩:=eu;refine AU ?_;refine BR I (mt mh) O O CY.1 bv O λhn b4=>AU ?_;exact B1 b4
      exact trivial
     intro ho ev hp ew hq ey;have b5:=SN.st j ev;obtain⟨rfl,ez⟩:=ew;obtain⟨e0,b6,E⟩:=bd E;refine Ee (r:=AB) (l:=y) (i:=c.M) (x:=e0) O O (⟨_,O,O,ez⟩:Rd _ _ AB _ (BQ (J+K))) ey b6 L4.id Fi.1 (λ_=>rfl) b5 (.tail .head) λhr U ht=>AU ?_;refine AH O E (λe1 E=>?_) (λe1 E=>?_)
     ·refine OC 12 mo (by kernel_rfl) O U (AU ?_);obtain⟨hu,b7,E⟩:=bd E;refine BR U (mt mh) O O CY.1 b7 O λhv b8=>?_;obtain⟨bj,b9,E⟩:=bd E;have e2:=U.epAt (mt mh) b9 Fg.id b8;refine Eh OM (λ_ x=>x) O e2 Fi.1 O λhx=>AU ?_;refine DV E O O O RQ O (λav ca h' o=>JN (St.all h') bg bh ca) λav E e3=>?_;have hy:=e3;refine AU ?_;obtain⟨hz,cb,E⟩:=bd E;refine BR U (mt mh) O O CY.1 cb O λh0 cc=>Ml λh1 cd h2=>?_;obtain⟨e4,ce,E⟩:=bd E;refine Ee (r:=AB) (l:=(upd y c.M (BQ (J+K)))) (i:=c.D) (x:=e4) O O (⟨_,O,O,(BW _)⟩:Rd _ _ AB _ (BQ (bj+av))) cc ce L4.id Fi.1 (λ_=>rfl) cd (.tail .head) λh4 cf h5=>AU ?_;refine BJ (WF.nil (λt u d g=>?_));have cg:=cf.sel [1] 1 O;exact⟨(upd (upd y c.M (BQ (J+K))) c.D (BQ (bj+av))),_,_,d.sub (kp [33,32,3,34] O),g,cg,EX,E⟩
     refine AU ?_;refine BJ (WF.nil (λt u d g=>?_));have ch:=U.sel [1] 1 O;exact⟨(upd y c.M (BQ (J+K))),_,_,d.sub (kp [33,32,3,34] O),g,ch,EX,E⟩
    refine AU ?_;refine JH (λa w=>∃(aw:Bool),IV B G H (128,[]) a w [(39,vI c.F),(7,vP z 0),(33,vI (↑k.C.length:Int)),(32,ao),(3,q),(34,vI Q),(74,.bool aw)] (Bx z 139 [.string c.E,vI c.F,vI c.M,vI c.D,ba,bb,bc,vI c.W,vI c.Ag,vI c.Bb,vI c.Bc,vI c.Y,vI c.S,vI c.Az,vI c.Ba,vI c.Aq,vI c.Al,vI c.R]::OS AB 3 q y::L) λ_ _=>EY N y c (DB N Q (B6 N k (DO N) n3)) aw=some r) ?_ ?_
    ·refine AH O E (λe6 E=>?_) (λe6 E=>?_)
     ·refine AU ?_;refine WF.nil (λt u d g=>?_);exact⟨(decide (c.F=1)),_,_,d.sub (kp [39,7,33,32,3,34,74] O),g,j,(C2.refl G H),E⟩
     refine AU ?_;refine JH (λa w=>∃(aj:Bool),IV B G H (128,[]) a w [(39,vI c.F),(7,vP z 0),(33,vI (↑k.C.length:Int)),(32,ao),(3,q),(34,vI Q),(74,.bool aj)] (Bx z 139 [.string c.E,vI c.F,vI c.M,vI c.D,ba,bb,bc,vI c.W,vI c.Ag,vI c.Bb,vI c.Bc,vI c.Y,vI c.S,vI c.Az,vI c.Ba,vI c.Aq,vI c.Al,vI c.R]::OS AB 3 q y::L) λ_ _=>IT N (EY N y c (DB N Q (B6 N k (DO N) n3))) aj=some r) ?_ ?_
     ·refine AH O E (λe7 E=>?_) (λe7 E=>?_)
      ·refine AU ?_;refine WF.nil (λt u d g=>?_);exact⟨(decide (c.F=5)),_,_,d.sub (kp [39,7,33,32,3,34,74] O),g,j,(C2.refl G H),E⟩
      refine AU ?_;refine WF.nil (λt u d g=>?_);exact⟨(decide (c.F=3)),_,_,d.sub (kp [39,7,33,32,3,34,74] O),g,j,(C2.refl G H),E⟩
     rintro t u ⟨aj,h6,h7,d,g,ci,e8,E⟩;refine AK ?_ d g;clear d g u t;rw[IT] at E;refine WF.nil (λt u d g=>?_);exact⟨aj,_,_,d.sub (kp [39,7,33,32,3,34,74] O),g,ci,e8,E⟩
    rintro t u ⟨aw,h8,h9,d,g,s,ia,E⟩;refine AK ?_ d g;clear d g u t;rw[EY] at E;refine AH O E (λe9 E=>?_) (λe9 E=>?_)
    ·refine OC 12 mo (by kernel_rfl) O s (AU ?_);obtain⟨ib,cj,E⟩:=bd E;refine BR s (mt mh) O O CY.1 cj O λic ck=>?_;obtain⟨bk,cl,E⟩:=bd E;have fa:=s.epAt (mt mh) cl Fg.id ck;refine Eh OM (λ_ x=>x) O fa Fi.1 O λie=>AU ?_;refine DV E O O O RQ O (λax cm h' o=>JN (St.all h') be bf cm) λax E fb=>?_;have ig:=fb;refine AU ?_;obtain⟨ih,cn,E⟩:=bd E;refine BR s (mt mh) O O CY.1 cn O λii co=>Ml λij cp ik=>?_;obtain⟨fc,cq,E⟩:=bd E;refine Ee (r:=AB) (l:=y) (i:=c.M) (x:=fc) O O (⟨_,O,O,(BW _)⟩:Rd _ _ AB _ (BQ (bk+ax))) co cq L4.id Fi.1 (λ_=>rfl) cp (.tail .head) λil cr im=>AU ?_;refine BJ (WF.nil (λt u d g=>?_));have ct:=cr.sel [1] 1 O;exact⟨(upd y c.M (BQ (bk+ax))),_,_,d.sub (kp [33,32,3,34] O),g,ct,EX,E⟩
    refine AU ?_;refine AH O E (λfd E=>?_) (λfd E=>?_)
    ·refine AU ?_;refine OC 13 mo (by kernel_rfl) O s (AU ?_);obtain⟨io,cu,E⟩:=bd E;refine BR s (mt mh) O O CY.1 cu O λip cv=>?_;obtain⟨ay,cw,E⟩:=bd E;have fe:=s.epAt (mt mh) cw Fg.id cv;refine Eh OM (λ_ x=>x) O fe Fi.1 O λir=>AU ?_;refine DV E O O O RQ O (λak cx h' o=>JN (St.all h') be bf cx) λak E ff=>?_;have it:=ff;refine AU ?_;obtain⟨iu,cy,E⟩:=bd E;refine BR s (mt mh) O O CY.1 cy O λiv cz=>Ml λiw c0 iy=>?_;obtain⟨fg,c1,E⟩:=bd E;refine Ee (r:=AB) (l:=y) (i:=c.M) (x:=fg) O O (⟨_,O,O,(BW _)⟩:Rd _ _ AB _ (BQ (ay+(BQ (2*ak))))) cz c1 L4.id Fi.1 (λ_=>rfl) c0 (.tail .head) λiz ab i0=>AU ?_;refine OC 13 mo (by kernel_rfl) O ab (AU ?_);obtain⟨i1,c2,E⟩:=bd E;refine BR ab (mt mh) O O CY.1 c2 O λi2 c3=>?_;obtain⟨bl,c4,E⟩:=bd E;have fh:=ab.epAt (mt mh) c4 Fg.id c3;refine Eh OM (λ_ x=>x) O fh Fi.1 O λi3=>AU ?_;refine DV E O O O RQ O (λaz c5 h' o=>JN (St.all h') bg bh c5) λaz E fi=>?_;have i4:=fi;refine AU ?_;obtain⟨i5,c6,E⟩:=bd E;refine BR ab (mt mh) O O CY.1 c6 O λi6 c7=>Ml λi7 c8 i8=>?_;obtain⟨fj,c9,E⟩:=bd E;refine Ee (r:=AB) (l:=(upd y c.M (BQ (ay+(BQ (2*ak)))))) (i:=c.D) (x:=fj) O O (⟨_,O,O,(BW _)⟩:Rd _ _ AB _ (BQ (bl+(BQ (2*az))))) c7 c9 L4.id Fi.1 (λ_=>rfl) c8 (.tail .head) λi9 da ja=>AU ?_;refine BJ (WF.nil (λt u d g=>?_));have db:=da.sel [1] 1 O;exact⟨(upd (upd y c.M (BQ (ay+(BQ (2*ak))))) c.D (BQ (bl+(BQ (2*az))))),_,_,d.sub (kp [33,32,3,34] O),g,db,EX,E⟩
    refine AU ?_;refine BJ (WF.nil (λt u d g=>?_));have dc:=s.sel [1] 1 O;exact⟨y,_,_,d.sub (kp [33,32,3,34] O),g,dc,EX,E⟩
   rintro t u ⟨ai,jb,jc,d,g,dd,jd,E⟩;refine AK ?_ d g;clear d g u t;rw[DB] at E;refine AU ?_;refine WF.nil (λt u d g=>?_);exact⟨(BQ (Q+1)),ai,_,_,d.sub (kp [33,32,3,34] O),g,dd,EX,(BW _),E⟩
  refine BL O (λt u d g=>?_);exact⟨y,_,_,d.sub (kp [3] O),g,ap,a9,E⟩
 rintro t u ⟨an,a0,a1,d,g,de,je,E⟩;refine AK ?_ d g;clear d g u t;rw[DO] at E;refine AU ?_;refine AQ (λa w=>IV B a0 a1 (128,[]) a w [] (L) λ_ _=>GS N=some r) ?_ ?_
 ·refine A8 (λn8=>λa w=>∃(af:Int),IV B a0 a1 (128,[]) a w [(120,vI (↑an.length:Int)),(119,q),(121,vI af)] (OS AB 3 q an::L) λ_ _=>AA af∧EV N an (GS N) n8 af=some r) N ?_ ?_ ?_
  ·intro t u d g;exact⟨0,_,_,d.sub (kp [120,119,121] O),g,de,(C2.refl a0 a1),(iq (n:=0) O),E⟩
  ·rintro t u ⟨_,_,_,_,_,_,_,_,E⟩;rw[EV] at E;cases E
  rintro n8 t u ⟨af,jf,jg,d,g,ac,bm,jh,E⟩;refine AK ?_ d g;clear d g u t;rw[EV] at E;refine AU ?_;refine AH O E (λfk E=>?_) (λfk E=>?_)
  ·refine AU ?_;refine A5 (AU ?_);obtain⟨ji,df,E⟩:=bd E;refine BR ac mh O O CY.1 df O λjj dg=>?_;obtain⟨jk,dh,E⟩:=bd E;have fm:=ac.epAt mh dh Fg.id dg;refine Eh Hj (λ_ x=>x) O fm Fi.1 O λjl=>AU ?_;refine AH O E (λfn E=>?_) (λfn E=>?_)
   ·exact RT
   refine AU ?_;refine BJ (AU ?_);refine WF.nil (λt u d g=>?_);exact⟨(BQ (af+1)),_,_,d.sub (kp [120,119,121] O),g,ac,bm,(BW _),E⟩
  refine BL O (λt u d g=>?_);have di:=ac.drop .head;exact⟨_,_,d.sub Ri,g,di,bm,E⟩
 rintro t u ⟨jm,jn,d,g,gc,jo,E⟩;refine AK ?_ d g;clear d g u t;rw[GS] at E;exact RT
end Go.Proofs.YtabonambpbofgaaGreat
