import Derived.Test.YtabonambpbofgaaGreatNInst
import Derived.Test.YtabonambpbofgaaGreatNForms
import Derived.Test.YtabonambpbofgaaGreatNSort5
import Derived.Test.YtabonambpbofgaaGreatNSortD
import Derived.Test.YtabonambpbofgaaGreatNWalk1
import Derived.Test.YtabonambpbofgaaGreatNWalk3
namespace Go.Proofs.YtabonambpbofgaaGreat
set_option linter.all false
open Go.RowKit
open Go.Proofs.Tryz
set_option maxRecDepth 10000
set_option maxHeartbeats 20000000
variable {N:Nat}{S:Nat→Prop}{L:List HP}{h:AS}
def PV (hs:St S L h) {j:Value}{k:AF}(u:Rd S h B3 j k) {r:Bool}(E:FH N k=some r):
 CL prog 77 #[j] S h (λv S' h'=>v= .bool r∧St S' (L) h'):=by
 refine CL.go 51 func77 O ntmps77 O λB=>?_;rw[FH] at E;refine AU ?_;refine CZ O u CE O hs λq1 S2 h3 ai e5 k6=>?_;have k8:=k6.fl HY;obtain⟨v9,_,aj⟩:=k8.ll;refine AU ?_;refine AV (λa w=>IV B S2 h3 (51,[]) a w [] (L) λ_ _=>Dr N=some r) ?_ ?_
 ·refine A9 (λn1=>λa w=>∃(m:Int),IV B S2 h3 (51,[]) a w [(7,vI (↑k.C.length:Int)),(6,v9),(1,q1),(8,vI m)] (L) λ_ _=>AA m∧Cc N k (Dr N) n1 m=some r) N ?_ ?_ ?_
  ·intro y z p q;exact⟨0,_,_,p.sub (kp [7,6,1,8] O),q,ai,(CJ.refl S2 h3),(iq (n:=0) O),E⟩
  ·rintro y z ⟨_,_,_,_,_,_,_,_,E⟩;rw[Cc] at E;cases E
  rintro n1 y z ⟨m,ba,bb,p,q,x,F,bc,E⟩;refine AK ?_ p q;clear p q z y;rw[Cc] at E;refine AU ?_;refine AH O E (λak E=>?_) (λak E=>?_)
  ·refine AU ?_;refine A6 (AU ?_);have am:=aj.mono' F;refine BK E O O am Ob.1 O λbe E bf an=>?_;obtain⟨bg,_,ao⟩:=an.lv;refine AU ?_;refine Dp Ov O x λbh bi G ap=>?_;have A:=ao.mono ap;obtain⟨bj,bk,bl,rfl,bm,aq,H,ar,bn,bo,bp,bq,br,bs,bt,bu,bv,bw,bx,bz,b0,au⟩:=CB.ex A;refine IH O O O ON Oy.1 O G .head O λb1 l I=>AU ?_;refine CX (.inl O) l (AU ?_);refine BE E O O O Hw O (λJ K h' o=>Ci (St.all h') aq (iq (n:=0) O) (iq (n:=5) O) K) λJ E=>AU ?_;obtain⟨M,b,E⟩:=bd E;refine AZ 8 24 (.bool M) ?_ ?_
   ·cases Q:(!J)
    ·have b:=HX Q b;have av:=k6.nw;have aw:=av.fl Cp;obtain⟨b2,_,ax⟩:=aw.ll;have ay:=ax.le;refine AU ?_;refine BE b O O O Qb O (λaz U h' o=>IG (St.all h') H (Ls ay) U) λaz b=>AU ?_;cases b;exact A0 O
    have b:=HW Q b;cases b;exact BI O O
   refine AU ?_;obtain⟨V,c,E⟩:=bd E;refine AZ 8 33 (.bool V) ?_ ?_
   ·cases W:M
    ·have c:=HX W c;have a0:=k6.nw;obtain⟨b3,_,a1⟩:=a0.lv;refine AU ?_;refine BE c O O O gI O (λa2 X h' o=>N4 (St.all h') (a1.mono (o.all l.1)) H ar X) λa2 c=>AU ?_;cases c;exact A0 O
    have c:=HW W c;cases c;exact BI O O
   refine AU ?_;obtain⟨Y,d,E⟩:=bd E;refine AZ 5 39 (.bool Y) ?_ ?_
   ·cases Z:V
    ·have d:=HX Z d;refine AU ?_;refine BE d O O O Hw O (λa3 ab h' o=>Ci (St.all h') au (iq (n:=0) O) (iq (n:=240) O) ab) λa3 d=>AU ?_;cases d;exact A0 O
    have d:=HW Z d;cases d;exact BI O O
   refine AU ?_;obtain⟨ac,g,E⟩:=bd E;refine AZ 4 44 (.bool ac) ?_ ?_
   ·cases ad:Y
    ·have g:=HX ad g;refine AU ?_;have s:=A.mono I;obtain⟨b4,ae,g⟩:=bd g;refine JH O O O tG O (λh' o=>Ot (St.all h') (s.mono (o.all l.1)) ae) (AU ?_);cases g;exact A0 O
    have g:=HW ad g;cases g;exact BI O O
   refine AU ?_;obtain⟨a4,i,E⟩:=bd E;refine AZ 4 49 (.bool a4) ?_ ?_
   ·cases af:ac
    ·have i:=HX af i;refine AU ?_;have t:=A.mono I;obtain⟨b5,ag,i⟩:=bd i;refine JH O O O tF O (λh' o=>Om (St.all h') (t.mono (o.all l.1)) ag) (AU ?_);cases i;exact A0 O
    have i:=HW af i;cases i;exact BI O O
   refine By (kp [49,7,6,1,8] O) λb6 ah b7=>AH O E (λa5 E=>?_) (λa5 E=>?_)
   ·exact RT
   refine AU ?_;refine BP (AU ?_);refine WF.nil (λy z p q=>?_);have D:=ah.drop .head;exact⟨(BT (m+1)),_,_,p.sub (kp [7,6,1,8] O),q,D,EX,(BV _),E⟩
  refine BM O (λy z p q=>?_);exact⟨_,_,p.sub R5,q,x,F,E⟩
 rintro y z ⟨a7,a8,p,q,a6,a9,E⟩;refine AK ?_ p q;clear p q z y;rw[Dr] at E;exact RT
def PW (l:St S L h) {c:Value}{i:AF}(d:Rd S h B3 c i) {a:Int}(g:AA a) {b:Int}(j:AA b) {r:Bool}(E:Ke N i a b=some r):
 CL prog 153 #[c,vI a,vI b] S h (λv S' h'=>v= .bool r∧St S' (L) h'):=by
 refine CL.go 27 func153 O ntmps153 O λB=>?_;rw[Ke] at E;refine AU ?_;refine CZ O d CE O l λw S2 x m y n=>AU ?_;refine AH O E (λo E=>?_) (λo E=>?_)
 ·exact RT
 have p:=n.fl Cp;obtain⟨q,_,k⟩:=p.ll;refine AU ?_;exact BK E O O k NZ.1 O λs E t u=>RT
def OL (hs:St S L h) {m:Value}{d:AF}(u:Rd S h B3 m d) {r:Bool}(E:H5 N d=some r):
 CL prog 78 #[m] S h (λv S' h'=>v= .bool r∧St S' (L) h'):=by
 refine CL.go 60 func78 O ntmps78 O λB=>?_;rw[H5] at E;refine AU ?_;refine CZ O u CE O hs λq1 S2 h3 aq e5 k6=>?_;have k8:=k6.fl Cp;obtain⟨v9,_,ar⟩:=k8.ll;refine AU ?_;refine AV (λa w=>IV B S2 h3 (60,[]) a w [(1,q1)] (L) λ_ _=>EH N d=some r) ?_ ?_
 ·refine A9 (λn1=>λa w=>∃(p:Int),IV B S2 h3 (60,[]) a w [(10,vI (↑d.A.length:Int)),(9,v9),(1,q1),(11,vI p)] (L) λ_ _=>AA p∧EG N d (EH N d) n1 p=some r) N ?_ ?_ ?_
  ·intro k l g j;exact⟨0,_,_,g.sub (kp [10,9,1,11] O),j,aq,(CJ.refl S2 h3),(iq (n:=0) O),E⟩
  ·rintro k l ⟨_,_,_,_,_,_,_,_,E⟩;rw[EG] at E;cases E
  rintro n1 k l ⟨p,ch,ci,g,j,x,U,cj,E⟩;refine AK ?_ g j;clear g j l k;rw[EG] at E;refine AU ?_;refine AH O E (λau E=>?_) (λau E=>?_)
  ·refine AU ?_;refine A6 (AU ?_);have av:=ar.mono' U;refine BK E O O av NZ.1 O λck E cl aw=>?_;obtain⟨cm,_,ax⟩:=aw.lv;refine AU ?_;refine Dp QL O x λcn co V ay=>?_;have az:=ax.mono ay;obtain⟨cp,cq,cr,rfl,cs,ct,a0,cu,cv,cw,cx,cy,a1,cz,c0,c1⟩:=B1.ex az;refine IH O O O ON QO.1 O V .head O λc2 y c3=>AU ?_;refine CX (.inl O) y ?_;have a2:=k6.nw;obtain⟨c4,_,a3⟩:=a2.lv;refine AU ?_;refine BE E O O O gH O (λa4 W h' o=>PW (St.all h') (a3.mono (o.all y.1)) a0 a1 W) λa4 E=>AU ?_;refine By (kp [21,10,9,1,11] O) λc5 X c6=>AH O E (λa5 E=>?_) (λa5 E=>?_)
   ·exact RT
   refine AU ?_;refine BP (AU ?_);refine WF.nil (λk l g j=>?_);have Y:=X.drop .head;exact⟨(BT (p+1)),_,_,g.sub (kp [10,9,1,11] O),j,Y,EX,(BV _),E⟩
  refine BM O (λk l g j=>?_);exact⟨_,_,g.sub (kp [1] O),j,x,U,E⟩
 rintro k l ⟨I,J,g,j,Z,a6,E⟩;refine AK ?_ g j;clear g j l k;rw[EH] at E;have ab:=k6.mono a6;have a7:=ab.fl HY;obtain⟨a8,_,a9⟩:=a7.ll;refine AU ?_;refine AV (λa w=>IV B I J (60,[]) a w [] (L) λ_ _=>F6 N=some r) ?_ ?_
 ·refine A9 (λn3=>λa w=>∃(q:Int),IV B I J (60,[]) a w [(25,vI (↑d.C.length:Int)),(24,a8),(1,q1),(26,vI q)] (L) λ_ _=>AA q∧EF N d (F6 N) n3 q=some r) N ?_ ?_ ?_
  ·intro k l g j;exact⟨0,_,_,g.sub (kp [25,24,1,26] O),j,Z,(CJ.refl I J),(iq (n:=0) O),E⟩
  ·rintro k l ⟨_,_,_,_,_,_,_,_,E⟩;rw[EF] at E;cases E
  rintro n3 k l ⟨q,c7,c8,g,j,z,ac,c9,E⟩;refine AK ?_ g j;clear g j l k;rw[EF] at E;refine AU ?_;refine AH O E (λba E=>?_) (λba E=>?_)
  ·refine AU ?_;refine A6 (AU ?_);have bb:=a9.mono' ac;refine BK E O O bb Ob.1 O λbc E da be=>?_;obtain⟨db,_,bf⟩:=be.lv;refine AU ?_;refine Dp Ov O z λdc dd ad bg=>?_;have bh:=bf.mono bg;obtain⟨bk,bl,bm,rfl,de,df,dg,bi,bn,bo,bp,bq,br,bs,bt,bu,bv,bw,bx,bz,b0,b1⟩:=CB.ex bh;refine IH O O O ON Oy.1 O ad .head O λb2 s b3=>?_;have t:=ab.nw;have ae:=t.fl Cp;obtain⟨b4,_,af⟩:=ae.ll;refine AU ?_;refine BK E O O af NZ.1 O λb5 E b6 ag=>?_;have ah:=ag.fl Oe;have ai:=ah.i;refine AU ?_;refine CX (.inl O) s ?_;obtain⟨b7,_,aj⟩:=t.lv;refine AU ?_;refine BE E O O O gH O (λD K h' o=>PW (St.all h') (aj.mono (o.all s.1)) ai bi K) λD E=>AU ?_;obtain⟨ak,b,E⟩:=bd E;refine AZ 15 58 (.bool ak) ?_ ?_
   ·cases F:(!D)
    ·have b:=HX F b;refine AU ?_;obtain⟨am,c,b⟩:=bd b;refine AZ 10 57 (.bool am) ?_ ?_
     ·cases H:(decide (bc.G=4))
      ·have c:=HX H c;cases c;exact BI O O
      have c:=HW H c;have an:=t.fl Cp;obtain⟨b8,_,ao⟩:=an.ll;refine AU ?_;refine BK c O O ao NZ.1 O λb9 c ca cb=>AU ?_;cases c;exact A0 O
     refine AU ?_;cases b;exact A0 O
    have b:=HW F b;cases b;exact BI O O
   refine By (kp [58,25,24,1,26] O) λcc M cd=>AH O E (λap E=>?_) (λap E=>?_)
   ·exact RT
   refine AU ?_;refine BP (AU ?_);refine WF.nil (λk l g j=>?_);have Q:=M.drop .head;exact⟨(BT (q+1)),_,_,g.sub (kp [25,24,1,26] O),j,Q,EX,(BV _),E⟩
  refine BM O (λk l g j=>?_);exact⟨_,_,g.sub R5,j,z,ac,E⟩
 rintro k l ⟨ce,cf,g,j,bj,cg,E⟩;refine AK ?_ g j;clear g j l k;rw[F6] at E;exact RT
def JM (F:St S L h) {b:Int}(k:AA b) {c:Int}(l:AA c) {r:Int}(E:Gu N b c=some r):
 CL prog 154 #[vI b,vI c] S h (λv S' h'=>v=vI r∧AA r∧St S' (L) h'):=by
 refine CL.go 34 func154 O ntmps154 O λB=>?_;rw[Gu] at E;refine AU ?_;refine AH O E (λG E=>?_) (λG E=>?_)
 ·exact RT
 refine AU ?_;refine AH O E (λH E=>?_) (λH E=>?_)
 ·exact RT
 refine AU ?_;refine CX (.inl O) F (AU ?_);refine JZ O RW Ni O ?_;obtain⟨s,t,E⟩:=bd E;refine KA (v:= .tuple #[.int .u64 s.1,.int .u64 s.2]) (Ψ:=IntKind.has .u64 s.1∧IntKind.has .u64 s.2) O O O fX O (λh' o=>(Mp (St.all h') (Fv _ _) (show IntKind.has .u64 1099511627776 by first|assumption|exact⟨by decide,by decide⟩) t).mono λ_ _ _ _ p=>⟨p.1,⟨p.2.1,p.2.2.1⟩⟩) λI=>?_;obtain⟨J,K⟩:=I;refine AU ?_;refine By (kp [6,5,1] O) λY u Z=>AU ?_;refine CX (.inl O) u (AU ?_);refine JZ O RW Ni O ?_;obtain⟨d,q,E⟩:=bd E;refine KA (v:= .tuple #[.int .u64 d.1,.int .u64 d.2]) (Ψ:=IntKind.has .u64 d.1∧IntKind.has .u64 d.2) O O O fW O (λh' o=>(Mq (St.all h') J K (Fv _ _) q).mono λ_ _ _ _ p=>⟨p.1,⟨p.2.1,p.2.2.1⟩⟩) λx=>?_;obtain⟨y,M⟩:=x;refine AU ?_;refine By (kp [8,7] O) λj i Q=>AU ?_;refine H6 (λa w=>∃(g:Int),IV B S j (34,[]) a w [(7,.int .u64 g)] (L) λ_ _=>IntKind.has .u64 g∧Kd N g=some r) ?_ ?_
 ·refine AH O E (λz E=>?_) (λz E=>?_)
  ·refine AU ?_;refine WF.nil (λA C m n=>?_);exact⟨(IntKind.wrap .u64 (d.1+1)),_,_,m.sub (kp [7] O),n,i,(CJ.refl S j),(Fv _ _),E⟩
  refine AU ?_;refine WF.nil (λA C m n=>?_);exact⟨d.1,_,_,m.sub (kp [7] O),n,i,(CJ.refl S j),y,E⟩
 rintro A C ⟨g,U,V,m,n,D,W,X,E⟩;refine AK ?_ m n;clear m n C A;rw[Kd] at E;refine AU ?_;exact JZ O Ni RW O (RT)
def Qe (hs:St S L h) {c:Value}{b:(List (List Bz))}(i:Sl S h (A5.sl CG) c b) {r:Int}(E:Jv N b=some r):
 CL prog 155 #[c] S h (λv S' h'=>v=vI r∧AA r∧St S' (L) h'):=by
 refine CL.go 48 func155 O ntmps155 O λB=>?_;rw[Jv] at E;refine AU ?_;refine AV (λa w=>∃(J:Int),IV B S h (48,[]) a w [(3,vI J)] (L) λ_ _=>AA J∧Er N J=some r) ?_ ?_
 ·refine A9 (λK=>λa w=>∃(A:Int) (j:Int),IV B S h (48,[]) a w [(8,vI (↑b.length:Int)),(7,c),(3,vI A),(9,vI j)] (L) λ_ _=>AA A∧AA j∧Dw N b (Er N) K A j=some r) N ?_ ?_ ?_
  ·intro k l d g;exact⟨0,0,_,_,d.sub (kp [8,7,3,9] O),g,hs,(CJ.refl S h),(iq (n:=0) O),(iq (n:=0) O),E⟩
  ·rintro k l ⟨_,_,_,_,_,_,_,_,_,_,E⟩;rw[Dw] at E;cases E
  rintro K k l ⟨A,j,y,z,d,g,u,C,r9,ah,E⟩;refine AK ?_ d g;clear d g l k;rw[Dw] at E;refine AU ?_;refine AH O E (λM E=>?_) (λM E=>?_)
  ·refine AU ?_;refine AV (λa w=>∃(q:Int),IV B y z (48,[]) a w [(8,vI (↑b.length:Int)),(7,c),(9,vI j),(3,vI q)] (L) λ_ _=>AA q∧Gc N j (Dw N b (Er N) K) q=some r) ?_ ?_
   ·refine AU ?_;have Q:=i.mono' C;refine BK E O O Q qP.1 O λU E ai V=>?_;obtain⟨W,_,s⟩:=V.ll;refine AU ?_;refine A6 (A9 (λn3=>λa w=>∃(m:Int) (t:Int),IV B y z (48,[]) a w [(5,W),(8,vI (↑b.length:Int)),(7,c),(9,vI j),(3,vI m),(6,vI t)] (L) λ_ _=>AA m∧AA t∧Fg N U (Gc N j (Dw N b (Er N) K)) n3 m t=some r) N ?_ ?_ ?_)
    ·intro k l d g;exact⟨A,1,_,_,d.sub (kp [5,8,7,9,3,6] O),g,u,(CJ.refl y z),r9,(iq (n:=1) O),E⟩
    ·rintro k l ⟨_,_,_,_,_,_,_,_,_,_,E⟩;rw[Fg] at E;cases E
    rintro n3 k l ⟨m,t,aj,ak,d,g,x,p,D,al,E⟩;refine AK ?_ d g;clear d g l k;rw[Fg] at E;have am:=s.mono' p;refine AU ?_;refine AH O E (λX E=>?_) (λX E=>?_)
    ·refine AU ?_;refine A6 (CX (.inr ⟨mo,by kernel_rfl⟩) x (AU ?_));have Y:=s.mono' p;refine BK E O O Y LR.1 O λan E ao ap=>AU ?_;have Z:=s.mono' p;refine BK E O O Z LR.1 O λaq E ar au=>AU ?_;have ab:=s.mono' p;refine BK E O O ab LR.1 O λav E aw ax=>AU ?_;have ac:=s.mono' p;refine BK E O O ac LR.1 O λay E az a0=>AU ?_;refine DM E O O O Rm O (λF G h' o=>JM (St.all h') (BV _) (BV _) G) λF E ad=>?_;have ae:=ad;refine Rw O O O (AU ?_);refine By (kp [3,5,8,7,9,6] O) λa1 H a2=>BP (AU ?_);refine WF.nil (λk l d g=>?_);exact⟨(max m F),(BT (t+1)),_,_,d.sub (kp [5,8,7,9,3,6] O),g,H,EX,(Rl D ae),(BV _),E⟩
    refine JV O (WF.nil (λk l d g=>?_));exact⟨m,_,_,d.sub (kp [8,7,9,3] O),g,x,p,D,E⟩
   rintro k l ⟨q,a3,a4,d,g,I,a5,af,E⟩;refine AK ?_ d g;clear d g l k;rw[Gc] at E;refine AU ?_;refine WF.nil (λk l d g=>?_);exact⟨q,(BT (j+1)),_,_,d.sub (kp [8,7,3,9] O),g,I,EX,af,(BV _),E⟩
  refine BM O (λk l d g=>?_);exact⟨A,_,_,d.sub (kp [3] O),g,u,C,r9,E⟩
 rintro k l ⟨J,a6,a7,d,g,ag,a8,r3,E⟩;refine AK ?_ d g;clear d g l k;rw[Er] at E;exact RT
def On (hs:St S L h) {ag:Value}{k:AF}(a1:Rd S h B3 ag k) {r:Bool}(E:IM N k=some r):
 CL prog 79 #[ag] S h (λv S' h'=>v= .bool r∧St S' (L) h'):=by
 refine CL.go 128 func79 O ntmps79 O λB=>?_;rw[IM] at E;refine AU ?_;refine CZ O a1 CE O hs λq1 S2 h3 fn e5 k6=>AU ?_;obtain⟨di,E⟩:=Lt E;refine Lf (r:=AB) (zx:=0) JU O ⟨O,by unfold AA;omega⟩ O O di O O fn λq bm dj fo=>?_;have dk:=k6.mono fo;have fp:=dk.fl Cp;obtain⟨fq,_,fr⟩:=fp.ll;refine AU ?_;refine AV (λa w=>∃(a2:List Int),IV B S2 bm (128,[]) a w [(3,q),(1,q1)] (OS AB 3 q a2::L) λ_ _=>EU N k a2=some r) ?_ ?_
 ·refine A9 (λn1=>λa w=>∃(af:Int) (ak:List Int),IV B S2 bm (128,[]) a w [(16,vI (↑k.A.length:Int)),(15,fq),(3,q),(1,q1),(17,vI af)] (OS AB 3 q ak::L) λ_ _=>AA af∧ES N k (EU N k) n1 af ak=some r) N ?_ ?_ ?_
  ·intro t u d g;exact⟨0,(List.replicate ((↑k.A.length:Int):Int).toNat (0:Int)),_,_,d.sub (kp [16,15,3,1,17] O),g,dj,(CJ.refl S2 bm),(iq (n:=0) O),E⟩
  ·rintro t u ⟨_,_,_,_,_,_,_,_,_,E⟩;rw[ES] at E;cases E
  rintro n1 t u ⟨af,ak,jq,jr,d,g,a6,dl,js,E⟩;refine AK ?_ d g;clear d g u t;rw[ES] at E;refine AU ?_;refine AH O E (λfs E=>?_) (λfs E=>?_)
  ·refine AU ?_;refine A6 (AU ?_);have ft:=fr.mono' dl;refine BK E O O ft NZ.1 O λjt E ju fu=>?_;obtain⟨jv,_,fv⟩:=fu.lv;refine AU ?_;refine Dp QL O a6 λjw jx dm fw=>AU ?_;have fx:=fv.mono fw;obtain⟨jy,jz,j0,rfl,j1,j2,j3,j4,j5,j6,fy,f0,j7,j8,j9,ka⟩:=B1.ex fx;refine IH O O O ON QO.1 O dm .head O λkb dn kc=>AU ?_;refine DQ (AU ?_);refine DX E O O O Rm O dn (λbn dp=>JM (St.all _) fy f0 dp) λbn E kd ke kf a7 kg kh p=>?_;obtain⟨rfl,f1,gc⟩:=p;refine AU ?_;obtain⟨ki,dq,E⟩:=bd E;refine BY a7 (mt mh) O O Ck.1 dq O λkj dr=>AU ?_;obtain⟨f2,ds,E⟩:=bd E;refine Ed (r:=AB) (l:=ak) (i:=af) (x:=f2) O O (⟨_,O,O,f1⟩:Rd _ _ AB _ bn) dr ds Mh.id Fa.1 (λ_=>rfl) a7 (.tail .head) λkk dt kl=>AU ?_;refine BP (AU ?_);refine WF.nil (λt u d g=>?_);have du:=dt.sel [1] 1 O;exact⟨(BT (af+1)),(upd ak af bn),_,_,d.sub (kp [16,15,3,1,17] O),g,du,EX,(BV _),E⟩
  refine BM O (λt u d g=>?_);exact⟨ak,_,_,d.sub (kp [3,1] O),g,a6,dl,E⟩
 rintro t u ⟨a2,bo,bp,d,g,dv,f3,E⟩;refine AK ?_ d g;clear d g u t;rw[EU] at E;have f4:=dk.mono f3;have f5:=f4.fl HY;obtain⟨an,_,f6⟩:=f5.ll;refine AU ?_;refine AV (λa w=>∃(am:List Int),IV B bo bp (128,[]) a w [(3,q)] (OS AB 3 q am::L) λ_ _=>DG N am=some r) ?_ ?_
 ·refine A9 (λn3=>λa w=>∃(Q:Int) (y:List Int),IV B bo bp (128,[]) a w [(33,vI (↑k.C.length:Int)),(32,an),(3,q),(34,vI Q)] (OS AB 3 q y::L) λ_ _=>AA Q∧B5 N k (DG N) n3 Q y=some r) N ?_ ?_ ?_
  ·intro t u d g;exact⟨0,a2,_,_,d.sub (kp [33,32,3,34] O),g,dv,(CJ.refl bo bp),(iq (n:=0) O),E⟩
  ·rintro t u ⟨_,_,_,_,_,_,_,_,_,E⟩;rw[B5] at E;cases E
  rintro n3 t u ⟨Q,y,D,dw,d,g,ao,a8,km,E⟩;refine AK ?_ d g;clear d g u t;rw[B5] at E;refine AU ?_;refine AH O E (λdx E=>?_) (λdx E=>?_)
  ·refine AU ?_;refine AV (λa w=>∃(ah:List Int),IV B D dw (128,[]) a w [(33,vI (↑k.C.length:Int)),(32,an),(3,q),(34,vI Q)] (OS AB 3 q ah::L) λ_ _=>C4 N Q (B5 N k (DG N) n3) ah=some r) ?_ ?_
   ·refine AU ?_;have dy:=f6.mono' a8;refine BK E O O dy Ob.1 O λc E ge dz=>?_;obtain⟨gf,_,d0⟩:=dz.lv;refine AU ?_;refine Dp Ov O ao λz gg bq d1=>?_;have d2:=d0.mono d1;obtain⟨a9,ba,bb,rfl,gh,gi,gj,gl,d3,d4,d5,gm,gn,gp,gq,bc,be,gr,gs,bf,bg,gu⟩:=CB.ex d2;refine IH O O O ON Oy.1 O bq .head O λH j gv=>AU ?_;refine A6 (AU ?_);refine AH O E (λd6 E=>?_) (λd6 E=>?_)
    ·refine AU ?_;obtain⟨gw,br,E⟩:=bd E;obtain⟨J,bs,E⟩:=bd E;obtain⟨K,bt,E⟩:=bd E;obtain⟨gx,bu,E⟩:=bd E;refine Nd (m:=[(7,vP z 0),(33,vI (↑k.C.length:Int)),(32,an),(3,q),(34,vI Q)]) 17 (λi v hh=>match i with|0=>v=q|1=>v=vP z 2|2=>v=vI c.M∧AA c.M|3=>EP q (c.M.toNat*(AB).sz+0) v|4=>v=vI J∧AA J|5=>v=vP z 4|6=>Sl D hh CG v c.As|7=>v=vP z 5|8=>v=vP z 5|9=>Sl D hh CG v c.Ae.Aw|10=>v=vP z 5|11=>v=vP z 6|12=>Sl D hh CG v c.Ae.Ax|13=>Sl (SN D H hh) hh (A5.sl CG) v ([c.As,c.Ae.Aw,c.Ae.Ax]:List (List Bz))∧∃ad,v= .slice (some ad) 3 3|14=>v=vI K∧AA K|15=>v=vI (BT (J+K))∧AA (BT (J+K))|16=>EP q (c.M.toNat*(AB).sz+0) v|_=>False) [[],[],[(1,43)],[(0,42),(2,44)],[(3,45)],[],[(5,47)],[],[(7,49)],[(8,50)],[],[(10,52)],[(11,53)],[(6,48),(9,51),(12,54)],[(13,55)],[(4,46),(14,56)],[(0,42),(2,44)]] [(15,57),(16,58)] mo (by kernel_rfl) [7,33,32,3,34] O (by kernel_rfl) (by kernel_rfl) (by kernel_rfl) (kp [7,33,32,3,34] O) MO ?_ ?_
     ·refine A7.cons O Fy (A7.cons O Fy (A7.cons O Fy (A7.cons O ?_ ?_)))
      ·intro mq hh o;intro gy d7 gz d8;have I:=o.st j;cases d7;obtain⟨rfl,g0⟩:=d8;refine AU ?_;refine BY I (mt mh) O O Ck.1 br O λg1 bv=>AU ?_;exact B0 bv
      refine A7.cons O ?_ ?_
      ·intro mq hh o;intro g2 d9;have I:=o.st j;refine AU ?_;have eb:=I.epAt (mt mh) bs FZ.id d9;refine Fs Hc (λ_ x=>x) O eb Fa.1 O λec=>AU ?_;exact B0 ⟨O,ec⟩
      refine A7.cons O Fy (A7.cons O ?_ ?_)
      ·intro mq hh o;intro g3 ed;have I:=o.st j;cases ed;refine AU ?_;have ee:=d3.nw;exact B0 ee
      refine A7.cons O Fy (A7.cons O Fy (A7.cons O ?_ ?_))
      ·intro mq hh o;intro g4 ef;have I:=o.st j;cases ef;refine AU ?_;have eg:=d4.nw;exact B0 eg
      refine A7.cons O Fy (A7.cons O Fy (A7.cons O ?_ ?_))
      ·intro mq hh o;intro g5 eh;have I:=o.st j;cases eh;refine AU ?_;have ei:=d5.nw;exact B0 ei
      refine A7.cons O ?_ ?_
      ·intro mq hh o;intro ej V ek X el Y;have I:=SN.st j o;have V:=Sl.sn H V;have V:Sl _ _ CG ej c.As:=V;have X:=Sl.sn H X;have X:Sl _ _ CG ek c.Ae.Aw:=X;have Y:=Sl.sn H Y;have Y:Sl _ _ CG el c.Ae.Ax:=Y;have f7:=I.fz;obtain⟨bw,a3,rfl,g6⟩:=(V).len;obtain⟨bx,a4,rfl,g7⟩:=(X).len;obtain⟨bz,a5,rfl,g8⟩:=(Y).len;refine Ft (cs:=[(.slice bw c.As.length a3),(.slice bx c.Ae.Aw.length a4),(.slice bz c.Ae.Ax.length a5)]) rZ O O O O O O O f7 λg9 ha b0 ap=>?_;have em:=Y.mono' ap;have en:=X.mono' ap;have eo:=V.mono' ap;have b1:=b0.bxos (r:=(A5.sl CG)) (l:=([c.As,c.Ae.Aw,c.Ae.Ax]:List (List Bz))) .head ⟨_,_,O,⟨_,O,eo⟩,⟨_,_,O,⟨_,O,en⟩,⟨_,_,O,⟨_,O,em⟩,O⟩⟩⟩ (by simp [maxLen]);obtain⟨hc,b2,hd,ep⟩:=b1.pubs .head;have aq:=Fz.done o EX b2;exact BB aq.1 ⟨Sl.mono' ep aq.2,_,O⟩
      refine A7.cons O ?_ ?_
      ·intro mq hh o;intro he ar;have I:=SN.st j o;obtain⟨ar,f8,rfl⟩:=ar;refine E9 O O O tE O I (Qe (St.all _) (ar.mono I.ea.1 I.ea.2) bt) λhg hi hj f9 hk bh p=>?_;obtain⟨rfl,eq,ga⟩:=p;exact BB ⟨bh.siz,λb hb=>bh.same b hb⟩ ⟨O,eq⟩
      refine A7.cons O Fy (A7.cons O ?_ ?_)
      ·intro mq hh o;intro hl er hm es;have I:=o.st j;cases er;obtain⟨rfl,hn⟩:=es;refine AU ?_;refine BY I (mt mh) O O Ck.1 bu O λho b3=>AU ?_;exact B0 b3
      exact trivial
     intro hp eu hq ev hr ew;have b4:=SN.st j eu;obtain⟨rfl,ey⟩:=ev;obtain⟨ez,b5,E⟩:=bd E;refine Ed (r:=AB) (l:=y) (i:=c.M) (x:=ez) O O (⟨_,O,O,ey⟩:Rd _ _ AB _ (BT (J+K))) ew b5 Mh.id Fa.1 (λ_=>rfl) b4 (.tail .head) λht U hu=>AU ?_;refine AH O E (λe0 E=>?_) (λe0 E=>?_)
     ·refine OM 12 mo (by kernel_rfl) O U (AU ?_);obtain⟨hv,b6,E⟩:=bd E;refine BY U (mt mh) O O Ck.1 b6 O λhx b7=>?_;obtain⟨bi,b8,E⟩:=bd E;have e1:=U.epAt (mt mh) b8 FZ.id b7;refine Fs P3 (λ_ x=>x) O e1 Fa.1 O λhy=>AU ?_;refine DM E O O O Rm O (λau b9 h' o=>JM (St.all h') bf bg b9) λau E e2=>?_;have hz:=e2;refine AU ?_;obtain⟨h0,ca,E⟩:=bd E;refine BY U (mt mh) O O Ck.1 ca O λh1 cb=>Mz λh2 cc h4=>?_;obtain⟨e3,cd,E⟩:=bd E;refine Ed (r:=AB) (l:=(upd y c.M (BT (J+K)))) (i:=c.E) (x:=e3) O O (⟨_,O,O,(BV _)⟩:Rd _ _ AB _ (BT (bi+au))) cb cd Mh.id Fa.1 (λ_=>rfl) cc (.tail .head) λh5 ce h6=>AU ?_;refine BP (WF.nil (λt u d g=>?_));have cf:=ce.sel [1] 1 O;exact⟨(upd (upd y c.M (BT (J+K))) c.E (BT (bi+au))),_,_,d.sub (kp [33,32,3,34] O),g,cf,EX,E⟩
     refine AU ?_;refine BP (WF.nil (λt u d g=>?_));have cg:=U.sel [1] 1 O;exact⟨(upd y c.M (BT (J+K))),_,_,d.sub (kp [33,32,3,34] O),g,cg,EX,E⟩
    refine AU ?_;refine H6 (λa w=>∃(av:Bool),IV B D H (128,[]) a w [(39,vI c.G),(7,vP z 0),(33,vI (↑k.C.length:Int)),(32,an),(3,q),(34,vI Q),(74,.bool av)] (Bx z 139 [.string c.F,vI c.G,vI c.M,vI c.E,a9,ba,bb,vI c.W,vI c.Ag,vI c.Bc,vI c.Bd,vI c.Aa,vI c.T,vI c.Az,vI c.Ba,vI c.Aq,vI c.Al,vI c.R]::OS AB 3 q y::L) λ_ _=>ET N y c (C4 N Q (B5 N k (DG N) n3)) av=some r) ?_ ?_
    ·refine AH O E (λe4 E=>?_) (λe4 E=>?_)
     ·refine AU ?_;refine WF.nil (λt u d g=>?_);exact⟨(decide (c.G=1)),_,_,d.sub (kp [39,7,33,32,3,34,74] O),g,j,(CJ.refl D H),E⟩
     refine AU ?_;refine H6 (λa w=>∃(ai:Bool),IV B D H (128,[]) a w [(39,vI c.G),(7,vP z 0),(33,vI (↑k.C.length:Int)),(32,an),(3,q),(34,vI Q),(74,.bool ai)] (Bx z 139 [.string c.F,vI c.G,vI c.M,vI c.E,a9,ba,bb,vI c.W,vI c.Ag,vI c.Bc,vI c.Bd,vI c.Aa,vI c.T,vI c.Az,vI c.Ba,vI c.Aq,vI c.Al,vI c.R]::OS AB 3 q y::L) λ_ _=>IT N (ET N y c (C4 N Q (B5 N k (DG N) n3))) ai=some r) ?_ ?_
     ·refine AH O E (λe6 E=>?_) (λe6 E=>?_)
      ·refine AU ?_;refine WF.nil (λt u d g=>?_);exact⟨(decide (c.G=5)),_,_,d.sub (kp [39,7,33,32,3,34,74] O),g,j,(CJ.refl D H),E⟩
      refine AU ?_;refine WF.nil (λt u d g=>?_);exact⟨(decide (c.G=3)),_,_,d.sub (kp [39,7,33,32,3,34,74] O),g,j,(CJ.refl D H),E⟩
     rintro t u ⟨ai,h7,h8,d,g,ch,e7,E⟩;refine AK ?_ d g;clear d g u t;rw[IT] at E;refine WF.nil (λt u d g=>?_);exact⟨ai,_,_,d.sub (kp [39,7,33,32,3,34,74] O),g,ch,e7,E⟩
    rintro t u ⟨av,h9,ia,d,g,s,ib,E⟩;refine AK ?_ d g;clear d g u t;rw[ET] at E;refine AH O E (λe8 E=>?_) (λe8 E=>?_)
    ·refine OM 12 mo (by kernel_rfl) O s (AU ?_);obtain⟨ic,ci,E⟩:=bd E;refine BY s (mt mh) O O Ck.1 ci O λie cj=>?_;obtain⟨bj,ck,E⟩:=bd E;have e9:=s.epAt (mt mh) ck FZ.id cj;refine Fs P3 (λ_ x=>x) O e9 Fa.1 O λig=>AU ?_;refine DM E O O O Rm O (λaw cl h' o=>JM (St.all h') bc be cl) λaw E fa=>?_;have ih:=fa;refine AU ?_;obtain⟨ii,cm,E⟩:=bd E;refine BY s (mt mh) O O Ck.1 cm O λij cn=>Mz λik co il=>?_;obtain⟨fb,cp,E⟩:=bd E;refine Ed (r:=AB) (l:=y) (i:=c.M) (x:=fb) O O (⟨_,O,O,(BV _)⟩:Rd _ _ AB _ (BT (bj+aw))) cn cp Mh.id Fa.1 (λ_=>rfl) co (.tail .head) λim cq io=>AU ?_;refine BP (WF.nil (λt u d g=>?_));have cr:=cq.sel [1] 1 O;exact⟨(upd y c.M (BT (bj+aw))),_,_,d.sub (kp [33,32,3,34] O),g,cr,EX,E⟩
    refine AU ?_;refine AH O E (λfc E=>?_) (λfc E=>?_)
    ·refine AU ?_;refine OM 13 mo (by kernel_rfl) O s (AU ?_);obtain⟨ip,ct,E⟩:=bd E;refine BY s (mt mh) O O Ck.1 ct O λir cu=>?_;obtain⟨ax,cv,E⟩:=bd E;have fd:=s.epAt (mt mh) cv FZ.id cu;refine Fs P3 (λ_ x=>x) O fd Fa.1 O λit=>AU ?_;refine DM E O O O Rm O (λaj cw h' o=>JM (St.all h') bc be cw) λaj E fe=>?_;have iu:=fe;refine AU ?_;obtain⟨iv,cx,E⟩:=bd E;refine BY s (mt mh) O O Ck.1 cx O λiw cy=>Mz λiy cz iz=>?_;obtain⟨ff,c0,E⟩:=bd E;refine Ed (r:=AB) (l:=y) (i:=c.M) (x:=ff) O O (⟨_,O,O,(BV _)⟩:Rd _ _ AB _ (BT (ax+(BT (2*aj))))) cy c0 Mh.id Fa.1 (λ_=>rfl) cz (.tail .head) λi0 Z i1=>AU ?_;refine OM 13 mo (by kernel_rfl) O Z (AU ?_);obtain⟨i2,c1,E⟩:=bd E;refine BY Z (mt mh) O O Ck.1 c1 O λi3 c2=>?_;obtain⟨bk,c3,E⟩:=bd E;have fg:=Z.epAt (mt mh) c3 FZ.id c2;refine Fs P3 (λ_ x=>x) O fg Fa.1 O λi4=>AU ?_;refine DM E O O O Rm O (λay c4 h' o=>JM (St.all h') bf bg c4) λay E fh=>?_;have i5:=fh;refine AU ?_;obtain⟨i6,c5,E⟩:=bd E;refine BY Z (mt mh) O O Ck.1 c5 O λi7 c6=>Mz λi8 c7 i9=>?_;obtain⟨fi,c8,E⟩:=bd E;refine Ed (r:=AB) (l:=(upd y c.M (BT (ax+(BT (2*aj)))))) (i:=c.E) (x:=fi) O O (⟨_,O,O,(BV _)⟩:Rd _ _ AB _ (BT (bk+(BT (2*ay))))) c6 c8 Mh.id Fa.1 (λ_=>rfl) c7 (.tail .head) λja c9 jb=>AU ?_;refine BP (WF.nil (λt u d g=>?_));have da:=c9.sel [1] 1 O;exact⟨(upd (upd y c.M (BT (ax+(BT (2*aj))))) c.E (BT (bk+(BT (2*ay))))),_,_,d.sub (kp [33,32,3,34] O),g,da,EX,E⟩
    refine AU ?_;refine BP (WF.nil (λt u d g=>?_));have db:=s.sel [1] 1 O;exact⟨y,_,_,d.sub (kp [33,32,3,34] O),g,db,EX,E⟩
   rintro t u ⟨ah,jc,jd,d,g,dc,je,E⟩;refine AK ?_ d g;clear d g u t;rw[C4] at E;refine AU ?_;refine WF.nil (λt u d g=>?_);exact⟨(BT (Q+1)),ah,_,_,d.sub (kp [33,32,3,34] O),g,dc,EX,(BV _),E⟩
  refine BM O (λt u d g=>?_);exact⟨y,_,_,d.sub (kp [3] O),g,ao,a8,E⟩
 rintro t u ⟨am,az,a0,d,g,dd,jf,E⟩;refine AK ?_ d g;clear d g u t;rw[DG] at E;refine AU ?_;refine AV (λa w=>IV B az a0 (128,[]) a w [] (L) λ_ _=>GU N=some r) ?_ ?_
 ·refine A9 (λn8=>λa w=>∃(ac:Int),IV B az a0 (128,[]) a w [(120,vI (↑am.length:Int)),(119,q),(121,vI ac)] (OS AB 3 q am::L) λ_ _=>AA ac∧ER N am (GU N) n8 ac=some r) N ?_ ?_ ?_
  ·intro t u d g;exact⟨0,_,_,d.sub (kp [120,119,121] O),g,dd,(CJ.refl az a0),(iq (n:=0) O),E⟩
  ·rintro t u ⟨_,_,_,_,_,_,_,_,E⟩;rw[ER] at E;cases E
  rintro n8 t u ⟨ac,jg,jh,d,g,ab,bl,ji,E⟩;refine AK ?_ d g;clear d g u t;rw[ER] at E;refine AU ?_;refine AH O E (λfj E=>?_) (λfj E=>?_)
  ·refine AU ?_;refine A6 (AU ?_);obtain⟨jj,de,E⟩:=bd E;refine BY ab mh O O Ck.1 de O λjk df=>?_;obtain⟨jl,dg,E⟩:=bd E;have fk:=ab.epAt mh dg FZ.id df;refine Fs Hc (λ_ x=>x) O fk Fa.1 O λjm=>AU ?_;refine AH O E (λfm E=>?_) (λfm E=>?_)
   ·exact RT
   refine AU ?_;refine BP (AU ?_);refine WF.nil (λt u d g=>?_);exact⟨(BT (ac+1)),_,_,d.sub (kp [120,119,121] O),g,ab,bl,(BV _),E⟩
  refine BM O (λt u d g=>?_);have dh:=ab.drop .head;exact⟨_,_,d.sub R5,g,dh,bl,E⟩
 rintro t u ⟨jn,jo,d,g,gb,jp,E⟩;refine AK ?_ d g;clear d g u t;rw[GU] at E;exact RT
end Go.Proofs.YtabonambpbofgaaGreat
