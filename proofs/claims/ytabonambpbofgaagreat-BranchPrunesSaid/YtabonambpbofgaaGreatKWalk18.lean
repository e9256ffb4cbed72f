import Derived.Test.YtabonambpbofgaaGreatKInst
import Derived.Test.YtabonambpbofgaaGreatKForms
import Derived.Test.YtabonambpbofgaaGreatKSort5
import Derived.Test.YtabonambpbofgaaGreatKSortD
import Derived.Test.YtabonambpbofgaaGreatKWalk6
import Derived.Test.YtabonambpbofgaaGreatKWalk7
import Derived.Test.YtabonambpbofgaaGreatKWalk15
import Derived.Test.YtabonambpbofgaaGreatKWalk16
import Derived.Test.YtabonambpbofgaaGreatKWalk17
namespace Go.Proofs.YtabonambpbofgaaGreat
set_option linter.all false
open Go.RowKit
open Go.Proofs.Tryz
set_option maxRecDepth 10000
set_option maxHeartbeats 20000000
variable {N:Nat}{S:Nat→Prop}{L:List HP}{h:AS}
def Pn (hs:St S L h) {g:Value}{q:AF}(p:Rd S h B5 g q) {d:Value}{i:(List BS)}(c:Sl S h Ca d i) {r:Bool}(E:JT N q i=some r):
 CM prog 9 #[g,d] S h (λv S' h'=>v= .bool r∧St S' (L) h'):=by
 refine CM.go 70 func9 O ntmps9 O λB=>?_;rw[JT] at E;refine AU ?_;refine Cg O p CE O hs λq1 S2 C D e5 k6=>?_;have ag:=c.mono' e5;refine AU ?_;refine AH O E (λF E=>?_) (λF E=>?_)
 ·exact RT
 refine AU ?_;refine AQ (λa w=>IV B S2 C (70,[]) a w [] (L) λ_ _=>HL N=some r) ?_ ?_
 ·refine A8 (λn1=>λa w=>∃(j:Int),IV B S2 C (70,[]) a w [(1,d),(5,vI j)] (L) λ_ _=>AA j∧E9 N i (HL N) n1 j=some r) N ?_ ?_ ?_
  ·intro t u k l;exact⟨0,_,_,k.sub (kp [1,5] O),l,D,(C2.refl S2 C),(iq (n:=0) O),E⟩
  ·rintro t u ⟨_,_,_,_,_,_,_,_,E⟩;rw[E9] at E;cases E
  rintro n1 t u ⟨j,ah,ai,k,l,s,G,aj,E⟩;refine AK ?_ k l;clear k l u t;rw[E9] at E;have ak:=c.nw;refine AU ?_;refine AH O E (λH E=>?_) (λH E=>?_)
  ·refine AU ?_;refine A5 (AU ?_);have I:=c.nw;refine BI E O O I T0.1 O λm E am J=>?_;have K:=J.fl BS.f_In;obtain⟨an,_,M⟩:=K.lv;refine AU ?_;refine D0 Zz O s λao ap x Q=>?_;have V:=M.mono Q;obtain⟨aq,ar,au,av,aw,rfl,W,X,Y,Z,ab⟩:=Cf.ex V;refine JI O O O ON Pr.1 O x .head O λax y o=>?_;have ay:=W.mono' o;have az:=X.mono' o;have a0:=Y.mono' o;have a1:=Z.mono' o;have a2:=ab.mono' o;refine AU ?_;obtain⟨ac,b,E⟩:=bd E;refine AY 8 69 (.bool ac) ?_ ?_
   ·cases z:(((((decide (8<(↑m.L.T.length:Int)))||(decide (6<(↑m.L.Ab.length:Int))))||(decide (6<(↑m.L.Ac.length:Int))))||(decide (6<(↑m.L.U.length:Int))))||(decide (6<(↑m.L.Ae.length:Int))))
    ·have b:=HV z b;refine AU ?_;have ad:=c.nw;refine BI b O O ad T0.1 O λa3 b a4 a5=>AU ?_;cases b;exact AZ O
    have b:=HU z b;cases b;exact BE O O
   refine AU ?_;refine AH O E (λae E=>?_) (λae E=>?_)
   ·exact RT
   refine AU ?_;refine BJ (AU ?_);refine WF.nil (λt u k l=>?_);have A:=y.drop .head;exact⟨(BQ (j+1)),_,_,k.sub (kp [1,5] O),l,A,EX,(BW _),E⟩
  refine BL O (λt u k l=>?_);exact⟨_,_,k.sub Ri,l,s,G,E⟩
 rintro t u ⟨a6,a7,k,l,af,a8,E⟩;refine AK ?_ k l;clear k l u t;rw[HL] at E;exact RT
def OZ (W:St S L h) {b:Value}{j:AF}(g:Rd S h B5 b j) {c:Value}{k:AI}(i:Rd S h BO c k) {r:(Option Ey)}(E:IK N j k=some r):
 CM prog 10 #[b,c] S h (λv S' h'=>St S' (Ny 91 93 3 v r::L) h'):=by
 refine CM.go 17 func10 O ntmps10 O λB=>?_;rw[IK] at E;refine AU ?_;refine Cg O g CE O W λq1 S2 h3 A X Y=>?_;have Z:=i.mono X;refine Cg O Z CE O A λq8 S9 ab d C n=>AU ?_;refine CV (.inl O) d ?_;have m:=Y.mono C;obtain⟨ac,_,D⟩:=m.lv;refine AU ?_;refine BC E O O O nO O (λq s h' o=>OP (St.all h') (D.mono (o.all d.1)) s) λq E=>AU ?_;obtain⟨F,a,E⟩:=bd E;refine AY 5 13 (.bool F) ?_ ?_
 ·cases t:(!q)
  ·have a:=HV t a;obtain⟨ad,_,G⟩:=m.lv;obtain⟨ae,_,H⟩:=n.lv;refine AU ?_;refine BC a O O O nN O (λI u h' o=>Om (St.all h') (G.mono (o.all d.1)) (H.mono (o.all d.1)) u) λI a=>AU ?_;cases a;exact AZ O
  have a:=HU t a;cases a;exact BE O O
 refine BZ (kp [13,3,2] O) λaf l w=>AH O E (λJ E=>?_) (λJ E=>?_)
 ·refine AU ?_;refine CO (λaa ww hf hw=>?_);have x:=fW (TT:=91) (T:=93) (E:=3) l;cases E;exact SH hf hw O O EX x
 refine AU ?_;refine De ?_;have K:=m.mono w;obtain⟨ag,_,M⟩:=K.lv;have Q:=n.mono w;obtain⟨ah,_,U⟩:=Q.lv;refine AU ?_;refine GY E O O O nP O (λV y=>aX l M U y) λV E ai aj ak al p=>?_;have z:=p;refine AU ?_;cases E;exact GF z O O EX
def KD (hs:St S L h) {c:Value}{i:(List (List Int))}(p:Sl S h (A7.sl AB) c i) {d:Value}{k:(List (List Int))}(q:Sl S h (A7.sl AB) d k) {j:Value}{l:(((List Int)×(List Int))→Option Bool)}(s:Rd S h (A7.fnr prog (λS h vs (x:((List Int)×(List Int)))=>∃w0 w1:Value,vs=[w0,w1]∧Sl S h AB w0 x.1∧Sl S h AB w1 x.2) (λS h v (y:Bool)=>v= .bool y)) j l) {r:Bool}(E:Dx N i k l=some r):
 CM prog 48 #[c,d,j] S h (λv S' h'=>v= .bool r∧St S' (L) h'):=by
 refine CM.go 32 func48 O ntmps48 O λB=>?_;rw[Dx] at E;obtain⟨H,I,rfl,J,K⟩:=s.fnr;refine AU ?_;refine AH O E (λc7 E=>?_) (λc7 E=>?_)
 ·exact RT
 refine AU ?_;refine AQ (λa w=>IV B S h (32,[]) a w [] (L) λ_ _=>Db N=some r) ?_ ?_
 ·refine A8 (λn1=>λa w=>∃(t:Int),IV B S h (32,[]) a w [(16,vI (↑i.length:Int)),(15,c),(1,d),(2,(.func (.func H) #[] I)),(17,vI t)] (L) λ_ _=>AA t∧CG N i k l (Db N) n1 t=some r) N ?_ ?_ ?_
  ·intro A C u z;exact⟨0,_,_,u.sub (kp [16,15,1,2,17] O),z,hs,(C2.refl S h),(iq (n:=0) O),E⟩
  ·rintro A C ⟨_,_,_,_,_,_,_,_,E⟩;rw[CG] at E;cases E
  rintro n1 A C ⟨t,ae,af,u,z,g,m,ag,E⟩;refine AK ?_ u z;clear u z C A;rw[CG] at E;refine AU ?_;refine AH O E (λM E=>?_) (λM E=>?_)
  ·refine AU ?_;refine A5 (AU ?_);have Q:=p.mono' m;refine BI E O O Q Jh.1 O λU E ah V=>?_;obtain⟨ai,_,W⟩:=V.ll;refine AU ?_;have X:=q.mono' m;refine BI E O O X Jh.1 O λY E aj Z=>?_;obtain⟨ak,_,ab⟩:=Z.ll;refine AU ?_;refine CV (.inl O) g (AU ?_);obtain⟨al,D,E⟩:=bd E;refine IW O O O J O (λh' o=>K _ h' (λb G=>Ab0 (g.1 b (m.sub b G)) o.siz) (λb G=>(o.same b (g.1 b (m.sub b G))).trans (m.same b G)) [] (St.all h') (U,Y) _ _ ⟨_,_,O,(W.mono' (o.all g.1)),(ab.mono' (o.all g.1))⟩ D) (AU ?_);refine BZ (kp [30,16,15,1,2,17] O) λam F an=>AH O E (λac E=>?_) (λac E=>?_)
   ·exact RT
   refine AU ?_;refine BJ (AU ?_);refine WF.nil (λA C u z=>?_);exact⟨(BQ (t+1)),_,_,u.sub (kp [16,15,1,2,17] O),z,F,EX,(BW _),E⟩
  refine BL O (λA C u z=>?_);exact⟨_,_,u.sub Ri,z,g,m,E⟩
 rintro A C ⟨ao,ap,u,z,ad,aq,E⟩;refine AK ?_ u z;clear u z C A;rw[Db] at E;exact RT
def Ez (hs:St S L h) {c:Value}{g:(List AT)}(m:Sl S h A0 c g) {d:Value}{k:(List AT)}(p:Sl S h A0 d k) {i:Value}{l:((AT×AT)→Option Bool)}(q:Rd S h (A7.fnr prog (λS h vs (x:(AT×AT))=>∃w0 w1:Value,vs=[w0,w1]∧Rd S h A0 w0 x.1∧Rd S h A0 w1 x.2) (λS h v (y:Bool)=>v= .bool y)) i l) {r:Bool}(E:BG N g k l=some r):
 CM prog 50 #[c,d,i] S h (λv S' h'=>v= .bool r∧St S' (L) h'):=by
 refine CM.go 32 func50 O ntmps50 O λB=>?_;rw[BG] at E;obtain⟨X,Y,rfl,Z,ab⟩:=q.fnr;refine AU ?_;refine AH O E (λc7 E=>?_) (λc7 E=>?_)
 ·exact RT
 refine AU ?_;refine AQ (λa w=>IV B S h (32,[]) a w [] (L) λ_ _=>BD N=some r) ?_ ?_
 ·refine A8 (λn1=>λa w=>∃(s:Int),IV B S h (32,[]) a w [(16,vI (↑g.length:Int)),(15,c),(1,d),(2,(.func (.func X) #[] Y)),(17,vI s)] (L) λ_ _=>AA s∧AO N g k l (BD N) n1 s=some r) N ?_ ?_ ?_
  ·intro F G t u;exact⟨0,_,_,t.sub (kp [16,15,1,2,17] O),u,hs,(C2.refl S h),(iq (n:=0) O),E⟩
  ·rintro F G ⟨_,_,_,_,_,_,_,_,E⟩;rw[AO] at E;cases E
  rintro n1 F G ⟨s,ar,au,t,u,D,z,av,E⟩;refine AK ?_ t u;clear t u G F;rw[AO] at E;refine AU ?_;refine AH O E (λac E=>?_) (λac E=>?_)
  ·refine AU ?_;refine A5 (AU ?_);have ad:=m.mono' z;refine BI E O O ad On.1 O λae E aw af=>?_;obtain⟨ax,_,ag⟩:=af.lv;refine AU ?_;refine D0 ST O D λay az H ah=>AU ?_;have I:=ag.mono ah;obtain⟨a0,rfl,a1,a2,a3⟩:=A0.ex I;refine JI O O O ON Sb.1 O H .head O λa4 J a5=>AU ?_;have ai:=p.nw;refine BI E O O ai On.1 O λaj E a6 ak=>?_;obtain⟨a7,_,am⟩:=ak.lv;refine AU ?_;refine D0 ST O J λa8 a9 K an=>?_;have M:=am.mono an;obtain⟨ba,rfl,bb,bc,be⟩:=A0.ex M;refine JI O O O ON Sb.1 O K .head O λbf j ao=>AU ?_;refine CV (.inl O) j (AU ?_);have A:=I.nw;have C:=M.mono ao;obtain⟨bg,Q,E⟩:=bd E;refine IW O O O Z O (λh' o=>ab _ h' (λb W=>Ab0 (j.1 b (((z.trans EX).trans EX).sub b W)) o.siz) (λb W=>(o.same b (j.1 b (((z.trans EX).trans EX).sub b W))).trans (((z.trans EX).trans EX).same b W)) [] (St.all h') (ae,aj) _ _ ⟨_,_,O,(A.mono (o.all j.1)),(C.mono (o.all j.1))⟩ Q) (AU ?_);refine BZ (kp [30,16,15,1,2,17] O) λbh U bi=>AH O E (λap E=>?_) (λap E=>?_)
   ·exact RT
   refine AU ?_;refine BJ (AU ?_);refine WF.nil (λF G t u=>?_);have V:=U.sel [] 2 O;exact⟨(BQ (s+1)),_,_,t.sub (kp [16,15,1,2,17] O),u,V,EX,(BW _),E⟩
  refine BL O (λF G t u=>?_);exact⟨_,_,t.sub Ri,u,D,z,E⟩
 rintro F G ⟨bj,bk,t,u,aq,bl,E⟩;refine AK ?_ t u;clear t u G F;rw[BD] at E;exact RT
def I9 (H:St S L h) {b:Value}{d:(List A4)}(i:Sl S h BT b d) {c:Value}{g:(List A4)}(j:Sl S h BT c g) {r:Bool}(E:C4 N d g=some r):
 CM prog 52 #[b,c] S h (λv S' h'=>v= .bool r∧St S' (L) h'):=by
 refine CM.go 26 func52 O ntmps52 O λB=>?_;rw[C4] at E;refine AU ?_;refine AH O E (λI E=>?_) (λI E=>?_)
 ·exact RT
 refine AU ?_;refine AQ (λa w=>IV B S h (26,[]) a w [] (L) λ_ _=>Cj N=some r) ?_ ?_
 ·refine A8 (λF=>λa w=>∃(s:Int),IV B S h (26,[]) a w [(12,vI (↑d.length:Int)),(0,b),(1,c),(13,vI s)] (L) λ_ _=>AA s∧BP N d g (Cj N) F s=some r) N ?_ ?_ ?_
  ·intro p q k l;exact⟨0,_,_,k.sub (kp [12,0,1,13] O),l,H,(C2.refl S h),(iq (n:=0) O),E⟩
  ·rintro p q ⟨_,_,_,_,_,_,_,_,E⟩;rw[BP] at E;cases E
  rintro F p q ⟨s,S9,J,k,l,o,m,r8,E⟩;refine AK ?_ k l;clear k l q p;rw[BP] at E;refine AU ?_;refine AH O E (λt E=>?_) (λt E=>?_)
  ·refine AU ?_;refine A5 (AU ?_);refine Hv (.inr ⟨mo,by kernel_rfl⟩) (AU ?_);have u:=i.mono' m;refine BI E O O u OJ.1 O λK E M x=>?_;obtain⟨Q,_,y⟩:=x.lv;refine AU ?_;have z:=j.mono' m;refine BI E O O z OJ.1 O λU E V A=>?_;obtain⟨W,_,C⟩:=A.lv;refine AU ?_;obtain⟨rfl,⟨X,Y⟩⟩:=BT.ex y;obtain⟨rfl,⟨Z,ab⟩⟩:=BT.ex C;refine TV O O qX O O O O (AU ?_);refine AH O E (λD E=>?_) (λD E=>?_)
   ·exact RT
   refine AU ?_;refine BJ (AU ?_);refine WF.nil (λp q k l=>?_);exact⟨(BQ (s+1)),_,_,k.sub (kp [12,0,1,13] O),l,o,m,(BW _),E⟩
  refine BL O (λp q k l=>?_);exact⟨_,_,k.sub Ri,l,o,m,E⟩
 rintro p q ⟨ac,ad,k,l,G,ae,E⟩;refine AK ?_ k l;clear k l q p;rw[Cj] at E;exact RT
def Qb (C:St S L h) {b:Value}{c:AT}(j:Rd S h A0 b c) {d:Value}{g:AT}(k:Rd S h A0 d g) {r:Bool}(E:Hc N c g=some r):
 CM prog 51 #[b,d] S h (λv S' h'=>v= .bool r∧St S' (L) h'):=by
 refine CM.go 24 func51 O ntmps51 O λB=>?_;rw[Hc] at E;refine AU ?_;refine Cg O j CE O C λU S2 V n F G=>?_;have H:=k.mono F;refine Cg O H CE O n λW X I i p q=>AU ?_;refine CV (.inl O) i ?_;have s:=G.mono p;refine AU ?_;obtain⟨t,a,E⟩:=bd E;refine AY 6 23 (.bool t) ?_ ?_
 ·cases l:((decide (c.At=g.At))&&(decide (c.D=g.D)))
  ·have a:=HV l a;cases a;exact BE O O
  have a:=HU l a;have u:=s.fl AT.f_Part;obtain⟨J,_,w⟩:=u.ll;have x:=q.fl AT.f_Part;obtain⟨K,_,y⟩:=x.ll;refine AU ?_;refine BC a O O O UQ O (λz m h' o=>FY (St.all h') (w.mono' (o.all i.1)) (y.mono' (o.all i.1)) m) λz a=>AU ?_;cases a;exact AZ O
 refine AU ?_;exact BZ (kp [4] O) λM A Q=>RT
def Pw (A:St S L h) {k:Value}{q:AI}(t:Rd S h BO k q) {l:Value}{s:AI}(u:Rd S h BO l s) {r:Bool}(E:LE N q s=some r):
 CM prog 22 #[k,l] S h (λv S' h'=>v= .bool r∧St S' (L) h'):=by
 refine CM.go 52 func22 O ntmps22 O λB=>?_;rw[LE] at E;refine AU ?_;refine Cg O t CE O A λq1 S2 h3 ae e5 k6=>?_;have k7:=u.mono e5;refine Cg O k7 CE O ae λq8 S9 C a af m=>AU ?_;refine CV (.inl O) a ?_;have n:=k6.mono af;refine AU ?_;obtain⟨D,b,E⟩:=bd E;refine AY 6 16 (.bool D) ?_ ?_
 ·cases F:(decide (q.B=s.B))
  ·have b:=HV F b;cases b;exact BE O O
  have b:=HU F b;have ag:=n.fl Mm;obtain⟨bh,_,ah⟩:=ag.ll;have ai:=m.fl Mm;obtain⟨bi,_,aj⟩:=ai.ll;refine AU ?_;have G:Rd S9 C (A7.fnr prog (λS h vs (x:((List Int)×(List Int)))=>∃w z:Value,vs=[w,z]∧Sl S h AB w x.1∧Sl S h AB z x.2) (λS h v (y:Bool)=>v= .bool y)) (.func (.func 49) #[] #[]) (λx=>CQ N x.1 x.2):=MT 49 #[] UQ λS' h' s' e' L A x y vs h1 h2=>by obtain⟨w,z,rfl,a0,a1⟩:=h1;exact(FY A a0 a1 h2).mono λ_ _ _ _ p=>p
  refine BC b O O O yA O (λak H h' o=>KD (St.all h') (ah.mono' (o.all a.1)) (aj.mono' (o.all a.1)) (G.mono (o.all a.1)) H) λak b=>AU ?_;cases b;exact AZ O
 refine AU ?_;obtain⟨I,c,E⟩:=bd E;refine AY 6 23 (.bool I) ?_ ?_
 ·cases J:D
  ·have c:=HV J c;cases c;exact BE O O
  have c:=HU J c;have al:=n.fl LZ;obtain⟨bj,_,am⟩:=al.ll;have an:=m.fl LZ;obtain⟨bk,_,ao⟩:=an.ll;refine AU ?_;refine BC c O O O UQ O (λap K h' o=>FY (St.all h') (am.mono' (o.all a.1)) (ao.mono' (o.all a.1)) K) λap c=>AU ?_;cases c;exact AZ O
 refine AU ?_;obtain⟨M,d,E⟩:=bd E;refine AY 6 30 (.bool M) ?_ ?_
 ·cases Q:I
  ·have d:=HV Q d;cases d;exact BE O O
  have d:=HU Q d;have aq:=n.fl La;obtain⟨bl,_,ar⟩:=aq.ll;have au:=m.fl La;obtain⟨bm,_,av⟩:=au.ll;refine AU ?_;have U:Rd S9 C (A7.fnr prog (λS h vs (x:(AT×AT))=>∃w z:Value,vs=[w,z]∧Rd S h A0 w x.1∧Rd S h A0 z x.2) (λS h v (y:Bool)=>v= .bool y)) (.func (.func 51) #[] #[]) (λx=>Hc N x.1 x.2):=MT 51 #[] xY λS' h' s' e' L A x y vs h1 h2=>by obtain⟨w,z,rfl,a0,a1⟩:=h1;exact(Qb A a0 a1 h2).mono λ_ _ _ _ p=>p
  refine BC d O O O xZ O (λaw V h' o=>Ez (St.all h') (ar.mono' (o.all a.1)) (av.mono' (o.all a.1)) (U.mono (o.all a.1)) V) λaw d=>AU ?_;cases d;exact AZ O
 refine AU ?_;obtain⟨W,g,E⟩:=bd E;refine AY 6 37 (.bool W) ?_ ?_
 ·cases X:M
  ·have g:=HV X g;cases g;exact BE O O
  have g:=HU X g;have ax:=n.fl Lb;obtain⟨bn,_,ay⟩:=ax.ll;have az:=m.fl Lb;obtain⟨bo,_,a2⟩:=az.ll;refine AU ?_;refine BC g O O O xX O (λa3 Y h' o=>I9 (St.all h') (ay.mono' (o.all a.1)) (a2.mono' (o.all a.1)) Y) λa3 g=>AU ?_;cases g;exact AZ O
 refine AU ?_;obtain⟨Z,i,E⟩:=bd E;refine AY 6 44 (.bool Z) ?_ ?_
 ·cases aa:W
  ·have i:=HV aa i;cases i;exact BE O O
  have i:=HU aa i;have a4:=n.fl AI.f_In;obtain⟨bp,_,a5⟩:=a4.ll;have a6:=m.fl AI.f_In;obtain⟨bq,_,a7⟩:=a6.ll;refine AU ?_;refine BC i O O O UQ O (λa8 ab h' o=>FY (St.all h') (a5.mono' (o.all a.1)) (a7.mono' (o.all a.1)) ab) λa8 i=>AU ?_;cases i;exact AZ O
 refine AU ?_;obtain⟨a9,j,E⟩:=bd E;refine AY 6 51 (.bool a9) ?_ ?_
 ·cases ac:Z
  ·have j:=HV ac j;cases j;exact BE O O
  have j:=HU ac j;have ba:=n.fl Mn;obtain⟨br,_,bb⟩:=ba.ll;have bc:=m.fl Mn;obtain⟨bs,_,be⟩:=bc.ll;refine AU ?_;refine BC j O O O UQ O (λbf ad h' o=>FY (St.all h') (bb.mono' (o.all a.1)) (be.mono' (o.all a.1)) ad) λbf j=>AU ?_;cases j;exact AZ O
 refine AU ?_;exact BZ (kp [4] O) λbt bg bu=>RT
def Ma (hs:St S L h) {ap:Value}{D:AF}(c2:Rd S h B5 ap D) {aq:Value}{F:AI}(c3:Rd S h BO aq F) {V:Value}{a8:(List BS)}(W:Sl S h Ca V a8) {c:Value}{b:(List Int)}(H:Sl S h AB c b) (jg:Fb N=some true) (E:GE N D F a8 b=some true):
 CM prog 5 #[ap,aq,V,c] S h (λv S' h'=>v= .bool true∧St S' (L) h'):=by
 refine CM.go (l:=[ap,aq,V,c]) 203 func5 O ntmps5 O λB=>?_;rw[GE] at E;refine WF.sl (Cg O c2 (λe=>by cases e) O hs λq1 S2 h3 jh e5 k6=>?_);have k7:=c3.mono e5;refine Cg O k7 (λe=>by cases e) O jh λq8 S9 m7 gq ad ji=>AJ 1 (Cs O (AE (LF.nil (kp [5,4,2,3] O) (CN (CV (.inl O) gq ?_)))));obtain⟨k,gr,E⟩:=bd E;refine IW O O O Aaj O (λh' o=>PD (St.all h') jg gr) (Cs O (BZ (kp [9,5,4,2,3] O) λm8 a9 ab=>CN (CV (.inl O) a9 ?_)));have gs:=k6.mono (ad.trans ab);refine KZ OM a9.1 O gs NJ.1 (λe=>by cases e) O λm9 jj=>AC O ?_;have gt:=e5.trans (ad.trans ab);have jk:=W.mono' gt;obtain⟨c4,gu,E⟩:=bd E;refine IW O O O Aai O (λh' o=>Pn (St.all h') (jj.mono (o.all a9.1)) (jk.mono' (o.all a9.1)) gu) (Cs O (BZ (kp [10,9,5,4,2,3] O) λna bq ae=>WF.sl (AJ 2 ?_)));have gv:=gs.mono ae;refine KZ Hj bq.1 O gv NJ.1 (λe=>by cases e) O λnb jl=>?_;have gw:=ji.mono (ab.trans ae);refine KZ Hj bq.1 O gw II.1 (λe=>by cases e) O λnc jm=>AE ?_;obtain⟨c5,gx,E⟩:=bd E;refine CW O O O yI O (OZ bq jl jm gx) λA ec ed af p=>?_;have br:=p;refine AJ 1 (Cs O (AE (LF.nil (kp [11,10,9,5,4,2,3] O) (CN (Ce (AC O (Kt O (AC O (AY 3 44 (.bool ((!c4)||((c5).isNone))) ?_ ?_)))))))))
 ·cases nd:(!c4)
  ·exact AN O (AC O (AN O (Wk br mh O O mC dH O (AV O (AZ O)))))
  exact BE O O
 refine AC O (AY 4 49 (.bool (((!c4)||((c5).isNone))||(decide (8<(↑b.length:Int))))) ?_ ?_)
 ·cases ne:((!c4)||((c5).isNone))
  ·refine AN O (AC O (AN O ?_));have gy:=e5.trans (ad.trans (ab.trans (ae.trans af)));have jn:=H.mono' gy;exact Kc O jn CY.1 O λnf=>AN O (KX O (AV O (AZ O)))
  exact BE O O
 refine Ec (kp [49,11,9,5,4,2,3] O) (AH O E (λjo E=>?_) (λjo E=>?_))
 ·refine Ce (AC O (Cb O (kp [8] O) (CO (λu y d g=>?_))));have gz:=br.drop .head
  first|cases E|rw[Abo E] at d
  have g0:=e5.trans (ad.trans (ab.trans (ae.trans af)));exact SH d g O O g0 ⟨O,gz⟩
 refine Dz (CN (Ce (Cb O (kp [12,11,9,5,4,2,3] O) (AQ (λa w=>∃(z:(Option Ey)),IV B ec ed (203,[]) a w [(11,A),(9,.bool k),(5,q8),(4,q1),(3,c)] (Ny 91 93 3 A z::L) λ_ _=>Dr N D F b k z=some true) ?_ ?_))))
 ·refine A8 (λn1=>λa w=>∃(a6:Int) (bs:(Option Ey)),IV B ec ed (203,[]) a w [(11,A),(9,.bool k),(5,q8),(4,q1),(2,V),(3,c),(12,vI a6)] (Ny 91 93 3 A bs::L) λ_ _=>AA a6∧B0 N a8 (Dr N D F b k) n1 a6 bs=some true) N ?_ ?_ ?_
  ·intro u y d g;exact⟨0,c5,_,_,d.sub (kp [11,9,5,4,2,3,12] O),g,br,(C2.refl ec ed),(iq (n:=0) O),E⟩
  ·rintro u y ⟨_,_,_,_,_,_,_,_,_,E⟩;rw[B0] at E;cases E
  rintro n1 u y ⟨a6,bs,g1,g2,d,g,ah,bt,ng,E⟩;refine AK ?_ d g;clear d g y u;rw[B0] at E;refine CN (Ce (AC O (AC O ?_)));have g3:=e5.trans (ad.trans (ab.trans (ae.trans (af.trans bt))));have jp:=W.mono' g3;refine Kc O jp T0.1 O λnh=>JW O (Ec (kp [54,11,9,5,4,2,3,12] O) (AH O E (λjq E=>?_) (λjq E=>?_)))
  ·refine Dz (CN (AQ (λa w=>∃(c6:(Option Ey)),IV B g1 g2 (203,[]) a w [(11,A),(9,.bool k),(5,q8),(4,q1),(2,V),(3,c),(12,vI a6)] (Ny 91 93 3 A c6::L) λ_ _=>Dq N a6 (B0 N a8 (Dr N D F b k) n1) c6=some true) ?_ ?_))
   ·refine Ce (AC O (AC O ?_));have g4:=e5.trans (ad.trans (ab.trans (ae.trans (af.trans bt))));have jr:=W.mono' g4;obtain⟨ni,g5,E⟩:=bd E;refine M9 O O jr T0.1 g5 O λnj js=>Lq O js LY jP.1 O λnk jt=>Eh Hj ah.1 O jt Fi.1 O λnl=>Yz O O O (JW O (Ec (kp [63,11,9,5,4,2,3,12] O) (AH O E (λju E=>?_) (λju E=>?_))))
    ·refine fU 11 mo (by kernel_rfl) O (AC O (AC O (AC O ?_)));have dd:=e5.trans (ad.trans (ab.trans (ae.trans (af.trans bt))));have jv:=W.mono' dd;obtain⟨nm,g6,E⟩:=bd E;refine M9 O O jv T0.1 g6 O λnn jw=>Lq O jw LX jO.1 O λno jx=>Eh Hj ah.1 O jx Fi.1 O λjy=>AC O (AC O ?_);have jz:=W.mono' dd;obtain⟨np,g7,E⟩:=bd E;refine M9 O O jz T0.1 g7 O λnq j0=>Lq O j0 BS.f_In jN.1 O λnr j1=>KZ Hj ah.1 O j1 Pr.1 (λe=>by cases e) O λns j2=>AE ?_;obtain⟨j3,g8,E⟩:=bd E;refine CW O O O TO O (P8 ah jy j2 g8) λnt nu nv j4 p=>?_;obtain⟨rfl,nw,nx,g9⟩:=p;refine LF.nil (kp [11,9,5,4,2,3,12] O) (WF.nil (λu y d g=>?_));exact⟨j3.2.2,_,_,d.sub (kp [11,9,5,4,2,3,12] O),g,g9,j4,E⟩
    refine Dz (WF.nil (λu y d g=>?_));exact⟨bs,_,_,d.sub (kp [11,9,5,4,2,3,12] O),g,ah,(C2.refl g1 g2),E⟩
   rintro u y ⟨c6,ny,j5,d,g,ee,ha,E⟩;refine AK ?_ d g;clear d g y u;rw[Dq] at E;refine Hv (.inl O) (AC O (H6 O (Cb O (kp [12,11,9,5,4,2,3] O) (WF.nil (λu y d g=>?_)))));exact⟨(BQ (a6+1)),c6,_,_,d.sub (kp [11,9,5,4,2,3,12] O),g,ee,(bt.trans ha),(BW _),E⟩
  refine BL O (λu y d g=>?_);exact⟨bs,_,_,d.sub (kp [11,9,5,4,3] O),g,ah,bt,E⟩
 rintro u y ⟨z,j6,j7,d,g,ef,ai,E⟩;refine AK ?_ d g;clear d g y u;rw[Dr] at E;refine WF.sl (AJ 1 (AC O (AE ?_)));obtain⟨j,eg,E⟩:=bd E;refine CW O O O UR O (PU ef eg) λj8 bu j9 aj p=>?_;obtain⟨rfl,ka,eh⟩:=p;refine AJ 1 (Cs O (AE (LF.nil (kp [13,11,9,5,4,3] O) (Ce (Cb O (kp [14,13,11,9,5,4,3] O) (WF.sl (AJ 2 (AC O (H6 O (AE ?_))))))))));obtain⟨ei,E⟩:=Lp E;refine K6 (r:=A7.bool) (zx:=false) wR O O O O ei O O eh λC kb bv ak=>AJ 1 (Cs O (AE (LF.nil (kp [15,14,13,11,9,5,4,3] O) (WF.sl (AJ 2 (AC O ?_))))));obtain⟨kc,ej,E⟩:=bd E;refine BR bv mh O O bN.1 ej O λkd ek=>AE ?_;obtain⟨hb,el,E⟩:=bd E;refine Ee (r:=A7.bool) (l:=(List.replicate ((BQ (j+1)):Int).toNat (false:Bool))) (i:=0) (x:=hb) O O (⟨_,O,O⟩:Rd _ _ A7.bool _ true) ek el L4.id Tg.1 (λ_=>rfl) bv .head λbw em am=>LF.nil (kp [15,14,13,11,9,5,4,3] O) (CN (Ce (Cb O (kp [16,15,14,13,11,9,5,4,3] O) (AQ (λa w=>∃(au:Value) (av:List AI) (aw:List Bool),IV B bu bw (203,[]) a w [(15,C),(13,vI j),(11,A),(9,.bool k),(5,q8),(4,q1),(3,c),(14,au)] (OS BO 36 au av::OS A7.bool 4 C aw::Ny 91 93 3 A z::L) λ_ _=>CU N D F b k z j av aw=some true) ?_ ?_))))
 ·refine A8 (λn4=>λa w=>∃(ba:Value) (J:List AI) (t:Int) (ax:List Bool),IV B bu bw (203,[]) a w [(15,C),(13,vI j),(11,A),(9,.bool k),(5,q8),(4,q1),(3,c),(14,ba),(16,vI t)] (OS BO 36 ba J::OS A7.bool 4 C ax::Ny 91 93 3 A z::L) λ_ _=>AA t∧BV N b z j (CU N D F b k z j) n4 J t ax=some true) N ?_ ?_ ?_
  ·intro u y d g;have en:=em.nil BO 36;exact⟨(vN),([]:List AI),0,(upd (List.replicate ((BQ (j+1)):Int).toNat (false:Bool)) 0 true),_,_,d.sub (kp [15,13,11,9,5,4,3,14,16] O),g,en,(C2.refl bu bw),(iq (n:=0) O),E⟩
  ·rintro u y ⟨_,_,_,_,_,_,_,_,_,_,_,E⟩;rw[BV] at E;cases E
  rintro n4 u y ⟨ba,J,t,ax,hc,hd,d,g,bx,bb,de,E⟩;refine AK ?_ d g;clear d g y u;rw[BV] at E;refine CN (Ce (AC O (AC O (Yr O (Ec (kp [85,15,13,11,9,5,4,3,14,16] O) (AH O E (λhe E=>?_) (λhe E=>?_)))))))
  ·refine Dz (CN (AQ (λa w=>∃(bc:Value) (be:List AI) (bf:List Bool),IV B hc hd (203,[]) a w [(15,C),(13,vI j),(11,A),(9,.bool k),(5,q8),(4,q1),(3,c),(16,vI t),(14,bc)] (OS BO 36 bc be::OS A7.bool 4 C bf::Ny 91 93 3 A z::L) λ_ _=>DM N t (BV N b z j (CU N D F b k z j) n4) be bf=some true) ?_ ?_))
   ·refine WF.sl (AJ 2 (AC O (AC O (AE ?_))));have eo:=bx.pick (.tail (.tail .head));obtain⟨m,ep,E⟩:=bd E;refine CW O O O Wc O (Vn eo de ep) λke df kf bz p=>?_;obtain⟨kg,rfl,hg,kh,eq⟩:=p;refine AJ 3 (AC O (Da O (Da O (AE (D0 Ng O eq λki kj er bg=>?_)))));have hh:=hg.mono bg;obtain⟨b0,b1,b2,b3,b4,b5,rfl,hi,dg,dh,di,dj,dk,dl⟩:=BO.ex hh;refine LH (vs:=[vI m.1.B,b0,b1,b2,b3,b4,b5]) (cs':=[vI m.1.B,b0,b1,b2,b3,b4,b5]) O O O (AW O (AW dg.one (AW dh.one (AW di.one (AW dj.one (AW dk.one (AW dl.one Ix))))))) II.1 O er .head O O λkk b6 X=>AJ 1 (Cs O (AE (LF.nil (kp [18,17,15,13,11,9,5,4,3,14,16] O) (CN (Ce (AC O (Ku O (Ec (kp [95,17,15,13,11,9,5,4,3,14,16] O) (IU O (λb7=>?_) (λb7=>?_))))))))))
    ·cases HU b7 E
    have E:=HV b7 E;refine Dz (WF.sl (AJ 2 (AC O (E4 (vs:=[vI m.1.B,b0,b1,b2,b3,b4,b5]) Hj b6 O mh O O II.1 O O (AE ?_)))));have dm:=dg.mono' X;obtain⟨es,c7,rfl,kl⟩:=(dm).len;have dn:=dh.mono' X;obtain⟨eu,c8,rfl,km⟩:=(dn).len;have dp:=di.mono' X;obtain⟨ev,c9,rfl,kn⟩:=(dp).len;have dq:=dj.mono' X;obtain⟨ew,da,rfl,ko⟩:=(dq).len;have dr:=dk.mono' X;obtain⟨ey,db,rfl,kr⟩:=(dr).len;have ds:=dl.mono' X;obtain⟨ez,dc,rfl,ks⟩:=(ds).len;refine JJ (cs:=[vI m.1.B,(.slice es m.1.G.length c7),(.slice eu m.1.N.length c8),(.slice ev m.1.I.length c9),(.slice ew m.1.P.length da),(.slice ey m.1.L.length db),(.slice ez m.1.O.length dc)]) nA O O O O O O O b6 λkt ku e0 Y=>?_;obtain⟨e1,E⟩:=Lp E;have hj:=dm.mono' Y;have hk:=dn.mono' Y;have hl:=dp.mono' Y;have hm:=dq.mono' Y;have hn:=dr.mono' Y;have ho:=ds.mono' Y;refine VT (r:=BO) (l:=J) (xs:=([m.1]:List AI)) O O nA O mh ⟨_,_,O,⟨_,_,_,_,_,_,O,hi,hj,hk,hl,hm,hn,ho⟩,O⟩ O O e1 O e0 (λ_=>(.tail (.tail (.tail .head)))) λag dt e2 b8=>?_;have e3:=e2.drop .head;refine AJ 1 (Cs O (AE (LF.nil (kp [14,15,13,11,9,5,4,3,16] O) (Ce (Cb O (kp [19,14,15,13,11,9,5,4,3,16] O) (A5 (A8 (λn6=>λa w=>∃(Z:Int) (an:List Bool),IV B df dt (203,[]) a w [(14,ag),(15,C),(13,vI j),(11,A),(9,.bool k),(5,q8),(4,q1),(3,c),(16,vI t),(19,vI Z)] (Ny 91 93 3 A z::OS BO 36 ag (J++([m.1]:List AI))::OS A7.bool 4 C an::L) λ_ _=>AA Z∧Bz N b z J t m (DM N t (BV N b z j (CU N D F b k z j) n4)) n6 Z an=some true) N ?_ ?_ ?_)))))))
    ·intro u y d g;have e4:=e3.sel [1,1,1] 1 O;exact⟨0,ax,_,_,d.sub (kp [14,15,13,11,9,5,4,3,16,19] O),g,e4,(C2.refl df dt),(iq (n:=0) O),E⟩
    ·rintro u y ⟨_,_,_,_,_,_,_,_,_,E⟩;rw[Bz] at E;cases E
    rintro n6 u y ⟨Z,an,du,dv,d,g,ar,bh,kv,E⟩;refine AK ?_ d g;clear d g y u;rw[Bz] at E;refine CN (Ce (AC O (AC O ?_)));have e6:=e5.trans (ad.trans (ab.trans (ae.trans (af.trans (ai.trans (aj.trans (ak.trans (am.trans (bb.trans (bz.trans (bg.trans (X.trans (Y.trans (b8.trans bh))))))))))))));have hp:=H.mono' e6;refine Kc O hp CY.1 O λkw=>JW O (Ec (kp [103,14,15,13,11,9,5,4,3,16,19] O) (AH O E (λhq E=>?_) (λhq E=>?_)))
    ·refine Dz (CN (AQ (λa w=>∃(bi:List Bool),IV B du dv (203,[]) a w [(14,ag),(15,C),(13,vI j),(11,A),(9,.bool k),(5,q8),(4,q1),(3,c),(16,vI t),(19,vI Z)] (Ny 91 93 3 A z::OS BO 36 ag (J++([m.1]:List AI))::OS A7.bool 4 C bi::L) λ_ _=>DL N Z (Bz N b z J t m (DM N t (BV N b z j (CU N D F b k z j) n4)) n6) bi=some true) ?_ ?_))
     ·refine Ce (AC O (AC O ?_));have e7:=e5.trans (ad.trans (ab.trans (ae.trans (af.trans (ai.trans (aj.trans (ak.trans (am.trans (bb.trans (bz.trans (bg.trans (X.trans (Y.trans (b8.trans bh))))))))))))));have hr:=H.mono' e7;obtain⟨kx,e8,E⟩:=bd E;refine M9 O O hr CY.1 e8 O λky ht=>Eh Hj ar.1 O ht Fi.1 O λkz=>AC O (Ct O (Ec (kp [111,14,15,13,11,9,5,4,3,16,19] O) (AH O E (λhu E=>?_) (λhu E=>?_))))
      ·refine WF.sl (AJ 2 (AC O (AC O (AE ?_))));obtain⟨dw,e9,E⟩:=bd E;refine CW O O O YU O (SG ar de e9) λdx dy dz hv p=>?_;have fb:=p;refine AJ 1 (Cs O (AE (LF.nil (kp [20,14,15,13,11,9,5,4,3,16,19] O) (Ce (Cb O (kp [21,20,14,15,13,11,9,5,4,3,16,19] O) (A5 (A8 (λn8=>λa w=>∃(ay:Int) (ao:List Bool),IV B dy dz (203,[]) a w [(20,dx),(14,ag),(15,C),(13,vI j),(11,A),(9,.bool k),(5,q8),(4,q1),(3,c),(16,vI t),(19,vI Z),(21,vI ay)] (OS AB 3 dx dw::Ny 91 93 3 A z::OS BO 36 ag (J++([m.1]:List AI))::OS A7.bool 4 C ao::L) λ_ _=>AA ay∧C0 N dw (DL N Z (Bz N b z J t m (DM N t (BV N b z j (CU N D F b k z j) n4)) n6)) n8 ay ao=some true) N ?_ ?_ ?_)))))))
       ·intro u y d g;exact⟨0,an,_,_,d.sub (kp [20,14,15,13,11,9,5,4,3,16,19,21] O),g,fb,(C2.refl dy dz),(iq (n:=0) O),E⟩
       ·rintro u y ⟨_,_,_,_,_,_,_,_,_,E⟩;rw[C0] at E;cases E
       rintro n8 u y ⟨ay,ao,k0,k1,d,g,ac,d0,k2,E⟩;refine AK ?_ d g;clear d g y u;rw[C0] at E;refine CN (Ce (AC O (AC O (Q5 ac mh O CY.1 O λk3=>JW O (Ec (kp [118,20,14,15,13,11,9,5,4,3,16,19,21] O) (AH O E (λhx E=>?_) (λhx E=>?_)))))))
       ·refine Dz (CN (A5 (De (AJ 6 (AC O (AC O (AC O ?_)))))));obtain⟨k4,fc,E⟩:=bd E;refine BR ac mh O O CY.1 fc O λk5 fd=>?_;obtain⟨d1,fe,E⟩:=bd E;have hy:=ac.epAt mh fe Fg.id fd;refine Eh Hj (λ_ x=>x) O hy Fi.1 O λk8=>?_;obtain⟨k9,ff,E⟩:=bd E;refine BR ac (mt (mt (mt mh))) O O bN.1 ff O λla fg=>AE ?_;obtain⟨hz,fh,E⟩:=bd E;refine Ee (r:=A7.bool) (l:=ao) (i:=d1) (x:=hz) O O (⟨_,O,O⟩:Rd _ _ A7.bool _ true) fg fh L4.id Tg.1 (λ_=>rfl) ac (.tail (.tail (.tail .head))) λlb fi h0=>LF.nil (kp [20,14,15,13,11,9,5,4,3,16,19,21] O) (BJ (Hv (.inl O) (AC O (H6 O (Cb O (kp [21,20,14,15,13,11,9,5,4,3,16,19] O) (WF.nil (λu y d g=>?_)))))));exact⟨(BQ (ay+1)),(upd ao d1 true),_,_,d.sub (kp [20,14,15,13,11,9,5,4,3,16,19,21] O),g,fi,(d0.trans h0),(BW _),E⟩
       refine IQ O (WF.nil (λu y d g=>?_));have fj:=ac.sel [1,1,1] 1 O;exact⟨ao,_,_,d.sub (kp [14,15,13,11,9,5,4,3,16,19] O),g,fj,(hv.trans d0),E⟩
      refine Dz (WF.nil (λu y d g=>?_));exact⟨an,_,_,d.sub (kp [14,15,13,11,9,5,4,3,16,19] O),g,ar,(C2.refl du dv),E⟩
     rintro u y ⟨bi,lc,le,d,g,fk,h1,E⟩;refine AK ?_ d g;clear d g y u;rw[DL] at E;refine Hv (.inl O) (AC O (H6 O (Cb O (kp [19,14,15,13,11,9,5,4,3,16] O) (WF.nil (λu y d g=>?_)))));exact⟨(BQ (Z+1)),bi,_,_,d.sub (kp [14,15,13,11,9,5,4,3,16,19] O),g,fk,(bh.trans h1),(BW _),E⟩
    refine IQ O (WF.nil (λu y d g=>?_));have fl:=ar.sel [1,1,0] 0 O;have fm:=bz.trans (bg.trans (X.trans (Y.trans (b8.trans bh))));exact⟨ag,(J++([m.1]:List AI)),an,_,_,d.sub (kp [15,13,11,9,5,4,3,16,14] O),g,fl,fm,E⟩
   rintro u y ⟨bc,be,bf,lf,lg,d,g,fn,h2,E⟩;refine AK ?_ d g;clear d g y u;rw[DM] at E;refine Hv (.inl O) (AC O (H6 O (Cb O (kp [16,15,13,11,9,5,4,3,14] O) (WF.nil (λu y d g=>?_)))));exact⟨bc,be,(BQ (t+1)),bf,_,_,d.sub (kp [15,13,11,9,5,4,3,14,16] O),g,fn,(bb.trans h2),(BW _),E⟩
  refine BL O (λu y d g=>?_);exact⟨ba,J,ax,_,_,d.sub (kp [15,13,11,9,5,4,3,14] O),g,bx,bb,E⟩
 rintro u y ⟨au,av,aw,lh,li,d,g,fo,bj,E⟩;refine AK ?_ d g;clear d g y u;rw[CU] at E;refine WF.sl (AJ 2 (AC O (AC O (AE ?_))));have fp:=fo.pick (.tail (.tail .head));have fq:=e5.trans (ad.trans (ab.trans (ae.trans (af.trans (ai.trans (aj.trans (ak.trans (am.trans bj))))))));have h4:=H.mono' fq;obtain⟨az,fr,E⟩:=bd E;refine CW O O O nR O (Vm fp h4 fr) λlj b9 ca cb p=>?_;obtain⟨rfl,fs⟩:=p;refine LF.nil (kp [15,13,11,9,5,4,14] O) (CN (Ce (Cb O (kp [22,15,13,11,9,5,4,14] O) (AQ (λa w=>IV B b9 ca (203,[]) a w [(11,A),(9,.bool k),(5,q8),(4,q1)] (Ny 91 93 3 A az::L) λ_ _=>DK N D F k az=some true) ?_ ?_))))
 ·refine A8 (λh5=>λa w=>∃(a0:Int),IV B b9 ca (203,[]) a w [(15,C),(13,vI j),(11,A),(9,.bool k),(5,q8),(4,q1),(14,au),(22,vI a0)] (Ny 91 93 3 A az::OS BO 36 au av::OS A7.bool 4 C aw::L) λ_ _=>AA a0∧Cm N j av aw az (DK N D F k az) h5 a0=some true) N ?_ ?_ ?_
  ·intro u y d g;exact⟨0,_,_,d.sub (kp [15,13,11,9,5,4,14,22] O),g,fs,(C2.refl b9 ca),(iq (n:=0) O),E⟩
  ·rintro u y ⟨_,_,_,_,_,_,_,_,E⟩;rw[Cm] at E;cases E
  rintro h5 u y ⟨a0,ll,lm,d,g,cc,d2,h6,E⟩;refine AK ?_ d g;clear d g y u;rw[Cm] at E;refine CN (Ce (AC O (AC O (Yr O (Ec (kp [132,15,13,11,9,5,4,14,22] O) (AH O E (λh7 E=>?_) (λh7 E=>?_)))))))
  ·refine Dz (CN (A5 (WF.sl (AJ 2 (AC O (AC O (AE ?_)))))));obtain⟨a1,ft,E⟩:=bd E;refine CW O O O Wc O (Vn cc h6 ft) λlo lp lq h8 p=>?_;obtain⟨lr,rfl,h9,ls,fu⟩:=p;refine AJ 3 (AC O (Da O (Da O (AE (D0 Ng O fu λlt lu fv d3=>?_)))));have d4:=h9.mono d3;obtain⟨cd,ce,cf,cg,ch,ci,rfl,lv,ia,ib,ic,ie,ig,ih⟩:=BO.ex d4;refine LH (vs:=[vI a1.1.B,cd,ce,cf,cg,ch,ci]) (cs':=[vI a1.1.B,cd,ce,cf,cg,ch,ci]) O O O (AW O (AW ia.one (AW ib.one (AW ic.one (AW ie.one (AW ig.one (AW ih.one Ix))))))) II.1 O fv .head O O λlw K d5=>AJ 1 (Cs O (AE (LF.nil (kp [24,23,15,13,11,9,5,4,14,22] O) (CN (CV (.inr ⟨mo,by kernel_rfl⟩) K (AC O (Ct O (AC O (AC O ?_)))))))));obtain⟨lx,fw,E⟩:=bd E;refine BR K (mt (mt (mt mh))) O O bN.1 fw O λly fx=>?_;obtain⟨ii,fy,E⟩:=bd E;have ij:=K.epAt (mt (mt (mt mh))) fy Fg.id fx;refine gK OM (λ_ x=>x) O ij Tg.1 O (tV O O zR O (AC O ?_));obtain⟨ik,M,E⟩:=bd E;refine AY 12 160 (.bool ik) ?_ ?_
   ·cases d6:(!((decide (a1.2=0))==ii))
    ·have M:=HV d6 M;refine AN O (AC O (AN O (Ct O (AN O (AC O ?_)))));obtain⟨il,s,M⟩:=bd M;refine AY 8 159 (.bool il) ?_ ?_
     ·cases d7:(decide (a1.2=0))
      ·have s:=HV d7 s;cases s;exact BE O O
      have s:=HU d7 s;refine AN O (E4 (vs:=[vI a1.1.B,cd,ce,cf,cg,ch,ci]) OM K O mh O O II.1 O O (AN O (AC O (AN O (AC O (AN O ?_))))));obtain⟨lz,fz,s⟩:=bd s;refine BR K (mt (mt mh)) O O vF.1 fz O λl0 f0=>AN O ?_;obtain⟨l1,f1,s⟩:=bd s;have im:=K.epAt (mt (mt mh)) f1 Fg.id f0;refine KZ OM (λ_ x=>x) O im II.1 (λe=>by cases e) O λl2 io=>AN O ?_;have bn:=d4.mono d5;obtain⟨l3,f2,s⟩:=bd s;refine IW O O O nS O (λh' o=>Pw (St.all h') (bn.mono (o.all K.1)) (io.mono (o.all K.1)) f2) (AN O (Kt O (AN O (AV O ?_))));cases s;exact AZ O
     refine AV O ?_;cases M;exact AZ O
    have M:=HU d6 M;cases M;exact BE O O
   refine BZ (kp [160,15,13,11,9,5,4,14,22] O) λl4 f3 ip=>IU O (λcj=>?_) (λcj=>?_)
   ·cases HU cj E
   have E:=HV cj E;refine Dz (BJ (Hv (.inl O) (AC O (H6 O (Cb O (kp [22,15,13,11,9,5,4,14] O) (WF.nil (λu y d g=>?_)))))));have f4:=f3.sel [1,1,1] 1 O;have f5:=d2.trans (h8.trans (d3.trans (d5.trans ip)));exact⟨(BQ (a0+1)),_,_,d.sub (kp [15,13,11,9,5,4,14,22] O),g,f4,f5,(BW _),E⟩
  refine BL O (λu y d g=>?_);have f6:=cc.sel [0] 2 O;exact⟨_,_,d.sub (kp [11,9,5,4] O),g,f6,d2,E⟩
 rintro u y ⟨l5,l6,d,g,f7,ck,E⟩;refine AK ?_ d g;clear d g y u;rw[DK] at E;refine WF.sl (AJ 2 (AC O (Gz (cs:=[vN,vN,vN,vN,vN]) Rg O O O (AE ?_))));obtain⟨a2,f8,E⟩:=bd E;refine CW O O O TO O (P8 f7 (iq (n:=0) O) (Cf.mk (x:=(⟨[],[],[],[],[]⟩:B3)) (.inl ⟨O,O⟩) (.inl ⟨O,O⟩) (.inl ⟨O,O⟩) (.inl ⟨O,O⟩) (.inl ⟨O,O⟩)) f8) λl7 l8 l9 cl p=>?_;obtain⟨rfl,ir,ma,f9⟩:=p;refine AJ 5 (AC O (Da O (Da O (Cs O (Cs O (AE (LF.nil (kp [26,25,11,9,5,4] O) (WF.sl (AJ 2 (AC O (AC O (AE ?_))))))))))));obtain⟨a3,ga,E⟩:=bd E;refine CW O O O Wc O (Vn f9 ir ga) λmb mc md cm p=>?_;obtain⟨me,rfl,it,mf,gb⟩:=p;refine AJ 3 (AC O (Da O (Da O (AE (D0 Ng O gb λmg mi gc bk=>?_)))));have d8:=it.mono bk;obtain⟨cn,co,cp,cq,cr,ct,rfl,mj,iu,iv,iw,iy,iz,i0⟩:=BO.ex d8;refine LH (vs:=[vI a3.1.B,cn,co,cp,cq,cr,ct]) (cs':=[vI a3.1.B,cn,co,cp,cq,cr,ct]) O O O (AW O (AW iu.one (AW iv.one (AW iw.one (AW iy.one (AW iz.one (AW i0.one Ix))))))) II.1 O gc .head O O λml a7 bl=>AJ 1 (Cs O (AE (LF.nil (kp [28,27,26,9,5,4] O) (WF.sl (AJ 3 ?_)))));have cu:=af.trans (ai.trans (aj.trans (ak.trans (am.trans (bj.trans (cb.trans (ck.trans (cl.trans (cm.trans (bk.trans bl))))))))));have i1:=gv.mono cu;refine KZ Hj a7.1 O i1 NJ.1 (λe=>by cases e) O λmm i2=>?_;have d9:=gw.mono cu;refine KZ Hj a7.1 O d9 II.1 (λe=>by cases e) O λmn i3=>Gz (cs:=[vN,vN,vN,vN,vN]) Rg O O O (AE ?_);obtain⟨cv,gd,E⟩:=bd E;refine CW O O O nQ O (Pv a7 i2 i3 (Cf.mk (x:=(⟨[],[],[],[],[]⟩:B3)) (.inl ⟨O,O⟩) (.inl ⟨O,O⟩) (.inl ⟨O,O⟩) (.inl ⟨O,O⟩) (.inl ⟨O,O⟩)) gd) λmp mq mr bm p=>?_;obtain⟨ms,mu,mv,rfl,i4,ge⟩:=p;refine AJ 4 (AC O (Da O (Da O (Da O (AE (D0 Ng O ge λmw mx gf a4=>?_))))));have ea:=i4.mono a4;obtain⟨cw,cx,cy,cz,c0,c1,rfl,my,i5,i6,i7,i8,i9,ja⟩:=BO.ex ea;refine LH (vs:=[vI cv.1.B,cw,cx,cy,cz,c0,c1]) (cs':=[vI cv.1.B,cw,cx,cy,cz,c0,c1]) O O O (AW O (AW i5.one (AW i6.one (AW i7.one (AW i8.one (AW i9.one (AW ja.one Ix))))))) II.1 O gf .head O O λmz U a5=>AJ 2 (Cs O (Cs O (AE (LF.nil (kp [29,28,27,26,9,5] O) (CN (Ce ?_))))));have gg:=bm.trans (a4.trans a5);have jb:=d9.mono gg;refine Lq O jb AI.f_Hour YN.1 O λm0 jc=>Eh Hj U.1 O jc Fi.1 O λm1=>Ct O (Ec (kp [183,29,28,27,26,9] O) (AH O E (λjd E=>?_) (λjd E=>?_)))
 ·refine Ce (AC O (AC O (AY 3 188 (.bool (k&&(decide (a2.2.1=15)))) ?_ ?_)))
  ·cases m2:k
   ·exact BE O O
   exact AN O (AC O (AN O (Ct O (AV O (AZ O)))))
  refine Cb O (kp [8] O) (CO (λu y d g=>?_));have gh:=U.sel [] 5 O
  first|cases E|rw[Abo E] at d
  have gi:=e5.trans (ad.trans (ab.trans (ae.trans (af.trans (ai.trans (aj.trans (ak.trans (am.trans (bj.trans (cb.trans (ck.trans (cl.trans (cm.trans (bk.trans (bl.trans (bm.trans (a4.trans a5)))))))))))))))));exact SH d g O O gi ⟨O,gh⟩
 refine Dz (CN (CV (.inl O) U (AC O (AC O (AY 3 193 (.bool (k&&(decide (a2.2.1=0)))) ?_ ?_)))))
 ·cases m3:k
  ·exact BE O O
  exact AN O (AC O (AN O (Ct O (AV O (AZ O)))))
 refine AC O (AY 3 197 (.bool ((k&&(decide (a2.2.1=0)))&&(decide (a3.2=0)))) ?_ ?_)
 ·cases m4:(k&&(decide (a2.2.1=0)))
  ·exact BE O O
  exact AN O (AC O (AN O (Ct O (AV O (AZ O)))))
 refine AC O ?_;obtain⟨je,Q,E⟩:=bd E;refine AY 4 202 (.bool je) ?_ ?_
 ·cases eb:((k&&(decide (a2.2.1=0)))&&(decide (a3.2=0)))
  ·have Q:=HV eb Q;cases Q;exact BE O O
  have Q:=HU eb Q;refine AN O (E4 (vs:=[vI a3.1.B,cn,co,cp,cq,cr,ct]) OM U O (mt (mt (mt mh))) O O II.1 O O (AN O (E4 (vs:=[vI cv.1.B,cw,cx,cy,cz,c0,c1]) OM U O mh O O II.1 O O (AN O ?_))));have gj:=bl.trans (bm.trans (a4.trans a5));have bo:=d8.mono gj;have bp:=ea.mono a5;obtain⟨m5,gl,Q⟩:=bd Q;refine IW O O O nS O (λh' o=>Pw (St.all h') (bo.mono (o.all U.1)) (bp.mono (o.all U.1)) gl) (AV O ?_);cases Q;exact AZ O
 refine Cs O (BZ (kp [8] O) λm6 gm jf=>CO (λu y d g=>?_));have gn:=gm.sel [] 5 O
 first|cases E|rw[Abo E] at d
 have gp:=e5.trans (ad.trans (ab.trans (ae.trans (af.trans (ai.trans (aj.trans (ak.trans (am.trans (bj.trans (cb.trans (ck.trans (cl.trans (cm.trans (bk.trans (bl.trans (bm.trans (a4.trans (a5.trans jf))))))))))))))))));exact SH d g O O gp ⟨O,gn⟩
end Go.Proofs.YtabonambpbofgaaGreat
