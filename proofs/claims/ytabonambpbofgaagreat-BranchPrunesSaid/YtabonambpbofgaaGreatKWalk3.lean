import Derived.Test.YtabonambpbofgaaGreatKInst
import Derived.Test.YtabonambpbofgaaGreatKForms
import Derived.Test.YtabonambpbofgaaGreatKSort5
import Derived.Test.YtabonambpbofgaaGreatKSortD
import Derived.Test.YtabonambpbofgaaGreatKWalk1
namespace Go.Proofs.YtabonambpbofgaaGreat
set_option linter.all false
open Go.RowKit
open Go.Proofs.Tryz
set_option maxRecDepth 10000
set_option maxHeartbeats 20000000
variable {N:Nat}{S:Nat→Prop}{L:List HP}{h:AS}
def K4 (n:St S L h) {a:Int}(d:AA a) {b:Int}(g:AA b) {r:Bool}(E:Ht N a b=some r):
 CM prog 148 #[vI a,vI b] S h (λv S' h'=>v= .bool r∧St S' (L) h'):=by
 refine CM.go 19 func148 O ntmps148 O λB=>?_;rw[Ht] at E;refine AU ?_;refine CV (.inl O) n (AU ?_);refine BC E O O O J7 O (λk i h' o=>C1 (St.all h') d i) λk E=>AU ?_;obtain⟨p,c,E⟩:=bd E;refine AY 3 10 (.bool p) ?_ ?_
 ·cases l:k
  ·have c:=HV l c;cases c;exact BE O O
  have c:=HU l c;refine AU ?_;refine BC c O O O J7 O (λq j h' o=>C1 (St.all h') g j) λq c=>AU ?_;cases c;exact AZ O
 refine AU ?_;exact BZ (kp [4] O) λt m s=>RT
def IF (i:St S L h) {b:Int}(c:AA b) {a:Int}(d:AA a) {r:Bool}(E:GG N b a=some r):
 CM prog 150 #[vI b,vI a] S h (λv S' h'=>v= .bool r∧St S' (L) h'):=by
 refine CM.go 9 func150 O ntmps150 O λB=>?_;rw[GG] at E;refine AU ?_;refine CV (.inl O) i (AU ?_);refine BC E O O O Hu O (λj g h' o=>Co (St.all h') c (iq (n:=0) O) (BW _) g) λj E=>AU ?_;exact BZ (kp [4] O) λl k m=>RT
def Nu (w:St S L h) {d:Value}{j:AF}(i:Rd S h B5 d j) {a:Int}(k:AA a) {b:Int}(g:AA b) {r:Bool}(E:Jq N j a b=some r):
 CM prog 149 #[d,vI a,vI b] S h (λv S' h'=>v= .bool r∧St S' (L) h'):=by
 refine CM.go 21 func149 O ntmps149 O λB=>?_;rw[Jq] at E;refine AU ?_;refine Cg O i CE O w λD S2 F m G x=>AU ?_;refine CV (.inl O) m (AU ?_);obtain⟨y,c,E⟩:=bd E;refine AY 11 20 (.bool y) ?_ ?_
 ·cases t:(decide (b=(-1)))
  ·have c:=HV t c;have n:=x.fl Cv;obtain⟨z,_,p⟩:=n.ll;have q:=p.le;refine AU ?_;refine BC c O O O QL O (λs l h' o=>IF (St.all h') g (Lj q) l) λs c=>AU ?_;cases c;exact AZ O
  have c:=HU t c;cases c;exact BE O O
 refine AU ?_;exact BZ (kp [6] O) λA u C=>RT
def Od (hs:St S L h) {K:Value}{b:AF}(ab:Rd S h B5 K b) {r:Bool}(E:HZ N b=some r):
 CM prog 76 #[K] S h (λv S' h'=>v= .bool r∧St S' (L) h'):=by
 refine CM.go 122 func76 O ntmps76 O λB=>?_;rw[HZ] at E;refine AU ?_;refine Cg O ab CE O hs λq1 S2 h3 ck e5 k6=>?_;have k8:=k6.fl Cv;obtain⟨v9,_,cl⟩:=k8.ll;refine AU ?_;refine AQ (λa w=>∃(ac:Int),IV B S2 h3 (122,[]) a w [(3,vI ac)] (L) λ_ _=>AA ac∧CT N ac=some r) ?_ ?_
 ·refine A8 (λn1=>λa w=>∃(M:Int) (k:Int),IV B S2 h3 (122,[]) a w [(13,vI (↑b.A.length:Int)),(12,v9),(1,q1),(3,vI M),(14,vI k)] (L) λ_ _=>AA M∧AA k∧B7 N b (CT N) n1 M k=some r) N ?_ ?_ ?_
  ·intro x y d g;exact⟨0,0,_,_,d.sub (kp [13,12,1,3,14] O),g,ck,(C2.refl S2 h3),(iq (n:=0) O),(iq (n:=0) O),E⟩
  ·rintro x y ⟨_,_,_,_,_,_,_,_,_,_,E⟩;rw[B7] at E;cases E
  rintro n1 x y ⟨M,k,ad,cm,d,g,af,a1,a2,cn,E⟩;refine AK ?_ d g;clear d g y x;rw[B7] at E;refine AU ?_;refine AH O E (λco E=>?_) (λco E=>?_)
  ·refine AU ?_;refine AQ (λa w=>∃(Q:Int),IV B ad cm (122,[]) a w [(13,vI (↑b.A.length:Int)),(12,v9),(1,q1),(14,vI k),(3,vI Q)] (L) λ_ _=>AA Q∧DC N k (B7 N b (CT N) n1) Q=some r) ?_ ?_
   ·refine AU ?_;have cp:=cl.mono' a1;refine BI E O O cp NM.1 O λc E d8 cq=>?_;obtain⟨d9,_,cr⟩:=cq.lv;refine AU ?_;refine D0 P5 O af λae ea a3 cs=>AU ?_;have ct:=cr.mono cs;obtain⟨a4,ak,am,rfl,eb,cu,cv,cw,cx,a5,cy,cz,c0,c1,c2,c3⟩:=B4.ex ct;refine JI O O O ON P7.1 O a3 .head O λec U a6=>AU ?_;refine CV (.inl O) U (AU ?_);refine BC E O O O Hu O (λa7 a8 h' o=>Co (St.all h') cu (iq (n:=0) O) (iq (n:=3) O) a8) λa7 E=>AU ?_;obtain⟨a9,l,E⟩:=bd E;refine AY 5 28 (.bool a9) ?_ ?_
    ·cases ba:(!a7)
     ·have l:=HV ba l;refine AU ?_;refine BC l O O O Hu O (λc4 bb h' o=>Co (St.all h') cv (iq (n:=0) O) (iq (n:=2) O) bb) λc4 l=>AU ?_;cases l;exact AZ O
     have l:=HU ba l;cases l;exact BE O O
    refine AU ?_;obtain⟨bc,m,E⟩:=bd E;refine AY 5 34 (.bool bc) ?_ ?_
    ·cases be:a9
     ·have m:=HV be m;refine AU ?_;refine BC m O O O Hu O (λc5 bf h' o=>Co (St.all h') c1 (iq (n:=0) O) (iq (n:=240) O) bf) λc5 m=>AU ?_;cases m;exact AZ O
     have m:=HU be m;cases m;exact BE O O
    refine AU ?_;obtain⟨bg,p,E⟩:=bd E;refine AY 5 40 (.bool bg) ?_ ?_
    ·cases bh:bc
     ·have p:=HV bh p;refine AU ?_;refine BC p O O O J7 O (λc6 bi h' o=>C1 (St.all h') cw bi) λc6 p=>AU ?_;cases p;exact AZ O
     have p:=HU bh p;cases p;exact BE O O
    refine AU ?_;obtain⟨bj,q,E⟩:=bd E;refine AY 5 46 (.bool bj) ?_ ?_
    ·cases bk:bg
     ·have q:=HV bk q;refine AU ?_;refine BC q O O O J7 O (λc7 bl h' o=>C1 (St.all h') c2 bl) λc7 q=>AU ?_;cases q;exact AZ O
     have q:=HU bk q;cases q;exact BE O O
    refine AU ?_;obtain⟨bm,s,E⟩:=bd E;refine AY 5 52 (.bool bm) ?_ ?_
    ·cases bn:bj
     ·have s:=HV bn s;refine AU ?_;have c8:=cx.mono' a6;refine BC s O O O QM O (λc9 bo h' o=>IE (St.all h') (c8.mono' (o.all U.1)) bo) λc9 s=>AU ?_;cases s;exact AZ O
     have s:=HU bn s;cases s;exact BE O O
    have ed:=a5.mono' a6;have ee:=k6.nw;refine AU ?_;obtain⟨bp,t,E⟩:=bd E;refine AY 7 69 (.bool bp) ?_ ?_
    ·cases bq:(bm||(decide ((↑c.An.length:Int)≠(↑b.H.length:Int))))
     ·have t:=HV bq t;refine AU ?_;refine BC t O O O XN O (λda br h' o=>K4 (St.all h') cy cz br) λda t=>AU ?_;cases t;exact AZ O
     have t:=HU bq t;cases t;exact BE O O
    refine AU ?_;obtain⟨db,u,E⟩:=bd E;refine AY 7 77 (.bool db) ?_ ?_
    ·cases bs:bp
     ·have u:=HV bs u;have dc:=k6.nw;obtain⟨df,_,bt⟩:=dc.lv;refine AU ?_;refine BC u O O O fK O (λbu an h' o=>Nu (St.all h') (bt.mono (o.all U.1)) cn c0 an) λbu u=>AU ?_;cases u;exact AZ O
     have u:=HU bs u;cases u;exact BE O O
    refine BZ (kp [77,5,13,12,1,3,14] O) λV ao dg=>AH O E (λbv E=>?_) (λbv E=>?_)
    ·exact RT
    have bw:=a5.nw;refine AU ?_;refine AQ (λa w=>∃(z:Int),IV B ad V (122,[]) a w [(5,vP ae 0),(13,vI (↑b.A.length:Int)),(12,v9),(1,q1),(14,vI k),(3,vI z)] (Bx ae 133 [.string c.E,vI c.F,vI c.Au,vI c.Av,a4,ak,vI c.Y,vI c.S,vI c.Ao,vI c.R,vI c.Bg,am]::L) λ_ _=>AA z∧FG N b c (DC N k (B7 N b (CT N) n1)) z=some r) ?_ ?_
    ·refine A8 (λn4=>λa w=>∃(C:Int) (D:Int),IV B ad V (122,[]) a w [(80,vI (↑c.An.length:Int)),(79,ak),(5,vP ae 0),(13,vI (↑b.A.length:Int)),(12,v9),(1,q1),(14,vI k),(3,vI C),(81,vI D)] (Bx ae 133 [.string c.E,vI c.F,vI c.Au,vI c.Av,a4,ak,vI c.Y,vI c.S,vI c.Ao,vI c.R,vI c.Bg,am]::L) λ_ _=>AA C∧AA D∧DP N c (FG N b c (DC N k (B7 N b (CT N) n1))) n4 C D=some r) N ?_ ?_ ?_
     ·intro x y d g;exact⟨M,0,_,_,d.sub (kp [80,79,5,13,12,1,14,3,81] O),g,ao,(C2.refl ad V),a2,(iq (n:=0) O),E⟩
     ·rintro x y ⟨_,_,_,_,_,_,_,_,_,_,E⟩;rw[DP] at E;cases E
     rintro n4 x y ⟨C,D,dh,di,d,g,W,ag,bx,dj,E⟩;refine AK ?_ d g;clear d g y x;rw[DP] at E;refine AU ?_;refine AH O E (λbz E=>?_) (λbz E=>?_)
     ·refine AU ?_;refine A5 (AU ?_);have b0:=bw.mono' ag;refine BI E O O b0 CY.1 O λb1 E dk b2=>?_;have b3:=b2.i;refine AU ?_;refine CV (.inl O) W (AU ?_);refine BC E O O O J7 O (λb4 ap h' o=>C1 (St.all h') b3 ap) λb4 E=>AU ?_;refine BZ (kp [87,7,80,79,5,13,12,1,14,3,81] O) λdl aq dm=>AH O E (λb5 E=>?_) (λb5 E=>?_)
      ·exact RT
      refine AU ?_;refine BJ (AU ?_);refine WF.nil (λx y d g=>?_);exact⟨(BQ (C+b1)),(BQ (D+1)),_,_,d.sub (kp [80,79,5,13,12,1,14,3,81] O),g,aq,EX,(BW _),(BW _),E⟩
     refine BL O (λx y d g=>?_);exact⟨C,_,_,d.sub (kp [5,13,12,1,14,3] O),g,W,ag,bx,E⟩
    rintro x y ⟨z,ah,ai,d,g,ar,dn,b6,E⟩;refine AK ?_ d g;clear d g y x;rw[FG] at E;have b7:=c3.nw;refine AU ?_;refine A5 (A8 (λn5=>λa w=>∃(G:Int) (I:Int),IV B ah ai (122,[]) a w [(94,vI (↑c.T.length:Int)),(93,am),(13,vI (↑b.A.length:Int)),(12,v9),(1,q1),(14,vI k),(3,vI z),(8,vI G),(95,vI I)] (L) λ_ _=>AA G∧AA I∧Cn N b c z (DC N k (B7 N b (CT N) n1)) n5 G I=some r) N ?_ ?_ ?_)
    ·intro x y d g;have au:=ar.drop .head;exact⟨(-1),0,_,_,d.sub (kp [94,93,13,12,1,14,3,8,95] O),g,au,(C2.refl ah ai),(iq (n:=(-1)) O),(iq (n:=0) O),E⟩
    ·rintro x y ⟨_,_,_,_,_,_,_,_,_,_,E⟩;rw[Cn] at E;cases E
    rintro n5 x y ⟨G,I,dp,dq,d,g,X,b8,dr,ds,E⟩;refine AK ?_ d g;clear d g y x;rw[Cn] at E;refine AU ?_;refine AH O E (λb9 E=>?_) (λb9 E=>?_)
    ·refine AU ?_;refine A5 (AU ?_);have ca:=b7.mono' b8;refine BI E O O ca pR.1 O λZ E dt cb=>?_;obtain⟨du,_,cc⟩:=cb.lv;refine AU ?_;refine D0 oE O X λdv dw av cd=>?_;have ce:=cc.mono cd;obtain⟨rfl,⟨cf,cg⟩⟩:=J8.ex ce;refine FL O O O O oX.1 O av .head O λdx aw dy=>AU ?_;refine CV (.inl O) aw ?_;have dz:=k6.nw;refine AU ?_;obtain⟨ch,j,E⟩:=bd E;refine AY 5 115 (.bool ch) ?_ ?_
     ·cases aj:((decide (Z.Bf≤G))||(decide (b.J≤Z.Bf)))
      ·have j:=HV aj j;refine AU ?_;refine BC j O O O J7 O (λci ax h' o=>C1 (St.all h') cg ax) λci j=>AU ?_;cases j;exact AZ O
      have j:=HU aj j;cases j;exact BE O O
     refine BZ (kp [115,10,94,93,13,12,1,14,3,95] O) λd0 ay d1=>AH O E (λcj E=>?_) (λcj E=>?_)
     ·exact RT
     refine AU ?_;refine BJ (AU ?_);refine WF.nil (λx y d g=>?_);have az:=ay.drop .head;exact⟨Z.Bf,(BQ (I+1)),_,_,d.sub (kp [94,93,13,12,1,14,3,8,95] O),g,az,EX,cf,(BW _),E⟩
    refine IQ O (WF.nil (λx y d g=>?_));exact⟨z,_,_,d.sub (kp [13,12,1,14,3] O),g,X,EX,b6,E⟩
   rintro x y ⟨Q,d2,d3,d,g,a0,d4,dd,E⟩;refine AK ?_ d g;clear d g y x;rw[DC] at E;refine AU ?_;refine WF.nil (λx y d g=>?_);exact⟨Q,(BQ (k+1)),_,_,d.sub (kp [13,12,1,3,14] O),g,a0,EX,dd,(BW _),E⟩
  refine BL O (λx y d g=>?_);exact⟨M,_,_,d.sub (kp [3] O),g,af,a1,a2,E⟩
 rintro x y ⟨ac,d5,d6,d,g,de,d7,ef,E⟩;refine AK ?_ d g;clear d g y x;rw[CT] at E;exact RT
def R0 (X:St S L h) {g:Int}(q:AA g) {i:Value}{p:(Int→Option Bool)}(s:Rd S h (A7.fn prog (λx:Int=>([vI x]:List Value)) (λx:Int=>AA x) (λy:Bool=> .bool y) (λy:Bool=>True)) i p) {r:Int}(E:L0 N g p=some r):
 CM prog 241 #[vI g,i] S h (λv S' h'=>v=vI r∧AA r∧St S' (L) h'):=by
 refine CM.go 26 func241 O ntmps241 O λB=>?_;rw[L0] at E;obtain⟨H,I,rfl,J,K⟩:=s.fn;refine AU ?_;refine AQ (λa w=>∃(F:Int),IV B S h (26,[]) a w [(5,vI F)] (L) λ_ _=>AA F∧Jl N F=some r) ?_ ?_
 ·refine A8 (λV=>λa w=>∃(c:Int) (d:Int),IV B S h (26,[]) a w [(1,(.func (.func H) #[] I)),(5,vI c),(6,vI d)] (L) λ_ _=>AA c∧AA d∧HD N p (Jl N) V c d=some r) N ?_ ?_ ?_
  ·intro u z l m;exact⟨0,g,_,_,l.sub (kp [1,5,6] O),m,X,(C2.refl S h),(iq (n:=0) O),q,E⟩
  ·rintro u z ⟨_,_,_,_,_,_,_,_,_,_,E⟩;rw[HD] at E;cases E
  rintro V u z ⟨c,d,Y,Z,l,m,k,t,C,M,E⟩;refine AK ?_ l m;clear l m z u;rw[HD] at E;refine AU ?_;refine AH O E (λQ E=>?_) (λQ E=>?_)
  ·refine AU ?_;refine A5 (AU ?_);refine JY O Q9 Ww O (KW (j:=1) O O O O (JY O Ww Q9 O (AU ?_)));refine CV (.inl O) k (AU ?_);obtain⟨ab,D,E⟩:=bd E;refine IW O O O J O (λh' o=>K _ h' (λb G=>Ab0 (k.1 b (t.sub b G)) o.siz) (λb G=>(o.same b (k.1 b (t.sub b G))).trans (t.same b G)) [] (St.all h') _ _ (BW _) D) (AU ?_);refine BZ (kp [21,7,1,5,6] O) λac A ad=>AH O E (λU E=>?_) (λU E=>?_)
   ·refine AU ?_;refine BJ (WF.nil (λu z l m=>?_));exact⟨(BQ ((BQ (Fq .u64 (IntKind.wrap .u64 (BQ (c+d))) 1))+1)),d,_,_,l.sub (kp [1,5,6] O),m,A,EX,(BW _),M,E⟩
   refine AU ?_;refine BJ (WF.nil (λu z l m=>?_));exact⟨c,(BQ (Fq .u64 (IntKind.wrap .u64 (BQ (c+d))) 1)),_,_,l.sub (kp [1,5,6] O),m,A,EX,C,(BW _),E⟩
  refine BL O (λu z l m=>?_);exact⟨c,_,_,l.sub (kp [5] O),m,k,t,C,E⟩
 rintro u z ⟨F,ae,af,l,m,W,ag,r6,E⟩;refine AK ?_ l m;clear l m z u;rw[Jl] at E;exact RT
def Qv (l:St S L h) {a:Int}(i:AA a) {b:Value}{g:(List By)}(d:Pt S h (A7.sl CH) b g) {c:Value}{c2_:Int}(j:Pt S h AB c c2_) {r:Bool}(E:JM N g c2_ a=some r):
 CM prog 242 #[vI a,b,c] S h (λv S' h'=>v= .bool r∧St S' (L) h'):=by
 refine CM.go 12 func242 O ntmps242 O λB=>?_;rw[JM] at E;refine AU ?_;refine Hv (.inr ⟨mo,by kernel_rfl⟩) ?_;obtain⟨v1,_,k⟩:=d.ll;refine AU ?_;exact BI E O O k LN.1 O λm E n o=>RT
def Me (i:St S L h) {a:Int}(c:IntKind.has .u64 a) {b:Int}(d:IntKind.has .u64 b) {r:Int×Int}(E:IA N a b=some r):
 CM prog 202 #[.int .u64 a,.int .u64 b] S h (λv S' h'=>v= .tuple #[.int .u64 r.1,.int .u64 r.2]∧IntKind.has .u64 r.1∧IntKind.has .u64 r.2∧St S' (L) h'):=by
 refine CM.go 51 func202 O ntmps202 O λB=>?_;rw[IA] at E;refine AU ?_;refine KW (j:=32) O O O O (AU ?_);refine KW (j:=32) O O O O (AU ?_);refine KW (j:=32) O O O O (AU ?_);refine KW (j:=32) O O O O (AU ?_);refine KW (j:=32) O O O O (AU ?_);refine CO (λl m g k=>?_);cases E;exact LC g O k (I4 (J1 g (v:=_) O) (I4 (J1 g (v:=_) O) LB)) O (C2.refl S h) ⟨O,(Ft _ _),(Ft _ _),i⟩
def Pk (I:St S L h) {d:Int}(g:IntKind.has .u64 d) {r:Int}(E:JR N d=some r):
 CM prog 243 #[.int .u64 d] S h (λv S' h'=>v=vI r∧AA r∧St S' (L) h'):=by
 refine CM.go 25 func243 O ntmps243 O λB=>?_;rw[JR] at E;refine AU ?_;refine JH (λa w=>∃(x:Int) (y:Int),IV B S h (25,[]) a w [(0,.int .u64 x),(2,vI y)] (L) λ_ _=>IntKind.has .u64 x∧AA y∧HH N x y=some r) ?_ ?_
 ·refine AH O E (λM E=>?_) (λM E=>?_)
  ·refine AU ?_;refine KW (j:=32) O O O O (AU ?_);refine WF.nil (λl m b c=>?_);exact⟨(Fq .u64 d 32),32,_,_,b.sub (kp [0,2] O),c,I,(C2.refl S h),(SO _ g _),(iq (n:=32) O),E⟩
  refine AU ?_;refine WF.nil (λl m b c=>?_);exact⟨d,0,_,_,b.sub (kp [0,2] O),c,I,(C2.refl S h),g,(iq (n:=0) O),E⟩
 rintro l m ⟨x,y,C,D,b,c,z,e9,J,Q,E⟩;refine AK ?_ b c;clear b c m l;rw[HH] at E;refine AU ?_;refine JH (λa w=>∃(i:Int) (k:Int),IV B C D (25,[]) a w [(0,.int .u64 i),(2,vI k)] (L) λ_ _=>IntKind.has .u64 i∧AA k∧HG N i k=some r) ?_ ?_
 ·refine AH O E (λF E=>?_) (λF E=>?_)
  ·refine AU ?_;refine KW (j:=16) O O O O (AU ?_);refine WF.nil (λl m b c=>?_);exact⟨(Fq .u64 x 16),(BQ (y+16)),_,_,b.sub (kp [0,2] O),c,z,(C2.refl C D),(SO _ J _),(BW _),E⟩
  refine AU ?_;refine WF.nil (λl m b c=>?_);exact⟨x,y,_,_,b.sub (kp [0,2] O),c,z,(C2.refl C D),J,Q,E⟩
 rintro l m ⟨i,k,t,u,b,c,q,U,A,G,E⟩;refine AK ?_ b c;clear b c m l;rw[HG] at E;refine AU ?_;refine JH (λa w=>∃(o:Int) (p:Int),IV B t u (25,[]) a w [(0,.int .u64 o),(2,vI p)] (L) λ_ _=>IntKind.has .u64 o∧AA p∧HE N o p=some r) ?_ ?_
 ·refine AH O E (λH E=>?_) (λH E=>?_)
  ·refine AU ?_;refine KW (j:=8) O O O O (AU ?_);refine WF.nil (λl m b c=>?_);exact⟨(Fq .u64 i 8),(BQ (k+8)),_,_,b.sub (kp [0,2] O),c,q,(C2.refl t u),(SO _ A _),(BW _),E⟩
  refine AU ?_;refine WF.nil (λl m b c=>?_);exact⟨i,k,_,_,b.sub (kp [0,2] O),c,q,(C2.refl t u),A,G,E⟩
 rintro l m ⟨o,p,V,W,b,c,K,X,Y,Z,E⟩;refine AK ?_ b c;clear b c m l;rw[HE] at E;refine AU ?_;refine JY O NV uZ O ?_;obtain⟨ab,s,E⟩:=bd E;have ac:=Qz s;exact Q7 O O Tf s O (JY O uZ Q9 O (RT))
def MY (d:St S L h) {a:Int}(b:IntKind.has .u64 a) {r:Int}(E:GB N a=some r):
 CM prog 228 #[.int .u64 a] S h (λv S' h'=>v=vI r∧AA r∧St S' (L) h'):=by
 refine CM.go 6 func228 O ntmps228 O λB=>?_;rw[GB] at E;refine AU ?_;refine CV (.inl O) d (AU ?_);refine DV E O O O rJ O (λg c h' o=>Pk (St.all h') b c) λg E i=>?_;have k:=i;refine AU ?_;exact BZ (kp [2] O) λl j m=>RT
def Mf (hs:St S L h) {d:Int}(X:IntKind.has .u64 d) {b:Int}(x:IntKind.has .u64 b) {c:Int}(D:IntKind.has .u64 c) {r:Int×Int}(E:Gi N d b c=some r):
 CM prog 203 #[.int .u64 d,.int .u64 b,.int .u64 c] S h (λv S' h'=>v= .tuple #[.int .u64 r.1,.int .u64 r.2]∧IntKind.has .u64 r.1∧IntKind.has .u64 r.2∧St S' (L) h'):=by
 refine CM.go 135 func203 O ntmps203 O λB=>?_;rw[Gi] at E;refine AU ?_;refine AH O E (λc1 E=>?_) (λc1 E=>?_)
 ·cases E
 refine AU ?_;refine AH O E (λc2 E=>?_) (λc2 E=>?_)
 ·cases E
 refine AU ?_;refine AH O E (λc3 E=>?_) (λc3 E=>?_)
 ·refine AU ?_;refine Hv (.inr ⟨mo,by kernel_rfl⟩) (AU ?_);obtain⟨z4,Y,E⟩:=bd E;have r5:IntKind.has .u64 z4:=Ov Y;refine VL O O O Y (AU ?_);obtain⟨z6,Z,E⟩:=bd E;have r7:IntKind.has .u64 z6:=cG x Z;refine lC O O O Z (AU ?_);refine CO (λq s i l=>?_);cases E;exact LC i O l (I4 (J1 i (v:=_) O) (I4 (J1 i (v:=_) O) LB)) O (C2.refl S h) ⟨O,r5,r7,hs⟩
 refine AU ?_;refine CV (.inl O) hs (AU ?_);refine DV E O O O rP O (λF aj h' o=>MY (St.all h') D aj) λF E r9=>?_;have av:=r9;refine JY O Q9 Ww O (AU ?_);refine BZ (kp [8,0,1,2] O) λJ ab aw=>AU ?_;obtain⟨g,ac,E⟩:=bd E;refine VJ (j:=g) O O O ac (AU ?_);refine KW (j:=32) O O O O (AU ?_);obtain⟨m,ad,E⟩:=bd E;refine VJ (j:=m) O O O ad (AU ?_);obtain⟨n,ae,E⟩:=bd E;refine KW (j:=n) O O O ae (tU O O O (AU ?_));obtain⟨k,af,E⟩:=bd E;refine VJ (j:=k) O O O af (AU ?_);refine KW (j:=32) O O O O (AU ?_);obtain⟨K,H,E⟩:=bd E;have ak:IntKind.has .u64 K:=Ov H;refine VL O O O H (AU ?_);refine AQ (λa w=>∃(p:Int),IV B S J (135,[]) a w [(14,.int .u64 (I5 .and .u64 (Eg .u64 b k) 4294967295)),(13,.int .u64 (Fq .u64 (Eg .u64 b k) 32)),(11,.int .u64 (I5 .or .u64 (Eg .u64 d m) (Fq .u64 b n))),(10,.int .u64 (I5 .and .u64 (Eg .u64 c g) 4294967295)),(9,.int .u64 (Fq .u64 (Eg .u64 c g) 32)),(2,.int .u64 (Eg .u64 c g)),(8,.int .u64 (IntKind.wrap .u64 F)),(15,.int .u64 p)] (L) λ_ _=>IntKind.has .u64 p∧EU N d b c F g m n k p=some r) ?_ ?_
 ·refine A8 (λn1=>λa w=>∃(t:Int) (y:Int),IV B S J (135,[]) a w [(14,.int .u64 (I5 .and .u64 (Eg .u64 b k) 4294967295)),(13,.int .u64 (Fq .u64 (Eg .u64 b k) 32)),(11,.int .u64 (I5 .or .u64 (Eg .u64 d m) (Fq .u64 b n))),(10,.int .u64 (I5 .and .u64 (Eg .u64 c g) 4294967295)),(9,.int .u64 (Fq .u64 (Eg .u64 c g) 32)),(2,.int .u64 (Eg .u64 c g)),(8,.int .u64 (IntKind.wrap .u64 F)),(15,.int .u64 t),(16,.int .u64 y)] (L) λ_ _=>IntKind.has .u64 t∧IntKind.has .u64 y∧EB N b c g k (EU N d b c F g m n k) n1 t y=some r) N ?_ ?_ ?_
  ·intro q s i l;exact⟨K,(IntKind.wrap .u64 ((I5 .or .u64 (Eg .u64 d m) (Fq .u64 b n))-(IntKind.wrap .u64 (K*(Fq .u64 (Eg .u64 c g) 32))))),_,_,i.sub (kp [14,13,11,10,9,2,8,15,16] O),l,ab,(C2.refl S J),ak,(Ft _ _),E⟩
  ·rintro q s ⟨_,_,_,_,_,_,_,_,_,_,E⟩;rw[EB] at E;cases E
  rintro n1 q s ⟨t,y,ax,ay,i,l,z,M,al,az,E⟩;refine AK ?_ i l;clear i l s q;rw[EB] at E;refine AU ?_;refine AH O E (λam E=>?_) (λam E=>?_)
  ·refine AU ?_;refine A5 (AU ?_);refine AH O E (λan E=>?_) (λan E=>?_)
   ·refine BL O (λq s i l=>?_);exact⟨(IntKind.wrap .u64 (t-1)),_,_,i.sub (kp [14,13,11,10,9,2,8,15] O),l,z,M,(Ft _ _),E⟩
   refine AU ?_;refine BJ (WF.nil (λq s i l=>?_));exact⟨(IntKind.wrap .u64 (t-1)),(IntKind.wrap .u64 (y+(Fq .u64 (Eg .u64 c g) 32))),_,_,i.sub (kp [14,13,11,10,9,2,8,15,16] O),l,z,M,(Ft _ _),(Ft _ _),E⟩
  refine BL O (λq s i l=>?_);exact⟨t,_,_,i.sub (kp [14,13,11,10,9,2,8,15] O),l,z,M,al,E⟩
 rintro q s ⟨p,Q,U,i,l,ag,a0,a1,E⟩;refine AK ?_ i l;clear i l s q;rw[EU] at E;refine AU ?_;obtain⟨V,I,E⟩:=bd E;have ao:IntKind.has .u64 V:=Ov I;refine VL O O O I (AU ?_);refine AQ (λa w=>∃(G:Int),IV B Q U (135,[]) a w [(17,.int .u64 (IntKind.wrap .u64 ((IntKind.wrap .u64 ((IntKind.wrap .u64 ((I5 .or .u64 (Eg .u64 d m) (Fq .u64 b n))*4294967296))+(Fq .u64 (Eg .u64 b k) 32)))-(IntKind.wrap .u64 (p*(Eg .u64 c g)))))),(14,.int .u64 (I5 .and .u64 (Eg .u64 b k) 4294967295)),(2,.int .u64 (Eg .u64 c g)),(8,.int .u64 (IntKind.wrap .u64 F)),(15,.int .u64 p),(18,.int .u64 G)] (L) λ_ _=>IntKind.has .u64 G∧GC N d b c F g m n k p G=some r) ?_ ?_
 ·refine A8 (λn3=>λa w=>∃(A:Int) (u:Int),IV B Q U (135,[]) a w [(17,.int .u64 (IntKind.wrap .u64 ((IntKind.wrap .u64 ((IntKind.wrap .u64 ((I5 .or .u64 (Eg .u64 d m) (Fq .u64 b n))*4294967296))+(Fq .u64 (Eg .u64 b k) 32)))-(IntKind.wrap .u64 (p*(Eg .u64 c g)))))),(14,.int .u64 (I5 .and .u64 (Eg .u64 b k) 4294967295)),(10,.int .u64 (I5 .and .u64 (Eg .u64 c g) 4294967295)),(9,.int .u64 (Fq .u64 (Eg .u64 c g) 32)),(2,.int .u64 (Eg .u64 c g)),(8,.int .u64 (IntKind.wrap .u64 F)),(15,.int .u64 p),(16,.int .u64 A),(18,.int .u64 u)] (L) λ_ _=>IntKind.has .u64 A∧IntKind.has .u64 u∧ET N b c g k (GC N d b c F g m n k p) n3 A u=some r) N ?_ ?_ ?_
  ·intro q s i l;exact⟨(IntKind.wrap .u64 ((IntKind.wrap .u64 ((IntKind.wrap .u64 ((IntKind.wrap .u64 ((I5 .or .u64 (Eg .u64 d m) (Fq .u64 b n))*4294967296))+(Fq .u64 (Eg .u64 b k) 32)))-(IntKind.wrap .u64 (p*(Eg .u64 c g)))))-(IntKind.wrap .u64 (V*(Fq .u64 (Eg .u64 c g) 32))))),V,_,_,i.sub (kp [17,14,10,9,2,8,15,16,18] O),l,ag,(C2.refl Q U),(Ft _ _),ao,E⟩
  ·rintro q s ⟨_,_,_,_,_,_,_,_,_,_,E⟩;rw[ET] at E;cases E
  rintro n3 q s ⟨A,u,a2,a3,i,l,C,W,a4,ap,E⟩;refine AK ?_ i l;clear i l s q;rw[ET] at E;refine AU ?_;refine AH O E (λaq E=>?_) (λaq E=>?_)
  ·refine AU ?_;refine A5 (AU ?_);refine AH O E (λar E=>?_) (λar E=>?_)
   ·refine BL O (λq s i l=>?_);exact⟨(IntKind.wrap .u64 (u-1)),_,_,i.sub (kp [17,14,2,8,15,18] O),l,C,W,(Ft _ _),E⟩
   refine AU ?_;refine BJ (WF.nil (λq s i l=>?_));exact⟨(IntKind.wrap .u64 (A+(Fq .u64 (Eg .u64 c g) 32))),(IntKind.wrap .u64 (u-1)),_,_,i.sub (kp [17,14,10,9,2,8,15,16,18] O),l,C,W,(Ft _ _),(Ft _ _),E⟩
  refine BL O (λq s i l=>?_);exact⟨u,_,_,i.sub (kp [17,14,2,8,15,18] O),l,C,W,ap,E⟩
 rintro q s ⟨G,a5,a6,i,l,ah,a7,a8,E⟩;refine AK ?_ i l;clear i l s q;rw[GC] at E;refine AU ?_;obtain⟨au,ai,E⟩:=bd E;refine KW (j:=au) O O O ai (AU ?_);refine CO (λq s i l=>?_);cases E;exact LC i O l (I4 (J1 i (v:=_) O) (I4 (J1 i (v:=_) O) LB)) O EX ⟨O,(Ft _ _),(SO _ (Ft _ _) _),ah⟩
def J3 (F:St S L h) {d:Int}(s:AA d) {a:Int}(l:AA a) {b:Int}(m:AA b) {r:Int×Int×Bool}(E:Gv N d a b=some r):
 CM prog 195 #[vI d,vI a,vI b] S h (λv S' h'=>v= .tuple #[vI r.1,vI r.2.1,.bool r.2.2]∧AA r.1∧AA r.2.1∧St S' (L) h'):=by
 refine CM.go 61 func195 O ntmps195 O λB=>?_;rw[Gv] at E;refine AU ?_;refine AH O E (λG E=>?_) (λG E=>?_)
 ·refine AU ?_;refine CO (λu w c k=>?_);cases E;exact LC c O k (I4 (J1 c (v:=_) O) (I4 (J1 c (v:=_) O) (I4 (J1 c (v:=_) O) LB))) O (C2.refl S h) ⟨O,(iq (n:=0) O),(iq (n:=0) O),F⟩
 refine AU ?_;refine CV (.inl O) F (AU ?_);refine JY O Q9 NV O (AU ?_);refine JY O Q9 NV O ?_;obtain⟨t,x,E⟩:=bd E;refine J4 (v:= .tuple #[.int .u64 t.1,.int .u64 t.2]) (Ψ:=IntKind.has .u64 t.1∧IntKind.has .u64 t.2) O O O fD O (λh' o=>(Me (St.all h') (Ft _ _) (Ft _ _) x).mono λ_ _ _ _ p=>⟨p.1,⟨p.2.1,p.2.2.1⟩⟩) λH=>?_;obtain⟨I,y⟩:=H;refine AU ?_;refine BZ (kp [10,9,2] O) λJ i z=>AU ?_;refine JY O Q9 NV O (AU ?_);refine AH O E (λA E=>?_) (λA E=>?_)
 ·refine AU ?_;refine CO (λu w c k=>?_);cases E;exact LC c O k (I4 (J1 c (v:=_) O) (I4 (J1 c (v:=_) O) (I4 (J1 c (v:=_) O) LB))) O z ⟨O,(iq (n:=0) O),(iq (n:=0) O),i⟩
 refine AU ?_;refine CV (.inl O) i (AU ?_);refine JY O Q9 NV O ?_;obtain⟨g,q,E⟩:=bd E;refine J4 (v:= .tuple #[.int .u64 g.1,.int .u64 g.2]) (Ψ:=IntKind.has .u64 g.1∧IntKind.has .u64 g.2) O O O fC O (λh' o=>(Mf (St.all h') I y (Ft _ _) q).mono λ_ _ _ _ p=>⟨p.1,⟨p.2.1,p.2.2.1⟩⟩) λC=>?_;obtain⟨K,M⟩:=C;refine AU ?_;refine BZ (kp [12,11] O) λQ j U=>AU ?_;refine AH O E (λD E=>?_) (λD E=>?_)
 ·refine AU ?_;refine CO (λu w c k=>?_);cases E;exact LC c O k (I4 (J1 c (v:=_) O) (I4 (J1 c (v:=_) O) (I4 (J1 c (v:=_) O) LB))) O EX ⟨O,(iq (n:=0) O),(iq (n:=0) O),j⟩
 refine AU ?_;refine JY O NV Q9 O (AU ?_);refine JY O NV Q9 O (AU ?_);refine CO (λu w c k=>?_);cases E;exact LC c O k (I4 (J1 c (v:=_) O) (I4 (J1 c (v:=_) O) (I4 (J1 c (v:=_) O) LB))) O EX ⟨O,(BW _),(BW _),j⟩
def MZ (J:St S L h) {b:Value}{c:(List By)}(j:Sl S h CH b c) {a:Int}(k:AA a) {r:Int×Bool}(E:Jd N c a=some r):
 CM prog 227 #[b,vI a] S h (λv S' h'=>v= .tuple #[vI r.1,.bool r.2]∧AA r.1∧St S' (L) h'):=by
 refine CM.go 63 func227 O ntmps227 O λB=>?_;rw[Jd] at E;refine AU ?_;refine Cg O (KB j) (λ_=>rfl) O J λq1 S2 h3 K e5 k6=>Cg O (⟨_,O,O,k⟩:Rd _ _ AB _ a) (λ_=>rfl) O K λq7 S8 h9 m M s=>AU ?_;refine CV (.inl O) m ?_;have l:=k6.mono M;obtain⟨ap,_,Q⟩:=l.ll;have U:=Q.le;refine AU ?_;refine Ra O O O ?_;have t:Rd S8 h9 (A7.fn prog (λx:Int=>([vI x]:List Value)) (λx:Int=>AA x) (λy:Bool=> .bool y) (λy:Bool=>True)) (.func (.func 242) #[] #[q1,q7]) (λx=>JM N c a x):=Rd.ofFn 242 #[q1,q7] rK λS' h' s' e' L J x y h1 h2=>(Qv J h1 (l.mono'' s' e') (s.mono'' s' e') h2).mono λ_ _ _ _ p=>⟨p.1,trivial,p.2⟩
 refine DV E O O O rL O (λV u h' o=>R0 (St.all h') (Lj U) (t.mono (o.all m.1)) u) λV E W=>?_;have aq:=W;refine AU ?_;refine BZ (kp [6,3,2] O) λar n w=>AU ?_;refine AH O E (λX E=>?_) (λX E=>?_)
 ·have Y:=l.mono w;obtain⟨au,_,Z⟩:=Y.ll;refine AU ?_;refine BI E O O Z LN.1 O λav E aw ab=>?_;have ac:=ab.fl TZ;have ad:=ac.i;refine AU ?_;refine CO (λaa ww d z=>?_);cases E;exact LC d O z (I4 (J1 d (v:=_) O) (I4 (J1 d (v:=_) O) LB)) O EX ⟨O,ad,n⟩
 have A:=l.mono w;obtain⟨ax,_,ae⟩:=A.ll;refine AU ?_;refine BI E O O ae LN.1 O λay E az af=>?_;obtain⟨a0,_,ag⟩:=af.lv;refine AU ?_;refine D0 UZ O n λa1 a2 C ah=>?_;have ai:=ag.mono ah;obtain⟨rfl,⟨a3,aj⟩⟩:=CH.ex ai;refine FL O O O O Ud.1 O C .head O λa4 q a5=>?_;have D:=A.nw;refine AU ?_;refine AH O E (λak E=>?_) (λak E=>?_)
 ·refine AU ?_;refine CO (λaa ww d z=>?_);have F:=q.drop .head;cases E;exact LC d O z (I4 (J1 d (v:=_) O) (I4 (J1 d (v:=_) O) LB)) O EX ⟨O,aj,F⟩
 refine AU ?_;refine CV (.inr ⟨mo,by kernel_rfl⟩) q ?_;have a6:=s.nw;obtain⟨a7,_,am⟩:=D.ll;refine AU ?_;refine BI E O O am LN.1 O λa8 E a9 ba=>?_;obtain⟨bb,_,an⟩:=D.ll;refine AU ?_;refine BI E O O an LN.1 O λbc E be bf=>AU ?_;obtain⟨g,G,E⟩:=bd E;refine J4 (v:= .tuple #[vI g.1,vI g.2.1,.bool g.2.2]) (Ψ:=AA g.1∧AA g.2.1) O O O TL O (λh' o=>(J3 (St.all h') (BW _) (BW _) (BW _) G).mono λ_ _ _ _ p=>⟨p.1,⟨p.2.1,p.2.2.1⟩⟩) λao=>?_;obtain⟨bg,bh⟩:=ao;refine AU ?_;refine BZ (kp [9,8,7] O) λbi H bj=>AU ?_;refine CO (λaa ww d z=>?_);have I:=H.drop .head;cases E;exact LC d O z (I4 (J1 d (v:=_) O) (I4 (J1 d (v:=_) O) LB)) O EX ⟨O,(BW _),I⟩
def OL (W:St S L h) {b:Value}{d:(List By)}(k:Sl S h CH b d) {c:Value}{g:(List By)}(l:Sl S h CH c g) {r:Bool}(E:Ic N d g=some r):
 CM prog 201 #[b,c] S h (λv S' h'=>v= .bool r∧St S' (L) h'):=by
 refine CM.go 66 func201 O ntmps201 O λB=>?_;rw[Ic] at E;refine AU ?_;refine CV (.inl O) W (AU ?_);refine BC E O O O QM O (λy1 X h' o=>IE (St.all h') (k.mono' (o.all W.1)) X) λy1 E=>AU ?_;obtain⟨b4,m,E⟩:=bd E;refine AY 4 20 (.bool b4) ?_ ?_
 ·cases c3:(!y1)
  ·have m:=HV c3 m;refine AU ?_;refine BC m O O O QM O (λy5 Y h' o=>IE (St.all h') (l.mono' (o.all W.1)) Y) λy5 m=>AU ?_;cases m;exact AZ O
  have m:=HU c3 m;cases m;exact BE O O
 refine BZ (kp [20,0,1] O) λZ ab e9=>AH O E (λac E=>?_) (λac E=>?_)
 ·exact RT
 have ad:=k.mono' e9;refine AU ?_;refine AQ (λa w=>IV B S Z (66,[]) a w [(0,b),(1,c)] (L) λ_ _=>HK N d g=some r) ?_ ?_
 ·refine A8 (λn1=>λa w=>∃(s:Int),IV B S Z (66,[]) a w [(22,vI (↑d.length:Int)),(21,b),(0,b),(1,c),(23,vI s)] (L) λ_ _=>AA s∧HJ N d g (HK N d g) n1 s=some r) N ?_ ?_ ?_
  ·intro p q i j;exact⟨0,_,_,i.sub (kp [22,21,0,1,23] O),j,ab,(C2.refl S Z),(iq (n:=0) O),E⟩
  ·rintro p q ⟨_,_,_,_,_,_,_,_,E⟩;rw[HJ] at E;cases E
  rintro n1 p q ⟨s,a7,a8,i,j,u,D,a9,E⟩;refine AK ?_ i j;clear i j q p;rw[HJ] at E;refine AU ?_;refine AH O E (λae E=>?_) (λae E=>?_)
  ·refine AU ?_;refine A5 (AU ?_);have af:=ad.mono' D;refine BI E O O af LN.1 O λba E bb ag=>?_;obtain⟨bc,_,ah⟩:=ag.lv;refine AU ?_;refine D0 UZ O u λbe bf F ai=>?_;have aj:=ah.mono ai;obtain⟨rfl,⟨ak,bg⟩⟩:=CH.ex aj;refine FL O O O O Ud.1 O F .head O λbh x bi=>AU ?_;refine CV (.inl O) x (AU ?_);have am:=l.nw;refine DV E O O O XM O (λan G h' o=>MZ (St.all h') (am.mono' (o.all x.1)) ak G) λan E ao=>?_;have bj:=ao;refine AU ?_;refine BZ (kp [7,6,22,21,0,1,23] O) λbk H bl=>AU ?_;refine AH O E (λap E=>?_) (λap E=>?_)
   ·exact RT
   refine AU ?_;refine BJ (AU ?_);refine WF.nil (λp q i j=>?_);have I:=H.drop .head;exact⟨(BQ (s+1)),_,_,i.sub (kp [22,21,0,1,23] O),j,I,EX,(BW _),E⟩
  refine BL O (λp q i j=>?_);exact⟨_,_,i.sub (kp [0,1] O),j,u,D,E⟩
 rintro p q ⟨A,C,i,j,J,bm,E⟩;refine AK ?_ i j;clear i j q p;rw[HK] at E;have aq:=l.nw;refine AU ?_;refine AQ (λa w=>IV B A C (66,[]) a w [] (L) λ_ _=>Ig N=some r) ?_ ?_
 ·refine A8 (λn3=>λa w=>∃(t:Int),IV B A C (66,[]) a w [(40,vI (↑g.length:Int)),(39,c),(0,b),(41,vI t)] (L) λ_ _=>AA t∧HI N d g (Ig N) n3 t=some r) N ?_ ?_ ?_
  ·intro p q i j;exact⟨0,_,_,i.sub (kp [40,39,0,41] O),j,J,(C2.refl A C),(iq (n:=0) O),E⟩
  ·rintro p q ⟨_,_,_,_,_,_,_,_,E⟩;rw[HI] at E;cases E
  rintro n3 p q ⟨t,bn,bo,i,j,y,K,bp,E⟩;refine AK ?_ i j;clear i j q p;rw[HI] at E;refine AU ?_;refine AH O E (λar E=>?_) (λar E=>?_)
  ·refine AU ?_;refine A5 (AU ?_);have au:=aq.mono' K;refine BI E O O au LN.1 O λbq E br av=>?_;obtain⟨bs,_,aw⟩:=av.lv;refine AU ?_;refine D0 UZ O y λbt bu M ax=>?_;have ay:=aw.mono ax;obtain⟨rfl,⟨az,bv⟩⟩:=CH.ex ay;refine FL O O O O Ud.1 O M .head O λbw z bx=>AU ?_;refine CV (.inl O) z (AU ?_);have a0:=k.nw;refine DV E O O O XM O (λa1 Q h' o=>MZ (St.all h') (a0.mono' (o.all z.1)) az Q) λa1 E a2=>?_;have bz:=a2;refine AU ?_;refine BZ (kp [12,11,10,40,39,0,41] O) λb0 U b1=>AU ?_;refine AH O E (λa3 E=>?_) (λa3 E=>?_)
   ·exact RT
   refine AU ?_;refine BJ (AU ?_);refine WF.nil (λp q i j=>?_);have V:=U.drop .head;exact⟨(BQ (t+1)),_,_,i.sub (kp [40,39,0,41] O),j,V,EX,(BW _),E⟩
  refine BL O (λp q i j=>?_);exact⟨_,_,i.sub Ri,j,y,K,E⟩
 rintro p q ⟨b2,a5,i,j,a4,a6,E⟩;refine AK ?_ i j;clear i j q p;rw[Ig] at E;exact RT
def Of (hs:St S L h) {I:Value}{D:BB}(W:Rd S h CD I D) {r:Bool}(E:Gc N D=some r):
 CM prog 151 #[I] S h (λv S' h'=>v= .bool r∧St S' (L) h'):=by
 refine CM.go 152 func151 O ntmps151 O λB=>?_;rw[Gc] at E;refine AU ?_;refine Cg O W CE O hs λq1 S2 h3 C e5 H=>AU ?_;refine A5 (AU ?_);refine AH O E (λc7 E=>?_) (λc7 E=>?_)
 ·refine AU ?_;refine CV (.inl O) C ?_;have c8:=H.fl KY;obtain⟨eu,_,c9⟩:=c8.ll;refine AU ?_;refine BC E O O O QM O (λa5 a6 h' o=>IE (St.all h') (c9.mono' (o.all C.1)) a6) λa5 E=>AU ?_;obtain⟨a7,q,E⟩:=bd E;refine AY 5 15 (.bool a7) ?_ ?_
  ·cases a8:a5
   ·have q:=HV a8 q;cases q;exact BE O O
   have q:=HU a8 q;have da:=H.fl IX;have db:=da.fl OH;obtain⟨ev,_,dc⟩:=db.ll;refine AU ?_;refine BC q O O O QM O (λdd a9 h' o=>IE (St.all h') (dc.mono' (o.all C.1)) a9) λdd q=>AU ?_;cases q;exact AZ O
  refine AU ?_;obtain⟨ba,s,E⟩:=bd E;refine AY 5 21 (.bool ba) ?_ ?_
  ·cases bb:a7
   ·have s:=HV bb s;cases s;exact BE O O
   have s:=HU bb s;have de:=H.fl IX;have df:=de.fl OI;obtain⟨ew,_,dg⟩:=df.ll;refine AU ?_;refine BC s O O O QM O (λdh bc h' o=>IE (St.all h') (dg.mono' (o.all C.1)) bc) λdh s=>AU ?_;cases s;exact AZ O
  refine AU ?_;obtain⟨be,t,E⟩:=bd E;refine AY 7 29 (.bool be) ?_ ?_
  ·cases bf:ba
   ·have t:=HV bf t;cases t;exact BE O O
   have t:=HU bf t;have di:=H.fl IX;have dj:=di.fl OH;obtain⟨ex,_,dk⟩:=dj.ll;have dl:=H.fl KY;obtain⟨ey,_,dm⟩:=dl.ll;refine AU ?_;refine BC t O O O fE O (λdn bg h' o=>OL (St.all h') (dk.mono' (o.all C.1)) (dm.mono' (o.all C.1)) bg) λdn t=>AU ?_;cases t;exact AZ O
  refine AU ?_;obtain⟨bh,u,E⟩:=bd E;refine AY 7 37 (.bool bh) ?_ ?_
  ·cases bi:be
   ·have u:=HV bi u;cases u;exact BE O O
   have u:=HU bi u;have dp:=H.fl KY;obtain⟨ez,_,dq⟩:=dp.ll;have dr:=H.fl IX;have ds:=dr.fl OI;obtain⟨e0,_,dt⟩:=ds.ll;refine AU ?_;refine BC u O O O fE O (λdu bj h' o=>OL (St.all h') (dq.mono' (o.all C.1)) (dt.mono' (o.all C.1)) bj) λdu u=>AU ?_;cases u;exact AZ O
  refine AU ?_;obtain⟨bk,x,E⟩:=bd E;refine AY 4 42 (.bool bk) ?_ ?_
  ·cases bl:bh
   ·have x:=HV bl x;cases x;exact BE O O
   have x:=HU bl x;have dv:=H.fl Gm;have dw:=dv.i;refine AU ?_;refine BC x O O O Hu O (λdx bm h' o=>Co (St.all h') dw (iq (n:=0) O) (iq (n:=64) O) bm) λdx x=>AU ?_;cases x;exact AZ O
  refine AU ?_;obtain⟨bn,y,E⟩:=bd E;refine AY 6 49 (.bool bn) ?_ ?_
  ·cases bo:bk
   ·have y:=HV bo y;cases y;exact BE O O
   have y:=HU bo y;have dy:=H.fl Kp;have dz:=dy.i;have d0:=H.fl Gm;have d1:=d0.i;refine AU ?_;refine BC y O O O Hu O (λd2 bp h' o=>Co (St.all h') dz (iq (n:=0) O) d1 bp) λd2 y=>AU ?_;cases y;exact AZ O
  refine AU ?_;obtain⟨bq,z,E⟩:=bd E;refine AY 4 54 (.bool bq) ?_ ?_
  ·cases br:bn
   ·have z:=HV br z;cases z;exact BE O O
   have z:=HU br z;have d3:=H.fl OG;have d4:=d3.i;refine AU ?_;refine BC z O O O J7 O (λd5 bs h' o=>C1 (St.all h') d4 bs) λd5 z=>AU ?_;cases z;exact AZ O
  refine AU ?_;obtain⟨d6,A,E⟩:=bd E;refine AY 6 61 (.bool d6) ?_ ?_
  ·cases bt:bq
   ·have A:=HV bt A;cases A;exact BE O O
   have A:=HU bt A;have d7:=H.fl J5;have d8:=d7.i;have d9:=H.fl J6;have ea:=d9.i;refine AU ?_;refine BC A O O O XN O (λeb bu h' o=>K4 (St.all h') d8 ea bu) λeb A=>AU ?_;cases A;exact AZ O
  refine AU ?_;exact BZ (kp [2] O) λeh ec ei=>RT
 refine AU ?_;refine JH (λa w=>∃(U:Bool),IV B S2 h3 (152,[]) a w [(4,vI D.F),(1,q1),(72,.bool U)] (L) λ_ _=>Eb N D U=some r) ?_ ?_
 ·refine AH O E (λbv E=>?_) (λbv E=>?_)
  ·refine AU ?_;refine WF.nil (λaa ww hf hw=>?_);exact⟨(decide (D.F=1)),_,_,hf.sub (kp [4,1,72] O),hw,C,(C2.refl S2 h3),E⟩
  refine AU ?_;refine WF.nil (λaa ww hf hw=>?_);exact⟨(decide (D.F=5)),_,_,hf.sub (kp [4,1,72] O),hw,C,(C2.refl S2 h3),E⟩
 rintro aa ww ⟨U,ej,ek,hf,hw,G,J,E⟩;refine AK ?_ hf hw;clear hf hw ww aa;rw[Eb] at E;refine AH O E (λbw E=>?_) (λbw E=>?_)
 ·refine AU ?_;refine CV (.inl O) G ?_;have V:=H.mono J;have bx:=V.fl Nd;have bz:=bx.i;refine AU ?_;refine BC E O O O J7 O (λX aq h' o=>C1 (St.all h') bz aq) λX E=>AU ?_;obtain⟨Y,b,E⟩:=bd E;refine AY 4 82 (.bool Y) ?_ ?_
  ·cases Z:X
   ·have b:=HV Z b;cases b;exact BE O O
   have b:=HU Z b;have b0:=V.fl BB.f_Num;have b1:=b0.i;refine AU ?_;refine BC b O O O J7 O (λb2 ar h' o=>C1 (St.all h') b1 ar) λb2 b=>AU ?_;cases b;exact AZ O
  refine AU ?_;obtain⟨b3,c,E⟩:=bd E;refine AY 4 87 (.bool b3) ?_ ?_
  ·cases ab:Y
   ·have c:=HV ab c;cases c;exact BE O O
   have c:=HU ab c;have b4:=V.fl BB.f_Den;have b5:=b4.i;refine AU ?_;refine BC c O O O Hu O (λb6 au h' o=>Co (St.all h') b5 (iq (n:=1) O) (iq (n:=1125899906842624) O) au) λb6 c=>AU ?_;cases c;exact AZ O
  refine AU ?_;exact BZ (kp [2] O) λel ed em=>RT
 refine AU ?_;refine AH O E (λb7 E=>?_) (λb7 E=>?_)
 ·refine AU ?_;refine CV (.inl O) G ?_;have K:=H.mono J;have b8:=K.fl BB.f_Num;have b9:=b8.i;refine AU ?_;refine BC E O O O J7 O (λac av h' o=>C1 (St.all h') b9 av) λac E=>AU ?_;obtain⟨ad,d,E⟩:=bd E;refine AY 4 97 (.bool ad) ?_ ?_
  ·cases ae:ac
   ·have d:=HV ae d;cases d;exact BE O O
   have d:=HU ae d;have ca:=K.fl Gm;have cb:=ca.i;refine AU ?_;refine BC d O O O Hu O (λcc aw h' o=>Co (St.all h') cb (iq (n:=1) O) (iq (n:=64) O) aw) λcc d=>AU ?_;cases d;exact AZ O
  refine AU ?_;obtain⟨cd,g,E⟩:=bd E;refine AY 6 104 (.bool cd) ?_ ?_
  ·cases af:ad
   ·have g:=HV af g;cases g;exact BE O O
   have g:=HU af g;have ce:=K.fl Kp;have cf:=ce.i;have cg:=K.fl Gm;have ch:=cg.i;refine AU ?_;refine BC g O O O Hu O (λci ax h' o=>Co (St.all h') cf (iq (n:=0) O) ch ax) λci g=>AU ?_;cases g;exact AZ O
  refine AU ?_;exact BZ (kp [2] O) λen ee eo=>RT
 refine AU ?_;refine AH O E (λcj E=>?_) (λcj E=>?_)
 ·refine AU ?_;refine CV (.inl O) G ?_;have M:=H.mono J;have ck:=M.fl BB.f_Num;have cl:=ck.i;refine AU ?_;refine BC E O O O J7 O (λag ay h' o=>C1 (St.all h') cl ay) λag E=>AU ?_;obtain⟨ah,j,E⟩:=bd E;refine AY 4 114 (.bool ah) ?_ ?_
  ·cases ai:ag
   ·have j:=HV ai j;cases j;exact BE O O
   have j:=HU ai j;have cm:=M.fl BB.f_Den;have cn:=cm.i;refine AU ?_;refine BC j O O O Hu O (λco az h' o=>Co (St.all h') cn (iq (n:=1) O) (iq (n:=1125899906842624) O) az) λco j=>AU ?_;cases j;exact AZ O
  refine AU ?_;obtain⟨aj,k,E⟩:=bd E;refine AY 4 119 (.bool aj) ?_ ?_
  ·cases ak:ah
   ·have k:=HV ak k;cases k;exact BE O O
   have k:=HU ak k;have cp:=M.fl P2;have cq:=cp.i;refine AU ?_;refine BC k O O O J7 O (λcr a0 h' o=>C1 (St.all h') cq a0) λcr k=>AU ?_;cases k;exact AZ O
  refine AU ?_;obtain⟨cs,l,E⟩:=bd E;refine AY 4 124 (.bool cs) ?_ ?_
  ·cases al:aj
   ·have l:=HV al l;cases l;exact BE O O
   have l:=HU al l;have ct:=M.fl P3;have cu:=ct.i;refine AU ?_;refine BC l O O O J7 O (λcv a1 h' o=>C1 (St.all h') cu a1) λcv l=>AU ?_;cases l;exact AZ O
  refine AU ?_;exact BZ (kp [2] O) λep ef eq=>RT
 refine AU ?_;refine BJ (AU ?_);refine CV (.inl O) G ?_;have Q:=H.mono J;have cw:=Q.fl BB.f_Num;have cx:=cw.i;refine AU ?_;refine BC E O O O J7 O (λam a2 h' o=>C1 (St.all h') cx a2) λam E=>AU ?_;obtain⟨an,m,E⟩:=bd E;refine AY 4 139 (.bool an) ?_ ?_
 ·cases ao:am
  ·have m:=HV ao m;cases m;exact BE O O
  have m:=HU ao m;have cy:=Q.fl BB.f_Den;have cz:=cy.i;refine AU ?_;refine BC m O O O Hu O (λc0 a3 h' o=>Co (St.all h') cz (iq (n:=1) O) (iq (n:=1125899906842624) O) a3) λc0 m=>AU ?_;cases m;exact AZ O
 refine AU ?_;obtain⟨c1,p,E⟩:=bd E;refine AY 6 146 (.bool c1) ?_ ?_
 ·cases ap:an
  ·have p:=HV ap p;cases p;exact BE O O
  have p:=HU ap p;have c2:=Q.fl J5;have c3:=c2.i;have c4:=Q.fl J6;have c5:=c4.i;refine AU ?_;refine BC p O O O XN O (λc6 a4 h' o=>K4 (St.all h') c3 c5 a4) λc6 p=>AU ?_;cases p;exact AZ O
 refine AU ?_;exact BZ (kp [2] O) λer eg es=>RT
def Ob (l:St S L h) {a:Value}{c:BB}(b:Rd S h CD a c) {r:Bool}(E:Fe N c=some r):
 CM prog 152 #[a] S h (λv S' h'=>v= .bool r∧St S' (L) h'):=by
 refine CM.go 112 func152 O ntmps152 O λB=>?_;rw[Fe] at E;refine AU ?_;refine Cg O b CE O l λn S2 o m p q=>AU ?_;refine AH O E (λd E=>?_) (λd E=>?_)
 ·exact RT
 refine AU ?_;refine AH O E (λg E=>?_) (λg E=>?_)
 ·exact RT
 refine AU ?_;refine AH O E (λi E=>?_) (λi E=>?_)
 ·exact RT
 refine AU ?_;refine AH O E (λj E=>?_) (λj E=>?_)
 ·exact RT
 refine AU ?_;refine AH O E (λk E=>?_) (λk E=>?_)
 ·exact RT
 exact RT
end Go.Proofs.YtabonambpbofgaaGreat
