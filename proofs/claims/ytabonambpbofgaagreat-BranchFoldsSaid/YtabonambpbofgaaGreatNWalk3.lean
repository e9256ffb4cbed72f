import Derived.Test.YtabonambpbofgaaGreatNInst
import Derived.Test.YtabonambpbofgaaGreatNForms
import Derived.Test.YtabonambpbofgaaGreatNSort5
import Derived.Test.YtabonambpbofgaaGreatNSortD
import Derived.Test.YtabonambpbofgaaGreatNWalk1
namespace Go.Proofs.YtabonambpbofgaaGreat
set_option linter.all false
open Go.RowKit
open Go.Proofs.Tryz
set_option maxRecDepth 10000
set_option maxHeartbeats 20000000
variable {N:Nat}{S:Nat→Prop}{L:List HP}{h:AS}
def LC (n:St S L h) {a:Int}(d:AA a) {b:Int}(g:AA b) {r:Bool}(E:Hv N a b=some r):
 CL prog 148 #[vI a,vI b] S h (λv S' h'=>v= .bool r∧St S' (L) h'):=by
 refine CL.go 19 func148 O ntmps148 O λB=>?_;rw[Hv] at E;refine AU ?_;refine CX (.inl O) n (AU ?_);refine BE E O O O KD O (λk i h' o=>Cu (St.all h') d i) λk E=>AU ?_;obtain⟨p,c,E⟩:=bd E;refine AZ 3 10 (.bool p) ?_ ?_
 ·cases l:k
  ·have c:=HX l c;cases c;exact BI O O
  have c:=HW l c;refine AU ?_;refine BE c O O O KD O (λq j h' o=>Cu (St.all h') g j) λq c=>AU ?_;cases c;exact A0 O
 refine AU ?_;exact By (kp [4] O) λt m s=>RT
def IG (i:St S L h) {b:Int}(c:AA b) {a:Int}(d:AA a) {r:Bool}(E:GF N b a=some r):
 CL prog 150 #[vI b,vI a] S h (λv S' h'=>v= .bool r∧St S' (L) h'):=by
 refine CL.go 9 func150 O ntmps150 O λB=>?_;rw[GF] at E;refine AU ?_;refine CX (.inl O) i (AU ?_);refine BE E O O O Hw O (λj g h' o=>Ci (St.all h') c (iq (n:=0) O) (BV _) g) λj E=>AU ?_;exact By (kp [4] O) λl k m=>RT
def N4 (w:St S L h) {d:Value}{j:AF}(i:Rd S h B3 d j) {a:Int}(k:AA a) {b:Int}(g:AA b) {r:Bool}(E:Ju N j a b=some r):
 CL prog 149 #[d,vI a,vI b] S h (λv S' h'=>v= .bool r∧St S' (L) h'):=by
 refine CL.go 21 func149 O ntmps149 O λB=>?_;rw[Ju] at E;refine AU ?_;refine CZ O i CE O w λD S2 F m G x=>AU ?_;refine CX (.inl O) m (AU ?_);obtain⟨y,c,E⟩:=bd E;refine AZ 11 20 (.bool y) ?_ ?_
 ·cases t:(decide (b=(-1)))
  ·have c:=HX t c;have n:=x.fl Cp;obtain⟨z,_,p⟩:=n.ll;have q:=p.le;refine AU ?_;refine BE c O O O Qb O (λs l h' o=>IG (St.all h') g (Ls q) l) λs c=>AU ?_;cases c;exact A0 O
  have c:=HW t c;cases c;exact BI O O
 refine AU ?_;exact By (kp [6] O) λA u C=>RT
def Oo (hs:St S L h) {M:Value}{b:AF}(ab:Rd S h B3 M b) {r:Bool}(E:Hb N b=some r):
 CL prog 76 #[M] S h (λv S' h'=>v= .bool r∧St S' (L) h'):=by
 refine CL.go 122 func76 O ntmps76 O λB=>?_;rw[Hb] at E;refine AU ?_;refine CZ O ab CE O hs λq1 S2 h3 ck e5 k6=>?_;have k8:=k6.fl Cp;obtain⟨v9,_,cl⟩:=k8.ll;refine AU ?_;refine AV (λa w=>∃(ac:Int),IV B S2 h3 (122,[]) a w [(3,vI ac)] (L) λ_ _=>AA ac∧CT N ac=some r) ?_ ?_
 ·refine A9 (λn1=>λa w=>∃(Q:Int) (k:Int),IV B S2 h3 (122,[]) a w [(13,vI (↑b.A.length:Int)),(12,v9),(1,q1),(3,vI Q),(14,vI k)] (L) λ_ _=>AA Q∧AA k∧B6 N b (CT N) n1 Q k=some r) N ?_ ?_ ?_
  ·intro x y d g;exact⟨0,0,_,_,d.sub (kp [13,12,1,3,14] O),g,ck,(CJ.refl S2 h3),(iq (n:=0) O),(iq (n:=0) O),E⟩
  ·rintro x y ⟨_,_,_,_,_,_,_,_,_,_,E⟩;rw[B6] at E;cases E
  rintro n1 x y ⟨Q,k,ad,cm,d,g,af,a1,a2,cn,E⟩;refine AK ?_ d g;clear d g y x;rw[B6] at E;refine AU ?_;refine AH O E (λco E=>?_) (λco E=>?_)
  ·refine AU ?_;refine AV (λa w=>∃(U:Int),IV B ad cm (122,[]) a w [(13,vI (↑b.A.length:Int)),(12,v9),(1,q1),(14,vI k),(3,vI U)] (L) λ_ _=>AA U∧C5 N k (B6 N b (CT N) n1) U=some r) ?_ ?_
   ·refine AU ?_;have cp:=cl.mono' a1;refine BK E O O cp NZ.1 O λc E d8 cq=>?_;obtain⟨d9,_,cr⟩:=cq.lv;refine AU ?_;refine Dp QL O af λae ea a3 cs=>AU ?_;have ct:=cr.mono cs;obtain⟨a4,ak,am,rfl,eb,cu,cv,cw,cx,a5,cy,cz,c0,c1,c2,c3⟩:=B1.ex ct;refine IH O O O ON QO.1 O a3 .head O λec V a6=>AU ?_;refine CX (.inl O) V (AU ?_);refine BE E O O O Hw O (λa7 a8 h' o=>Ci (St.all h') cu (iq (n:=0) O) (iq (n:=3) O) a8) λa7 E=>AU ?_;obtain⟨a9,l,E⟩:=bd E;refine AZ 5 28 (.bool a9) ?_ ?_
    ·cases ba:(!a7)
     ·have l:=HX ba l;refine AU ?_;refine BE l O O O Hw O (λc4 bb h' o=>Ci (St.all h') cv (iq (n:=0) O) (iq (n:=2) O) bb) λc4 l=>AU ?_;cases l;exact A0 O
     have l:=HW ba l;cases l;exact BI O O
    refine AU ?_;obtain⟨bc,m,E⟩:=bd E;refine AZ 5 34 (.bool bc) ?_ ?_
    ·cases be:a9
     ·have m:=HX be m;refine AU ?_;refine BE m O O O Hw O (λc5 bf h' o=>Ci (St.all h') c1 (iq (n:=0) O) (iq (n:=240) O) bf) λc5 m=>AU ?_;cases m;exact A0 O
     have m:=HW be m;cases m;exact BI O O
    refine AU ?_;obtain⟨bg,p,E⟩:=bd E;refine AZ 5 40 (.bool bg) ?_ ?_
    ·cases bh:bc
     ·have p:=HX bh p;refine AU ?_;refine BE p O O O KD O (λc6 bi h' o=>Cu (St.all h') cw bi) λc6 p=>AU ?_;cases p;exact A0 O
     have p:=HW bh p;cases p;exact BI O O
    refine AU ?_;obtain⟨bj,q,E⟩:=bd E;refine AZ 5 46 (.bool bj) ?_ ?_
    ·cases bk:bg
     ·have q:=HX bk q;refine AU ?_;refine BE q O O O KD O (λc7 bl h' o=>Cu (St.all h') c2 bl) λc7 q=>AU ?_;cases q;exact A0 O
     have q:=HW bk q;cases q;exact BI O O
    refine AU ?_;obtain⟨bm,s,E⟩:=bd E;refine AZ 5 52 (.bool bm) ?_ ?_
    ·cases bn:bj
     ·have s:=HX bn s;refine AU ?_;have c8:=cx.mono' a6;refine BE s O O O Qc O (λc9 bo h' o=>IF (St.all h') (c8.mono' (o.all V.1)) bo) λc9 s=>AU ?_;cases s;exact A0 O
     have s:=HW bn s;cases s;exact BI O O
    have ed:=a5.mono' a6;have ee:=k6.nw;refine AU ?_;obtain⟨bp,t,E⟩:=bd E;refine AZ 7 69 (.bool bp) ?_ ?_
    ·cases bq:(bm||(decide ((↑c.An.length:Int)≠(↑b.J.length:Int))))
     ·have t:=HX bq t;refine AU ?_;refine BE t O O O Xf O (λda br h' o=>LC (St.all h') cy cz br) λda t=>AU ?_;cases t;exact A0 O
     have t:=HW bq t;cases t;exact BI O O
    refine AU ?_;obtain⟨db,u,E⟩:=bd E;refine AZ 7 77 (.bool db) ?_ ?_
    ·cases bs:bp
     ·have u:=HX bs u;have dc:=k6.nw;obtain⟨df,_,bt⟩:=dc.lv;refine AU ?_;refine BE u O O O gI O (λbu an h' o=>N4 (St.all h') (bt.mono (o.all V.1)) cn c0 an) λbu u=>AU ?_;cases u;exact A0 O
     have u:=HW bs u;cases u;exact BI O O
    refine By (kp [77,5,13,12,1,3,14] O) λW ao dg=>AH O E (λbv E=>?_) (λbv E=>?_)
    ·exact RT
    have bw:=a5.nw;refine AU ?_;refine AV (λa w=>∃(z:Int),IV B ad W (122,[]) a w [(5,vP ae 0),(13,vI (↑b.A.length:Int)),(12,v9),(1,q1),(14,vI k),(3,vI z)] (Bx ae 133 [.string c.F,vI c.G,vI c.Au,vI c.Av,a4,ak,vI c.Aa,vI c.T,vI c.Ao,vI c.R,vI c.Bi,am]::L) λ_ _=>AA z∧FD N b c (C5 N k (B6 N b (CT N) n1)) z=some r) ?_ ?_
    ·refine A9 (λn4=>λa w=>∃(C:Int) (D:Int),IV B ad W (122,[]) a w [(80,vI (↑c.An.length:Int)),(79,ak),(5,vP ae 0),(13,vI (↑b.A.length:Int)),(12,v9),(1,q1),(14,vI k),(3,vI C),(81,vI D)] (Bx ae 133 [.string c.F,vI c.G,vI c.Au,vI c.Av,a4,ak,vI c.Aa,vI c.T,vI c.Ao,vI c.R,vI c.Bi,am]::L) λ_ _=>AA C∧AA D∧DH N c (FD N b c (C5 N k (B6 N b (CT N) n1))) n4 C D=some r) N ?_ ?_ ?_
     ·intro x y d g;exact⟨Q,0,_,_,d.sub (kp [80,79,5,13,12,1,14,3,81] O),g,ao,(CJ.refl ad W),a2,(iq (n:=0) O),E⟩
     ·rintro x y ⟨_,_,_,_,_,_,_,_,_,_,E⟩;rw[DH] at E;cases E
     rintro n4 x y ⟨C,D,dh,di,d,g,X,ag,bx,dj,E⟩;refine AK ?_ d g;clear d g y x;rw[DH] at E;refine AU ?_;refine AH O E (λbz E=>?_) (λbz E=>?_)
     ·refine AU ?_;refine A6 (AU ?_);have b0:=bw.mono' ag;refine BK E O O b0 Ck.1 O λb1 E dk b2=>?_;have b3:=b2.i;refine AU ?_;refine CX (.inl O) X (AU ?_);refine BE E O O O KD O (λb4 ap h' o=>Cu (St.all h') b3 ap) λb4 E=>AU ?_;refine By (kp [87,7,80,79,5,13,12,1,14,3,81] O) λdl aq dm=>AH O E (λb5 E=>?_) (λb5 E=>?_)
      ·exact RT
      refine AU ?_;refine BP (AU ?_);refine WF.nil (λx y d g=>?_);exact⟨(BT (C+b1)),(BT (D+1)),_,_,d.sub (kp [80,79,5,13,12,1,14,3,81] O),g,aq,EX,(BV _),(BV _),E⟩
     refine BM O (λx y d g=>?_);exact⟨C,_,_,d.sub (kp [5,13,12,1,14,3] O),g,X,ag,bx,E⟩
    rintro x y ⟨z,ah,ai,d,g,ar,dn,b6,E⟩;refine AK ?_ d g;clear d g y x;rw[FD] at E;have b7:=c3.nw;refine AU ?_;refine A6 (A9 (λn5=>λa w=>∃(H:Int) (I:Int),IV B ah ai (122,[]) a w [(94,vI (↑c.S.length:Int)),(93,am),(13,vI (↑b.A.length:Int)),(12,v9),(1,q1),(14,vI k),(3,vI z),(8,vI H),(95,vI I)] (L) λ_ _=>AA H∧AA I∧Ch N b c z (C5 N k (B6 N b (CT N) n1)) n5 H I=some r) N ?_ ?_ ?_)
    ·intro x y d g;have au:=ar.drop .head;exact⟨(-1),0,_,_,d.sub (kp [94,93,13,12,1,14,3,8,95] O),g,au,(CJ.refl ah ai),(iq (n:=(-1)) O),(iq (n:=0) O),E⟩
    ·rintro x y ⟨_,_,_,_,_,_,_,_,_,_,E⟩;rw[Ch] at E;cases E
    rintro n5 x y ⟨H,I,dp,dq,d,g,Y,b8,dr,ds,E⟩;refine AK ?_ d g;clear d g y x;rw[Ch] at E;refine AU ?_;refine AH O E (λb9 E=>?_) (λb9 E=>?_)
    ·refine AU ?_;refine A6 (AU ?_);have ca:=b7.mono' b8;refine BK E O O ca qQ.1 O λZ E dt cb=>?_;obtain⟨du,_,cc⟩:=cb.lv;refine AU ?_;refine Dp pE O Y λdv dw av cd=>?_;have ce:=cc.mono cd;obtain⟨rfl,⟨cf,cg⟩⟩:=KE.ex ce;refine FK O O O O pU.1 O av .head O λdx aw dy=>AU ?_;refine CX (.inl O) aw ?_;have dz:=k6.nw;refine AU ?_;obtain⟨ch,j,E⟩:=bd E;refine AZ 5 115 (.bool ch) ?_ ?_
     ·cases aj:((decide (Z.Bg≤H))||(decide (b.K≤Z.Bg)))
      ·have j:=HX aj j;refine AU ?_;refine BE j O O O KD O (λci ax h' o=>Cu (St.all h') cg ax) λci j=>AU ?_;cases j;exact A0 O
      have j:=HW aj j;cases j;exact BI O O
     refine By (kp [115,10,94,93,13,12,1,14,3,95] O) λd0 ay d1=>AH O E (λcj E=>?_) (λcj E=>?_)
     ·exact RT
     refine AU ?_;refine BP (AU ?_);refine WF.nil (λx y d g=>?_);have az:=ay.drop .head;exact⟨Z.Bg,(BT (I+1)),_,_,d.sub (kp [94,93,13,12,1,14,3,8,95] O),g,az,EX,cf,(BV _),E⟩
    refine JV O (WF.nil (λx y d g=>?_));exact⟨z,_,_,d.sub (kp [13,12,1,14,3] O),g,Y,EX,b6,E⟩
   rintro x y ⟨U,d2,d3,d,g,a0,d4,dd,E⟩;refine AK ?_ d g;clear d g y x;rw[C5] at E;refine AU ?_;refine WF.nil (λx y d g=>?_);exact⟨U,(BT (k+1)),_,_,d.sub (kp [13,12,1,3,14] O),g,a0,EX,dd,(BV _),E⟩
  refine BM O (λx y d g=>?_);exact⟨Q,_,_,d.sub (kp [3] O),g,af,a1,a2,E⟩
 rintro x y ⟨ac,d5,d6,d,g,de,d7,ef,E⟩;refine AK ?_ d g;clear d g y x;rw[CT] at E;exact RT
def SP (X:St S L h) {g:Int}(q:AA g) {i:Value}{p:(Int→Option Bool)}(s:Rd S h (A5.fn prog (λx:Int=>([vI x]:List Value)) (λx:Int=>AA x) (λy:Bool=> .bool y) (λy:Bool=>True)) i p) {r:Int}(E:L8 N g p=some r):
 CL prog 241 #[vI g,i] S h (λv S' h'=>v=vI r∧AA r∧St S' (L) h'):=by
 refine CL.go 26 func241 O ntmps241 O λB=>?_;rw[L8] at E;obtain⟨H,I,rfl,J,K⟩:=s.fn;refine AU ?_;refine AV (λa w=>∃(F:Int),IV B S h (26,[]) a w [(5,vI F)] (L) λ_ _=>AA F∧Jp N F=some r) ?_ ?_
 ·refine A9 (λV=>λa w=>∃(c:Int) (d:Int),IV B S h (26,[]) a w [(1,(.func (.func H) #[] I)),(5,vI c),(6,vI d)] (L) λ_ _=>AA c∧AA d∧HC N p (Jp N) V c d=some r) N ?_ ?_ ?_
  ·intro u z l m;exact⟨0,g,_,_,l.sub (kp [1,5,6] O),m,X,(CJ.refl S h),(iq (n:=0) O),q,E⟩
  ·rintro u z ⟨_,_,_,_,_,_,_,_,_,_,E⟩;rw[HC] at E;cases E
  rintro V u z ⟨c,d,Y,Z,l,m,k,t,C,M,E⟩;refine AK ?_ l m;clear l m z u;rw[HC] at E;refine AU ?_;refine AH O E (λQ E=>?_) (λQ E=>?_)
  ·refine AU ?_;refine A6 (AU ?_);refine JZ O RW XC O (Kf (j:=1) O O O O (JZ O XC RW O (AU ?_)));refine CX (.inl O) k (AU ?_);obtain⟨ab,D,E⟩:=bd E;refine JH O O O J O (λh' o=>K _ h' (λb G=>Acv (k.1 b (t.sub b G)) o.siz) (λb G=>(o.same b (k.1 b (t.sub b G))).trans (t.same b G)) [] (St.all h') _ _ (BV _) D) (AU ?_);refine By (kp [21,7,1,5,6] O) λac A ad=>AH O E (λU E=>?_) (λU E=>?_)
   ·refine AU ?_;refine BP (WF.nil (λu z l m=>?_));exact⟨(BT ((BT (Fu .u64 (IntKind.wrap .u64 (BT (c+d))) 1))+1)),d,_,_,l.sub (kp [1,5,6] O),m,A,EX,(BV _),M,E⟩
   refine AU ?_;refine BP (WF.nil (λu z l m=>?_));exact⟨c,(BT (Fu .u64 (IntKind.wrap .u64 (BT (c+d))) 1)),_,_,l.sub (kp [1,5,6] O),m,A,EX,C,(BV _),E⟩
  refine BM O (λu z l m=>?_);exact⟨c,_,_,l.sub (kp [5] O),m,k,t,C,E⟩
 rintro u z ⟨F,ae,af,l,m,W,ag,r6,E⟩;refine AK ?_ l m;clear l m z u;rw[Jp] at E;exact RT
def RH (l:St S L h) {a:Int}(i:AA a) {b:Value}{g:(List Bz)}(d:Pt S h (A5.sl CG) b g) {c:Value}{c2_:Int}(j:Pt S h AB c c2_) {r:Bool}(E:JL N g c2_ a=some r):
 CL prog 242 #[vI a,b,c] S h (λv S' h'=>v= .bool r∧St S' (L) h'):=by
 refine CL.go 12 func242 O ntmps242 O λB=>?_;rw[JL] at E;refine AU ?_;refine ID (.inr ⟨mo,by kernel_rfl⟩) ?_;obtain⟨v1,_,k⟩:=d.ll;refine AU ?_;exact BK E O O k LR.1 O λm E n o=>RT
def Mp (i:St S L h) {a:Int}(c:IntKind.has .u64 a) {b:Int}(d:IntKind.has .u64 b) {r:Int×Int}(E:IA N a b=some r):
 CL prog 202 #[.int .u64 a,.int .u64 b] S h (λv S' h'=>v= .tuple #[.int .u64 r.1,.int .u64 r.2]∧IntKind.has .u64 r.1∧IntKind.has .u64 r.2∧St S' (L) h'):=by
 refine CL.go 51 func202 O ntmps202 O λB=>?_;rw[IA] at E;refine AU ?_;refine Kf (j:=32) O O O O (AU ?_);refine Kf (j:=32) O O O O (AU ?_);refine Kf (j:=32) O O O O (AU ?_);refine Kf (j:=32) O O O O (AU ?_);refine Kf (j:=32) O O O O (AU ?_);refine CO (λl m g k=>?_);cases E;exact K6 g O k (Iy (J7 g (v:=_) O) (Iy (J7 g (v:=_) O) K5)) O (CJ.refl S h) ⟨O,(Fv _ _),(Fv _ _),i⟩
def P2 (I:St S L h) {d:Int}(g:IntKind.has .u64 d) {r:Int}(E:JQ N d=some r):
 CL prog 243 #[.int .u64 d] S h (λv S' h'=>v=vI r∧AA r∧St S' (L) h'):=by
 refine CL.go 25 func243 O ntmps243 O λB=>?_;rw[JQ] at E;refine AU ?_;refine H6 (λa w=>∃(x:Int) (y:Int),IV B S h (25,[]) a w [(0,.int .u64 x),(2,vI y)] (L) λ_ _=>IntKind.has .u64 x∧AA y∧HG N x y=some r) ?_ ?_
 ·refine AH O E (λM E=>?_) (λM E=>?_)
  ·refine AU ?_;refine Kf (j:=32) O O O O (AU ?_);refine WF.nil (λl m b c=>?_);exact⟨(Fu .u64 d 32),32,_,_,b.sub (kp [0,2] O),c,I,(CJ.refl S h),(Sg _ g _),(iq (n:=32) O),E⟩
  refine AU ?_;refine WF.nil (λl m b c=>?_);exact⟨d,0,_,_,b.sub (kp [0,2] O),c,I,(CJ.refl S h),g,(iq (n:=0) O),E⟩
 rintro l m ⟨x,y,C,D,b,c,z,e9,J,Q,E⟩;refine AK ?_ b c;clear b c m l;rw[HG] at E;refine AU ?_;refine H6 (λa w=>∃(i:Int) (k:Int),IV B C D (25,[]) a w [(0,.int .u64 i),(2,vI k)] (L) λ_ _=>IntKind.has .u64 i∧AA k∧HE N i k=some r) ?_ ?_
 ·refine AH O E (λF E=>?_) (λF E=>?_)
  ·refine AU ?_;refine Kf (j:=16) O O O O (AU ?_);refine WF.nil (λl m b c=>?_);exact⟨(Fu .u64 x 16),(BT (y+16)),_,_,b.sub (kp [0,2] O),c,z,(CJ.refl C D),(Sg _ J _),(BV _),E⟩
  refine AU ?_;refine WF.nil (λl m b c=>?_);exact⟨x,y,_,_,b.sub (kp [0,2] O),c,z,(CJ.refl C D),J,Q,E⟩
 rintro l m ⟨i,k,t,u,b,c,q,U,A,G,E⟩;refine AK ?_ b c;clear b c m l;rw[HE] at E;refine AU ?_;refine H6 (λa w=>∃(o:Int) (p:Int),IV B t u (25,[]) a w [(0,.int .u64 o),(2,vI p)] (L) λ_ _=>IntKind.has .u64 o∧AA p∧HD N o p=some r) ?_ ?_
 ·refine AH O E (λH E=>?_) (λH E=>?_)
  ·refine AU ?_;refine Kf (j:=8) O O O O (AU ?_);refine WF.nil (λl m b c=>?_);exact⟨(Fu .u64 i 8),(BT (k+8)),_,_,b.sub (kp [0,2] O),c,q,(CJ.refl t u),(Sg _ A _),(BV _),E⟩
  refine AU ?_;refine WF.nil (λl m b c=>?_);exact⟨i,k,_,_,b.sub (kp [0,2] O),c,q,(CJ.refl t u),A,G,E⟩
 rintro l m ⟨o,p,V,W,b,c,K,X,Y,Z,E⟩;refine AK ?_ b c;clear b c m l;rw[HD] at E;refine AU ?_;refine JZ O Ni wH O ?_;obtain⟨ab,s,E⟩:=bd E;have ac:=RL s;exact RQ O O Tw s O (JZ O wH RW O (RT))
def Mk (d:St S L h) {a:Int}(b:IntKind.has .u64 a) {r:Int}(E:GB N a=some r):
 CL prog 228 #[.int .u64 a] S h (λv S' h'=>v=vI r∧AA r∧St S' (L) h'):=by
 refine CL.go 6 func228 O ntmps228 O λB=>?_;rw[GB] at E;refine AU ?_;refine CX (.inl O) d (AU ?_);refine DM E O O O sI O (λg c h' o=>P2 (St.all h') b c) λg E i=>?_;have k:=i;refine AU ?_;exact By (kp [2] O) λl j m=>RT
def Mq (hs:St S L h) {d:Int}(X:IntKind.has .u64 d) {b:Int}(x:IntKind.has .u64 b) {c:Int}(D:IntKind.has .u64 c) {r:Int×Int}(E:Gi N d b c=some r):
 CL prog 203 #[.int .u64 d,.int .u64 b,.int .u64 c] S h (λv S' h'=>v= .tuple #[.int .u64 r.1,.int .u64 r.2]∧IntKind.has .u64 r.1∧IntKind.has .u64 r.2∧St S' (L) h'):=by
 refine CL.go 135 func203 O ntmps203 O λB=>?_;rw[Gi] at E;refine AU ?_;refine AH O E (λc1 E=>?_) (λc1 E=>?_)
 ·cases E
 refine AU ?_;refine AH O E (λc2 E=>?_) (λc2 E=>?_)
 ·cases E
 refine AU ?_;refine AH O E (λc3 E=>?_) (λc3 E=>?_)
 ·refine AU ?_;refine ID (.inr ⟨mo,by kernel_rfl⟩) (AU ?_);obtain⟨z4,Y,E⟩:=bd E;have r5:IntKind.has .u64 z4:=O8 Y;refine Va O O O Y (AU ?_);obtain⟨z6,Z,E⟩:=bd E;have r7:IntKind.has .u64 z6:=cU x Z;refine lW O O O Z (AU ?_);refine CO (λq s i l=>?_);cases E;exact K6 i O l (Iy (J7 i (v:=_) O) (Iy (J7 i (v:=_) O) K5)) O (CJ.refl S h) ⟨O,r5,r7,hs⟩
 refine AU ?_;refine CX (.inl O) hs (AU ?_);refine DM E O O O sO O (λF aj h' o=>Mk (St.all h') D aj) λF E r9=>?_;have av:=r9;refine JZ O RW XC O (AU ?_);refine By (kp [8,0,1,2] O) λJ ab aw=>AU ?_;obtain⟨g,ac,E⟩:=bd E;refine VZ (j:=g) O O O ac (AU ?_);refine Kf (j:=32) O O O O (AU ?_);obtain⟨m,ad,E⟩:=bd E;refine VZ (j:=m) O O O ad (AU ?_);obtain⟨n,ae,E⟩:=bd E;refine Kf (j:=n) O O O ae (uU O O O (AU ?_));obtain⟨k,af,E⟩:=bd E;refine VZ (j:=k) O O O af (AU ?_);refine Kf (j:=32) O O O O (AU ?_);obtain⟨K,H,E⟩:=bd E;have ak:IntKind.has .u64 K:=O8 H;refine Va O O O H (AU ?_);refine AV (λa w=>∃(p:Int),IV B S J (135,[]) a w [(14,.int .u64 (IU .and .u64 (Ec .u64 b k) 4294967295)),(13,.int .u64 (Fu .u64 (Ec .u64 b k) 32)),(11,.int .u64 (IU .or .u64 (Ec .u64 d m) (Fu .u64 b n))),(10,.int .u64 (IU .and .u64 (Ec .u64 c g) 4294967295)),(9,.int .u64 (Fu .u64 (Ec .u64 c g) 32)),(2,.int .u64 (Ec .u64 c g)),(8,.int .u64 (IntKind.wrap .u64 F)),(15,.int .u64 p)] (L) λ_ _=>IntKind.has .u64 p∧EQ N d b c F g m n k p=some r) ?_ ?_
 ·refine A9 (λn1=>λa w=>∃(t:Int) (y:Int),IV B S J (135,[]) a w [(14,.int .u64 (IU .and .u64 (Ec .u64 b k) 4294967295)),(13,.int .u64 (Fu .u64 (Ec .u64 b k) 32)),(11,.int .u64 (IU .or .u64 (Ec .u64 d m) (Fu .u64 b n))),(10,.int .u64 (IU .and .u64 (Ec .u64 c g) 4294967295)),(9,.int .u64 (Fu .u64 (Ec .u64 c g) 32)),(2,.int .u64 (Ec .u64 c g)),(8,.int .u64 (IntKind.wrap .u64 F)),(15,.int .u64 t),(16,.int .u64 y)] (L) λ_ _=>IntKind.has .u64 t∧IntKind.has .u64 y∧D3 N b c g k (EQ N d b c F g m n k) n1 t y=some r) N ?_ ?_ ?_
  ·intro q s i l;exact⟨K,(IntKind.wrap .u64 ((IU .or .u64 (Ec .u64 d m) (Fu .u64 b n))-(IntKind.wrap .u64 (K*(Fu .u64 (Ec .u64 c g) 32))))),_,_,i.sub (kp [14,13,11,10,9,2,8,15,16] O),l,ab,(CJ.refl S J),ak,(Fv _ _),E⟩
  ·rintro q s ⟨_,_,_,_,_,_,_,_,_,_,E⟩;rw[D3] at E;cases E
  rintro n1 q s ⟨t,y,ax,ay,i,l,z,M,al,az,E⟩;refine AK ?_ i l;clear i l s q;rw[D3] at E;refine AU ?_;refine AH O E (λam E=>?_) (λam E=>?_)
  ·refine AU ?_;refine A6 (AU ?_);refine AH O E (λan E=>?_) (λan E=>?_)
   ·refine BM O (λq s i l=>?_);exact⟨(IntKind.wrap .u64 (t-1)),_,_,i.sub (kp [14,13,11,10,9,2,8,15] O),l,z,M,(Fv _ _),E⟩
   refine AU ?_;refine BP (WF.nil (λq s i l=>?_));exact⟨(IntKind.wrap .u64 (t-1)),(IntKind.wrap .u64 (y+(Fu .u64 (Ec .u64 c g) 32))),_,_,i.sub (kp [14,13,11,10,9,2,8,15,16] O),l,z,M,(Fv _ _),(Fv _ _),E⟩
  refine BM O (λq s i l=>?_);exact⟨t,_,_,i.sub (kp [14,13,11,10,9,2,8,15] O),l,z,M,al,E⟩
 rintro q s ⟨p,Q,U,i,l,ag,a0,a1,E⟩;refine AK ?_ i l;clear i l s q;rw[EQ] at E;refine AU ?_;obtain⟨V,I,E⟩:=bd E;have ao:IntKind.has .u64 V:=O8 I;refine Va O O O I (AU ?_);refine AV (λa w=>∃(G:Int),IV B Q U (135,[]) a w [(17,.int .u64 (IntKind.wrap .u64 ((IntKind.wrap .u64 ((IntKind.wrap .u64 ((IU .or .u64 (Ec .u64 d m) (Fu .u64 b n))*4294967296))+(Fu .u64 (Ec .u64 b k) 32)))-(IntKind.wrap .u64 (p*(Ec .u64 c g)))))),(14,.int .u64 (IU .and .u64 (Ec .u64 b k) 4294967295)),(2,.int .u64 (Ec .u64 c g)),(8,.int .u64 (IntKind.wrap .u64 F)),(15,.int .u64 p),(18,.int .u64 G)] (L) λ_ _=>IntKind.has .u64 G∧GC N d b c F g m n k p G=some r) ?_ ?_
 ·refine A9 (λn3=>λa w=>∃(A:Int) (u:Int),IV B Q U (135,[]) a w [(17,.int .u64 (IntKind.wrap .u64 ((IntKind.wrap .u64 ((IntKind.wrap .u64 ((IU .or .u64 (Ec .u64 d m) (Fu .u64 b n))*4294967296))+(Fu .u64 (Ec .u64 b k) 32)))-(IntKind.wrap .u64 (p*(Ec .u64 c g)))))),(14,.int .u64 (IU .and .u64 (Ec .u64 b k) 4294967295)),(10,.int .u64 (IU .and .u64 (Ec .u64 c g) 4294967295)),(9,.int .u64 (Fu .u64 (Ec .u64 c g) 32)),(2,.int .u64 (Ec .u64 c g)),(8,.int .u64 (IntKind.wrap .u64 F)),(15,.int .u64 p),(16,.int .u64 A),(18,.int .u64 u)] (L) λ_ _=>IntKind.has .u64 A∧IntKind.has .u64 u∧EO N b c g k (GC N d b c F g m n k p) n3 A u=some r) N ?_ ?_ ?_
  ·intro q s i l;exact⟨(IntKind.wrap .u64 ((IntKind.wrap .u64 ((IntKind.wrap .u64 ((IntKind.wrap .u64 ((IU .or .u64 (Ec .u64 d m) (Fu .u64 b n))*4294967296))+(Fu .u64 (Ec .u64 b k) 32)))-(IntKind.wrap .u64 (p*(Ec .u64 c g)))))-(IntKind.wrap .u64 (V*(Fu .u64 (Ec .u64 c g) 32))))),V,_,_,i.sub (kp [17,14,10,9,2,8,15,16,18] O),l,ag,(CJ.refl Q U),(Fv _ _),ao,E⟩
  ·rintro q s ⟨_,_,_,_,_,_,_,_,_,_,E⟩;rw[EO] at E;cases E
  rintro n3 q s ⟨A,u,a2,a3,i,l,C,W,a4,ap,E⟩;refine AK ?_ i l;clear i l s q;rw[EO] at E;refine AU ?_;refine AH O E (λaq E=>?_) (λaq E=>?_)
  ·refine AU ?_;refine A6 (AU ?_);refine AH O E (λar E=>?_) (λar E=>?_)
   ·refine BM O (λq s i l=>?_);exact⟨(IntKind.wrap .u64 (u-1)),_,_,i.sub (kp [17,14,2,8,15,18] O),l,C,W,(Fv _ _),E⟩
   refine AU ?_;refine BP (WF.nil (λq s i l=>?_));exact⟨(IntKind.wrap .u64 (A+(Fu .u64 (Ec .u64 c g) 32))),(IntKind.wrap .u64 (u-1)),_,_,i.sub (kp [17,14,10,9,2,8,15,16,18] O),l,C,W,(Fv _ _),(Fv _ _),E⟩
  refine BM O (λq s i l=>?_);exact⟨u,_,_,i.sub (kp [17,14,2,8,15,18] O),l,C,W,ap,E⟩
 rintro q s ⟨G,a5,a6,i,l,ah,a7,a8,E⟩;refine AK ?_ i l;clear i l s q;rw[GC] at E;refine AU ?_;obtain⟨au,ai,E⟩:=bd E;refine Kf (j:=au) O O O ai (AU ?_);refine CO (λq s i l=>?_);cases E;exact K6 i O l (Iy (J7 i (v:=_) O) (Iy (J7 i (v:=_) O) K5)) O EX ⟨O,(Fv _ _),(Sg _ (Fv _ _) _),ah⟩
def J9 (F:St S L h) {d:Int}(s:AA d) {a:Int}(l:AA a) {b:Int}(m:AA b) {r:Int×Int×Bool}(E:Gt N d a b=some r):
 CL prog 195 #[vI d,vI a,vI b] S h (λv S' h'=>v= .tuple #[vI r.1,vI r.2.1,.bool r.2.2]∧AA r.1∧AA r.2.1∧St S' (L) h'):=by
 refine CL.go 61 func195 O ntmps195 O λB=>?_;rw[Gt] at E;refine AU ?_;refine AH O E (λG E=>?_) (λG E=>?_)
 ·refine AU ?_;refine CO (λu w c k=>?_);cases E;exact K6 c O k (Iy (J7 c (v:=_) O) (Iy (J7 c (v:=_) O) (Iy (J7 c (v:=_) O) K5))) O (CJ.refl S h) ⟨O,(iq (n:=0) O),(iq (n:=0) O),F⟩
 refine AU ?_;refine CX (.inl O) F (AU ?_);refine JZ O RW Ni O (AU ?_);refine JZ O RW Ni O ?_;obtain⟨t,x,E⟩:=bd E;refine KA (v:= .tuple #[.int .u64 t.1,.int .u64 t.2]) (Ψ:=IntKind.has .u64 t.1∧IntKind.has .u64 t.2) O O O fX O (λh' o=>(Mp (St.all h') (Fv _ _) (Fv _ _) x).mono λ_ _ _ _ p=>⟨p.1,⟨p.2.1,p.2.2.1⟩⟩) λH=>?_;obtain⟨I,y⟩:=H;refine AU ?_;refine By (kp [10,9,2] O) λJ i z=>AU ?_;refine JZ O RW Ni O (AU ?_);refine AH O E (λA E=>?_) (λA E=>?_)
 ·refine AU ?_;refine CO (λu w c k=>?_);cases E;exact K6 c O k (Iy (J7 c (v:=_) O) (Iy (J7 c (v:=_) O) (Iy (J7 c (v:=_) O) K5))) O z ⟨O,(iq (n:=0) O),(iq (n:=0) O),i⟩
 refine AU ?_;refine CX (.inl O) i (AU ?_);refine JZ O RW Ni O ?_;obtain⟨g,q,E⟩:=bd E;refine KA (v:= .tuple #[.int .u64 g.1,.int .u64 g.2]) (Ψ:=IntKind.has .u64 g.1∧IntKind.has .u64 g.2) O O O fW O (λh' o=>(Mq (St.all h') I y (Fv _ _) q).mono λ_ _ _ _ p=>⟨p.1,⟨p.2.1,p.2.2.1⟩⟩) λC=>?_;obtain⟨K,M⟩:=C;refine AU ?_;refine By (kp [12,11] O) λQ j U=>AU ?_;refine AH O E (λD E=>?_) (λD E=>?_)
 ·refine AU ?_;refine CO (λu w c k=>?_);cases E;exact K6 c O k (Iy (J7 c (v:=_) O) (Iy (J7 c (v:=_) O) (Iy (J7 c (v:=_) O) K5))) O EX ⟨O,(iq (n:=0) O),(iq (n:=0) O),j⟩
 refine AU ?_;refine JZ O Ni RW O (AU ?_);refine JZ O Ni RW O (AU ?_);refine CO (λu w c k=>?_);cases E;exact K6 c O k (Iy (J7 c (v:=_) O) (Iy (J7 c (v:=_) O) (Iy (J7 c (v:=_) O) K5))) O EX ⟨O,(BV _),(BV _),j⟩
def Ml (J:St S L h) {b:Value}{c:(List Bz)}(j:Sl S h CG b c) {a:Int}(k:AA a) {r:Int×Bool}(E:Jf N c a=some r):
 CL prog 227 #[b,vI a] S h (λv S' h'=>v= .tuple #[vI r.1,.bool r.2]∧AA r.1∧St S' (L) h'):=by
 refine CL.go 63 func227 O ntmps227 O λB=>?_;rw[Jf] at E;refine AU ?_;refine CZ O (KH j) (λ_=>rfl) O J λq1 S2 h3 K e5 k6=>CZ O (⟨_,O,O,k⟩:Rd _ _ AB _ a) (λ_=>rfl) O K λq7 S8 h9 m M s=>AU ?_;refine CX (.inl O) m ?_;have l:=k6.mono M;obtain⟨ap,_,Q⟩:=l.ll;have U:=Q.le;refine AU ?_;refine Rv O O O ?_;have t:Rd S8 h9 (A5.fn prog (λx:Int=>([vI x]:List Value)) (λx:Int=>AA x) (λy:Bool=> .bool y) (λy:Bool=>True)) (.func (.func 242) #[] #[q1,q7]) (λx=>JL N c a x):=Rd.ofFn 242 #[q1,q7] sJ λS' h' s' e' L J x y h1 h2=>(RH J h1 (l.mono'' s' e') (s.mono'' s' e') h2).mono λ_ _ _ _ p=>⟨p.1,trivial,p.2⟩
 refine DM E O O O sK O (λV u h' o=>SP (St.all h') (Ls U) (t.mono (o.all m.1)) u) λV E W=>?_;have aq:=W;refine AU ?_;refine By (kp [6,3,2] O) λar n w=>AU ?_;refine AH O E (λX E=>?_) (λX E=>?_)
 ·have Y:=l.mono w;obtain⟨au,_,Z⟩:=Y.ll;refine AU ?_;refine BK E O O Z LR.1 O λav E aw ab=>?_;have ac:=ab.fl Tq;have ad:=ac.i;refine AU ?_;refine CO (λaa ww d z=>?_);cases E;exact K6 d O z (Iy (J7 d (v:=_) O) (Iy (J7 d (v:=_) O) K5)) O EX ⟨O,ad,n⟩
 have A:=l.mono w;obtain⟨ax,_,ae⟩:=A.ll;refine AU ?_;refine BK E O O ae LR.1 O λay E az af=>?_;obtain⟨a0,_,ag⟩:=af.lv;refine AU ?_;refine Dp Uq O n λa1 a2 C ah=>?_;have ai:=ag.mono ah;obtain⟨rfl,⟨a3,aj⟩⟩:=CG.ex ai;refine FK O O O O Ut.1 O C .head O λa4 q a5=>?_;have D:=A.nw;refine AU ?_;refine AH O E (λak E=>?_) (λak E=>?_)
 ·refine AU ?_;refine CO (λaa ww d z=>?_);have F:=q.drop .head;cases E;exact K6 d O z (Iy (J7 d (v:=_) O) (Iy (J7 d (v:=_) O) K5)) O EX ⟨O,aj,F⟩
 refine AU ?_;refine CX (.inr ⟨mo,by kernel_rfl⟩) q ?_;have a6:=s.nw;obtain⟨a7,_,am⟩:=D.ll;refine AU ?_;refine BK E O O am LR.1 O λa8 E a9 ba=>?_;obtain⟨bb,_,an⟩:=D.ll;refine AU ?_;refine BK E O O an LR.1 O λbc E be bf=>AU ?_;obtain⟨g,G,E⟩:=bd E;refine KA (v:= .tuple #[vI g.1,vI g.2.1,.bool g.2.2]) (Ψ:=AA g.1∧AA g.2.1) O O O Td O (λh' o=>(J9 (St.all h') (BV _) (BV _) (BV _) G).mono λ_ _ _ _ p=>⟨p.1,⟨p.2.1,p.2.2.1⟩⟩) λao=>?_;obtain⟨bg,bh⟩:=ao;refine AU ?_;refine By (kp [9,8,7] O) λbi H bj=>AU ?_;refine CO (λaa ww d z=>?_);have I:=H.drop .head;cases E;exact K6 d O z (Iy (J7 d (v:=_) O) (Iy (J7 d (v:=_) O) K5)) O EX ⟨O,(BV _),I⟩
def Oc (W:St S L h) {b:Value}{d:(List Bz)}(k:Sl S h CG b d) {c:Value}{g:(List Bz)}(l:Sl S h CG c g) {r:Bool}(E:Id N d g=some r):
 CL prog 201 #[b,c] S h (λv S' h'=>v= .bool r∧St S' (L) h'):=by
 refine CL.go 66 func201 O ntmps201 O λB=>?_;rw[Id] at E;refine AU ?_;refine CX (.inl O) W (AU ?_);refine BE E O O O Qc O (λy1 X h' o=>IF (St.all h') (k.mono' (o.all W.1)) X) λy1 E=>AU ?_;obtain⟨b4,m,E⟩:=bd E;refine AZ 4 20 (.bool b4) ?_ ?_
 ·cases c3:(!y1)
  ·have m:=HX c3 m;refine AU ?_;refine BE m O O O Qc O (λy5 Y h' o=>IF (St.all h') (l.mono' (o.all W.1)) Y) λy5 m=>AU ?_;cases m;exact A0 O
  have m:=HW c3 m;cases m;exact BI O O
 refine By (kp [20,0,1] O) λZ ab e9=>AH O E (λac E=>?_) (λac E=>?_)
 ·exact RT
 have ad:=k.mono' e9;refine AU ?_;refine AV (λa w=>IV B S Z (66,[]) a w [(0,b),(1,c)] (L) λ_ _=>HJ N d g=some r) ?_ ?_
 ·refine A9 (λn1=>λa w=>∃(s:Int),IV B S Z (66,[]) a w [(22,vI (↑d.length:Int)),(21,b),(0,b),(1,c),(23,vI s)] (L) λ_ _=>AA s∧HI N d g (HJ N d g) n1 s=some r) N ?_ ?_ ?_
  ·intro p q i j;exact⟨0,_,_,i.sub (kp [22,21,0,1,23] O),j,ab,(CJ.refl S Z),(iq (n:=0) O),E⟩
  ·rintro p q ⟨_,_,_,_,_,_,_,_,E⟩;rw[HI] at E;cases E
  rintro n1 p q ⟨s,a7,a8,i,j,u,D,a9,E⟩;refine AK ?_ i j;clear i j q p;rw[HI] at E;refine AU ?_;refine AH O E (λae E=>?_) (λae E=>?_)
  ·refine AU ?_;refine A6 (AU ?_);have af:=ad.mono' D;refine BK E O O af LR.1 O λba E bb ag=>?_;obtain⟨bc,_,ah⟩:=ag.lv;refine AU ?_;refine Dp Uq O u λbe bf F ai=>?_;have aj:=ah.mono ai;obtain⟨rfl,⟨ak,bg⟩⟩:=CG.ex aj;refine FK O O O O Ut.1 O F .head O λbh x bi=>AU ?_;refine CX (.inl O) x (AU ?_);have am:=l.nw;refine DM E O O O Xe O (λan G h' o=>Ml (St.all h') (am.mono' (o.all x.1)) ak G) λan E ao=>?_;have bj:=ao;refine AU ?_;refine By (kp [7,6,22,21,0,1,23] O) λbk H bl=>AU ?_;refine AH O E (λap E=>?_) (λap E=>?_)
   ·exact RT
   refine AU ?_;refine BP (AU ?_);refine WF.nil (λp q i j=>?_);have I:=H.drop .head;exact⟨(BT (s+1)),_,_,i.sub (kp [22,21,0,1,23] O),j,I,EX,(BV _),E⟩
  refine BM O (λp q i j=>?_);exact⟨_,_,i.sub (kp [0,1] O),j,u,D,E⟩
 rintro p q ⟨A,C,i,j,J,bm,E⟩;refine AK ?_ i j;clear i j q p;rw[HJ] at E;have aq:=l.nw;refine AU ?_;refine AV (λa w=>IV B A C (66,[]) a w [] (L) λ_ _=>Ih N=some r) ?_ ?_
 ·refine A9 (λn3=>λa w=>∃(t:Int),IV B A C (66,[]) a w [(40,vI (↑g.length:Int)),(39,c),(0,b),(41,vI t)] (L) λ_ _=>AA t∧HH N d g (Ih N) n3 t=some r) N ?_ ?_ ?_
  ·intro p q i j;exact⟨0,_,_,i.sub (kp [40,39,0,41] O),j,J,(CJ.refl A C),(iq (n:=0) O),E⟩
  ·rintro p q ⟨_,_,_,_,_,_,_,_,E⟩;rw[HH] at E;cases E
  rintro n3 p q ⟨t,bn,bo,i,j,y,K,bp,E⟩;refine AK ?_ i j;clear i j q p;rw[HH] at E;refine AU ?_;refine AH O E (λar E=>?_) (λar E=>?_)
  ·refine AU ?_;refine A6 (AU ?_);have au:=aq.mono' K;refine BK E O O au LR.1 O λbq E br av=>?_;obtain⟨bs,_,aw⟩:=av.lv;refine AU ?_;refine Dp Uq O y λbt bu M ax=>?_;have ay:=aw.mono ax;obtain⟨rfl,⟨az,bv⟩⟩:=CG.ex ay;refine FK O O O O Ut.1 O M .head O λbw z bx=>AU ?_;refine CX (.inl O) z (AU ?_);have a0:=k.nw;refine DM E O O O Xe O (λa1 Q h' o=>Ml (St.all h') (a0.mono' (o.all z.1)) az Q) λa1 E a2=>?_;have bz:=a2;refine AU ?_;refine By (kp [12,11,10,40,39,0,41] O) λb0 U b1=>AU ?_;refine AH O E (λa3 E=>?_) (λa3 E=>?_)
   ·exact RT
   refine AU ?_;refine BP (AU ?_);refine WF.nil (λp q i j=>?_);have V:=U.drop .head;exact⟨(BT (t+1)),_,_,i.sub (kp [40,39,0,41] O),j,V,EX,(BV _),E⟩
  refine BM O (λp q i j=>?_);exact⟨_,_,i.sub R5,j,y,K,E⟩
 rintro p q ⟨b2,a5,i,j,a4,a6,E⟩;refine AK ?_ i j;clear i j q p;rw[Ih] at E;exact RT
def Ot (hs:St S L h) {I:Value}{D:BC}(W:Rd S h CB I D) {r:Bool}(E:Gd N D=some r):
 CL prog 151 #[I] S h (λv S' h'=>v= .bool r∧St S' (L) h'):=by
 refine CL.go 152 func151 O ntmps151 O λB=>?_;rw[Gd] at E;refine AU ?_;refine CZ O W CE O hs λq1 S2 h3 C e5 H=>AU ?_;refine A6 (AU ?_);refine AH O E (λc7 E=>?_) (λc7 E=>?_)
 ·refine AU ?_;refine CX (.inl O) C ?_;have c8:=H.fl Kg;obtain⟨eu,_,c9⟩:=c8.ll;refine AU ?_;refine BE E O O O Qc O (λa5 a6 h' o=>IF (St.all h') (c9.mono' (o.all C.1)) a6) λa5 E=>AU ?_;obtain⟨a7,q,E⟩:=bd E;refine AZ 5 15 (.bool a7) ?_ ?_
  ·cases a8:a5
   ·have q:=HX a8 q;cases q;exact BI O O
   have q:=HW a8 q;have da:=H.fl IX;have db:=da.fl OX;obtain⟨ev,_,dc⟩:=db.ll;refine AU ?_;refine BE q O O O Qc O (λdd a9 h' o=>IF (St.all h') (dc.mono' (o.all C.1)) a9) λdd q=>AU ?_;cases q;exact A0 O
  refine AU ?_;obtain⟨ba,s,E⟩:=bd E;refine AZ 5 21 (.bool ba) ?_ ?_
  ·cases bb:a7
   ·have s:=HX bb s;cases s;exact BI O O
   have s:=HW bb s;have de:=H.fl IX;have df:=de.fl OY;obtain⟨ew,_,dg⟩:=df.ll;refine AU ?_;refine BE s O O O Qc O (λdh bc h' o=>IF (St.all h') (dg.mono' (o.all C.1)) bc) λdh s=>AU ?_;cases s;exact A0 O
  refine AU ?_;obtain⟨be,t,E⟩:=bd E;refine AZ 7 29 (.bool be) ?_ ?_
  ·cases bf:ba
   ·have t:=HX bf t;cases t;exact BI O O
   have t:=HW bf t;have di:=H.fl IX;have dj:=di.fl OX;obtain⟨ex,_,dk⟩:=dj.ll;have dl:=H.fl Kg;obtain⟨ey,_,dm⟩:=dl.ll;refine AU ?_;refine BE t O O O fY O (λdn bg h' o=>Oc (St.all h') (dk.mono' (o.all C.1)) (dm.mono' (o.all C.1)) bg) λdn t=>AU ?_;cases t;exact A0 O
  refine AU ?_;obtain⟨bh,u,E⟩:=bd E;refine AZ 7 37 (.bool bh) ?_ ?_
  ·cases bi:be
   ·have u:=HX bi u;cases u;exact BI O O
   have u:=HW bi u;have dp:=H.fl Kg;obtain⟨ez,_,dq⟩:=dp.ll;have dr:=H.fl IX;have ds:=dr.fl OY;obtain⟨e0,_,dt⟩:=ds.ll;refine AU ?_;refine BE u O O O fY O (λdu bj h' o=>Oc (St.all h') (dq.mono' (o.all C.1)) (dt.mono' (o.all C.1)) bj) λdu u=>AU ?_;cases u;exact A0 O
  refine AU ?_;obtain⟨bk,x,E⟩:=bd E;refine AZ 4 42 (.bool bk) ?_ ?_
  ·cases bl:bh
   ·have x:=HX bl x;cases x;exact BI O O
   have x:=HW bl x;have dv:=H.fl Gk;have dw:=dv.i;refine AU ?_;refine BE x O O O Hw O (λdx bm h' o=>Ci (St.all h') dw (iq (n:=0) O) (iq (n:=64) O) bm) λdx x=>AU ?_;cases x;exact A0 O
  refine AU ?_;obtain⟨bn,y,E⟩:=bd E;refine AZ 6 49 (.bool bn) ?_ ?_
  ·cases bo:bk
   ·have y:=HX bo y;cases y;exact BI O O
   have y:=HW bo y;have dy:=H.fl Kw;have dz:=dy.i;have d0:=H.fl Gk;have d1:=d0.i;refine AU ?_;refine BE y O O O Hw O (λd2 bp h' o=>Ci (St.all h') dz (iq (n:=0) O) d1 bp) λd2 y=>AU ?_;cases y;exact A0 O
  refine AU ?_;obtain⟨bq,z,E⟩:=bd E;refine AZ 4 54 (.bool bq) ?_ ?_
  ·cases br:bn
   ·have z:=HX br z;cases z;exact BI O O
   have z:=HW br z;have d3:=H.fl OV;have d4:=d3.i;refine AU ?_;refine BE z O O O KD O (λd5 bs h' o=>Cu (St.all h') d4 bs) λd5 z=>AU ?_;cases z;exact A0 O
  refine AU ?_;obtain⟨d6,A,E⟩:=bd E;refine AZ 6 61 (.bool d6) ?_ ?_
  ·cases bt:bq
   ·have A:=HX bt A;cases A;exact BI O O
   have A:=HW bt A;have d7:=H.fl KB;have d8:=d7.i;have d9:=H.fl KC;have ea:=d9.i;refine AU ?_;refine BE A O O O Xf O (λeb bu h' o=>LC (St.all h') d8 ea bu) λeb A=>AU ?_;cases A;exact A0 O
  refine AU ?_;exact By (kp [2] O) λeh ec ei=>RT
 refine AU ?_;refine H6 (λa w=>∃(U:Bool),IV B S2 h3 (152,[]) a w [(4,vI D.G),(1,q1),(72,.bool U)] (L) λ_ _=>EW N D U=some r) ?_ ?_
 ·refine AH O E (λbv E=>?_) (λbv E=>?_)
  ·refine AU ?_;refine WF.nil (λaa ww hf hw=>?_);exact⟨(decide (D.G=1)),_,_,hf.sub (kp [4,1,72] O),hw,C,(CJ.refl S2 h3),E⟩
  refine AU ?_;refine WF.nil (λaa ww hf hw=>?_);exact⟨(decide (D.G=5)),_,_,hf.sub (kp [4,1,72] O),hw,C,(CJ.refl S2 h3),E⟩
 rintro aa ww ⟨U,ej,ek,hf,hw,F,J,E⟩;refine AK ?_ hf hw;clear hf hw ww aa;rw[EW] at E;refine AH O E (λbw E=>?_) (λbw E=>?_)
 ·refine AU ?_;refine CX (.inl O) F ?_;have V:=H.mono J;have bx:=V.fl Np;have bz:=bx.i;refine AU ?_;refine BE E O O O KD O (λX aq h' o=>Cu (St.all h') bz aq) λX E=>AU ?_;obtain⟨Y,b,E⟩:=bd E;refine AZ 4 82 (.bool Y) ?_ ?_
  ·cases Z:X
   ·have b:=HX Z b;cases b;exact BI O O
   have b:=HW Z b;have b0:=V.fl BC.f_Num;have b1:=b0.i;refine AU ?_;refine BE b O O O KD O (λb2 ar h' o=>Cu (St.all h') b1 ar) λb2 b=>AU ?_;cases b;exact A0 O
  refine AU ?_;obtain⟨b3,c,E⟩:=bd E;refine AZ 4 87 (.bool b3) ?_ ?_
  ·cases ab:Y
   ·have c:=HX ab c;cases c;exact BI O O
   have c:=HW ab c;have b4:=V.fl BC.f_Den;have b5:=b4.i;refine AU ?_;refine BE c O O O Hw O (λb6 au h' o=>Ci (St.all h') b5 (iq (n:=1) O) (iq (n:=1125899906842624) O) au) λb6 c=>AU ?_;cases c;exact A0 O
  refine AU ?_;exact By (kp [2] O) λel ed em=>RT
 refine AU ?_;refine AH O E (λb7 E=>?_) (λb7 E=>?_)
 ·refine AU ?_;refine CX (.inl O) F ?_;have K:=H.mono J;have b8:=K.fl BC.f_Num;have b9:=b8.i;refine AU ?_;refine BE E O O O KD O (λac av h' o=>Cu (St.all h') b9 av) λac E=>AU ?_;obtain⟨ad,d,E⟩:=bd E;refine AZ 4 97 (.bool ad) ?_ ?_
  ·cases ae:ac
   ·have d:=HX ae d;cases d;exact BI O O
   have d:=HW ae d;have ca:=K.fl Gk;have cb:=ca.i;refine AU ?_;refine BE d O O O Hw O (λcc aw h' o=>Ci (St.all h') cb (iq (n:=1) O) (iq (n:=64) O) aw) λcc d=>AU ?_;cases d;exact A0 O
  refine AU ?_;obtain⟨cd,g,E⟩:=bd E;refine AZ 6 104 (.bool cd) ?_ ?_
  ·cases af:ad
   ·have g:=HX af g;cases g;exact BI O O
   have g:=HW af g;have ce:=K.fl Kw;have cf:=ce.i;have cg:=K.fl Gk;have ch:=cg.i;refine AU ?_;refine BE g O O O Hw O (λci ax h' o=>Ci (St.all h') cf (iq (n:=0) O) ch ax) λci g=>AU ?_;cases g;exact A0 O
  refine AU ?_;exact By (kp [2] O) λen ee eo=>RT
 refine AU ?_;refine AH O E (λcj E=>?_) (λcj E=>?_)
 ·refine AU ?_;refine CX (.inl O) F ?_;have M:=H.mono J;have ck:=M.fl BC.f_Num;have cl:=ck.i;refine AU ?_;refine BE E O O O KD O (λag ay h' o=>Cu (St.all h') cl ay) λag E=>AU ?_;obtain⟨ah,j,E⟩:=bd E;refine AZ 4 114 (.bool ah) ?_ ?_
  ·cases ai:ag
   ·have j:=HX ai j;cases j;exact BI O O
   have j:=HW ai j;have cm:=M.fl BC.f_Den;have cn:=cm.i;refine AU ?_;refine BE j O O O Hw O (λco az h' o=>Ci (St.all h') cn (iq (n:=1) O) (iq (n:=1125899906842624) O) az) λco j=>AU ?_;cases j;exact A0 O
  refine AU ?_;obtain⟨aj,k,E⟩:=bd E;refine AZ 4 119 (.bool aj) ?_ ?_
  ·cases ak:ah
   ·have k:=HX ak k;cases k;exact BI O O
   have k:=HW ak k;have cp:=M.fl QH;have cq:=cp.i;refine AU ?_;refine BE k O O O KD O (λcr a0 h' o=>Cu (St.all h') cq a0) λcr k=>AU ?_;cases k;exact A0 O
  refine AU ?_;obtain⟨cs,l,E⟩:=bd E;refine AZ 4 124 (.bool cs) ?_ ?_
  ·cases al:aj
   ·have l:=HX al l;cases l;exact BI O O
   have l:=HW al l;have ct:=M.fl QI;have cu:=ct.i;refine AU ?_;refine BE l O O O KD O (λcv a1 h' o=>Cu (St.all h') cu a1) λcv l=>AU ?_;cases l;exact A0 O
  refine AU ?_;exact By (kp [2] O) λep ef eq=>RT
 refine AU ?_;refine BP (AU ?_);refine CX (.inl O) F ?_;have Q:=H.mono J;have cw:=Q.fl BC.f_Num;have cx:=cw.i;refine AU ?_;refine BE E O O O KD O (λam a2 h' o=>Cu (St.all h') cx a2) λam E=>AU ?_;obtain⟨an,m,E⟩:=bd E;refine AZ 4 139 (.bool an) ?_ ?_
 ·cases ao:am
  ·have m:=HX ao m;cases m;exact BI O O
  have m:=HW ao m;have cy:=Q.fl BC.f_Den;have cz:=cy.i;refine AU ?_;refine BE m O O O Hw O (λc0 a3 h' o=>Ci (St.all h') cz (iq (n:=1) O) (iq (n:=1125899906842624) O) a3) λc0 m=>AU ?_;cases m;exact A0 O
 refine AU ?_;obtain⟨c1,p,E⟩:=bd E;refine AZ 6 146 (.bool c1) ?_ ?_
 ·cases ap:an
  ·have p:=HX ap p;cases p;exact BI O O
  have p:=HW ap p;have c2:=Q.fl KB;have c3:=c2.i;have c4:=Q.fl KC;have c5:=c4.i;refine AU ?_;refine BE p O O O Xf O (λc6 a4 h' o=>LC (St.all h') c3 c5 a4) λc6 p=>AU ?_;cases p;exact A0 O
 refine AU ?_;exact By (kp [2] O) λer eg es=>RT
def Om (l:St S L h) {a:Value}{c:BC}(b:Rd S h CB a c) {r:Bool}(E:Fh N c=some r):
 CL prog 152 #[a] S h (λv S' h'=>v= .bool r∧St S' (L) h'):=by
 refine CL.go 112 func152 O ntmps152 O λB=>?_;rw[Fh] at E;refine AU ?_;refine CZ O b CE O l λn S2 o m p q=>AU ?_;refine AH O E (λd E=>?_) (λd E=>?_)
 ·exact RT
 refine AU ?_;refine AH O E (λg E=>?_) (λg E=>?_)
 ·exact RT
 refine AU ?_;refine AH O E (λi E=>?_) (λi E=>?_)
 ·exact RT
 refine AU ?_;refine AH O E (λj E=>?_) (λj E=>?_)
 ·exact RT
 refine AU ?_;refine AH O E (λk E=>?_) (λk E=>?_)
 ·exact RT
 exact RT
end Go.Proofs.YtabonambpbofgaaGreat
