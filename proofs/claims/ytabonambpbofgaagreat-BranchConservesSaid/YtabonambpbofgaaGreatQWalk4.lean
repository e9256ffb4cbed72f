import Derived.Test.YtabonambpbofgaaGreatQInst
import Derived.Test.YtabonambpbofgaaGreatQForms
import Derived.Test.YtabonambpbofgaaGreatQWalk1
import Derived.Test.YtabonambpbofgaaGreatQSortD
namespace Go.Proofs.YtabonambpbofgaaGreat
set_option linter.all false
open Go.RowKit
open Go.Proofs.Tryz
set_option maxRecDepth 10000
set_option maxHeartbeats 20000000
variable {r:Bool}{a b c2_ d:Int}{I K ah c j m:Value}{p:Int->Option Bool}{c1_ g:List B3}{D:BG}{k:AF}
variable{N:Nat}{S:Nat->Prop}{L:List HP}{h:AV}
def L0(n:St S L h)(d:AB a)(g:AB b)(E:II N a b=some r):
 CG prog 148 #[vI a,vI b] S h (λv S' h'=>v= .bool r/\St S' (L) h'):=by
 refine CG.go 19 func148 O ntmps148 O λB=>?_;rw[II]at E;refine AU ?_;refine CP (.inl O) n (AU ?_);refine BD E O O O Kq O (λk i h' o=>Cs (St.all h') d i) λk E=>AU ?_;obtain⟨p,c,E⟩:=bd E;refine A3 3 10 (.bool p) ?_ ?_
 ·cases l:k
  ·have c:=Hl l c;cases c;exact BK O O
  have c:=Hk l c;refine AU ?_;refine BD c O O O Kq O (λq j h' o=>Cs (St.all h') g j) λq c=>AU ?_;cases c;exact A4 O
 refine AU ?_;exact BW (kp [4] O) λt m s=>RT
def Ig(i:St S L h)(c:AB b)(d:AB a)(E:GQ N b a=some r):
 CG prog 150 #[vI b,vI a] S h (λv S' h'=>v= .bool r/\St S' (L) h'):=by
 refine CG.go 9 func150 O ntmps150 O λB=>?_;rw[GQ]at E;refine AU ?_;refine CP (.inl O) i (AU ?_);refine BD E O O O IJ O (λj g h' o=>Cd (St.all h') c (iq (n:=0) O) (BQ _) g) λj E=>AU ?_;exact BW (kp [4] O) λl k m=>RT
def O0(w:St S L h){d:Value}{j:AF}(i:Rd S h Bz d j)(k:AB a)(g:AB b)(E:KO N j a b=some r):
 CG prog 149 #[d,vI a,vI b] S h (λv S' h'=>v= .bool r/\St S' (L) h'):=by
 refine CG.go 21 func149 O ntmps149 O λB=>?_;rw[KO]at E;refine AU ?_;refine CC O i CE O w λD S2 F m G x=>AU ?_;refine CP (.inl O) m (AU ?_);obtain⟨y,c,E⟩:=bd E;refine A3 11 20 (.bool y) ?_ ?_
 ·cases t:(decide (b=(-1)))
  ·have c:=Hl t c;have n:=x.fl Ck;obtain⟨z,_,p⟩:=n.ll;have q:=p.le;refine AU ?_;refine BD c O O O Rk O (λs l h' o=>Ig (St.all h') g (Mk q) l) λs c=>AU ?_;cases c;exact A4 O
  have c:=Hk t c;cases c;exact BK O O
 refine AU ?_;exact BW (kp [6] O) λA u C=>RT
def Pi(hs:St S L h){b:AF}(ac:Rd S h Bz K b)(E:Hw N b=some r):
 CG prog 76 #[K] S h (λv S' h'=>v= .bool r/\St S' (L) h'):=by
 refine CG.go 122 func76 O ntmps76 O λB=>?_;rw[Hw]at E;refine AU ?_;refine CC O ac CE O hs λq1 S2 h3 cl e5 k6=>?_;have k8:=k6.fl Ck;obtain⟨v9,_,cm⟩:=k8.ll;refine AU ?_;refine AT (λa w=>∃(ad:Int),IV B S2 h3 (122,[]) a w [(3,vI ad)] (L) λ_ _=>AB ad/\CT N ad=some r) ?_ ?_
 ·refine A0 (λn1=>λa w=>∃(M:Int)(k:Int),IV B S2 h3 (122,[]) a w [(13,vI (↑b.A.length:Int)),(12,v9),(1,q1),(3,vI M),(14,vI k)] (L) λ_ _=>AB M/\AB k/\B8 N b (CT N) n1 M k=some r) N ?_ ?_ ?_
  ·intro x y d g;exact⟨0,0,_,_,d.sub (kp [13,12,1,3,14] O),g,cl,(CO.refl S2 h3),(iq (n:=0) O),(iq (n:=0) O),E⟩
  ·rintro x y⟨_,_,_,_,_,_,_,_,_,_,E⟩;rw[B8]at E;cases E
  rintro n1 x y⟨M,k,ae,cn,d,g,ag,a2,a3,co,E⟩;refine AL ?_ d g;clear d g y x;rw[B8]at E;refine AU ?_;refine AK O E (λcp E=>?_) (λcp E=>?_)
  ·refine AU ?_;refine AT (λa w=>∃(Q:Int),IV B ae cn (122,[]) a w [(13,vI (↑b.A.length:Int)),(12,v9),(1,q1),(14,vI k),(3,vI Q)] (L) λ_ _=>AB Q/\C1 N k (B8 N b (CT N) n1) Q=some r) ?_ ?_
   ·refine AU ?_;have cq:=cm.mono' a2;refine BE E O O cq OM.1 O λc E d9 cr=>?_;obtain⟨ea,_,cs⟩:=cr.lv;refine AU ?_;refine DT RO O ag λaf eb a4 ct=>AU ?_;have cu:=cs.mono ct;obtain⟨a5,am,an,rfl,ec,cv,cw,cx,cy,a6,cz,c0,c1,c2,c3,c4⟩:=B4.ex cu;refine H5 O O O ON RU.1 O a4 .head O λed V a7=>AU ?_;refine CP (.inl O) V (AU ?_);refine BD E O O O IJ O (λa8 a9 h' o=>Cd (St.all h') cv (iq (n:=0) O) (iq (n:=3) O) a9) λa8 E=>AU ?_;obtain⟨ba,l,E⟩:=bd E;refine A3 5 28 (.bool ba) ?_ ?_
    ·cases bb:(!a8)
     ·have l:=Hl bb l;refine AU ?_;refine BD l O O O IJ O (λc5 bc h' o=>Cd (St.all h') cw (iq (n:=0) O) (iq (n:=2) O) bc) λc5 l=>AU ?_;cases l;exact A4 O
     have l:=Hk bb l;cases l;exact BK O O
    refine AU ?_;obtain⟨be,m,E⟩:=bd E;refine A3 5 34 (.bool be) ?_ ?_
    ·cases bf:ba
     ·have m:=Hl bf m;refine AU ?_;refine BD m O O O IJ O (λc6 bg h' o=>Cd (St.all h') c2 (iq (n:=0) O) (iq (n:=240) O) bg) λc6 m=>AU ?_;cases m;exact A4 O
     have m:=Hk bf m;cases m;exact BK O O
    refine AU ?_;obtain⟨bh,p,E⟩:=bd E;refine A3 5 40 (.bool bh) ?_ ?_
    ·cases bi:be
     ·have p:=Hl bi p;refine AU ?_;refine BD p O O O Kq O (λc7 bj h' o=>Cs (St.all h') cx bj) λc7 p=>AU ?_;cases p;exact A4 O
     have p:=Hk bi p;cases p;exact BK O O
    refine AU ?_;obtain⟨bk,q,E⟩:=bd E;refine A3 5 46 (.bool bk) ?_ ?_
    ·cases bl:bh
     ·have q:=Hl bl q;refine AU ?_;refine BD q O O O Kq O (λc8 bm h' o=>Cs (St.all h') c3 bm) λc8 q=>AU ?_;cases q;exact A4 O
     have q:=Hk bl q;cases q;exact BK O O
    refine AU ?_;obtain⟨bn,s,E⟩:=bd E;refine A3 5 52 (.bool bn) ?_ ?_
    ·cases bo:bk
     ·have s:=Hl bo s;refine AU ?_;have c9:=cy.mono' a7;refine BD s O O O Rl O (λda bp h' o=>If (St.all h') (c9.mono' (o.all V.1)) bp) λda s=>AU ?_;cases s;exact A4 O
     have s:=Hk bo s;cases s;exact BK O O
    have ee:=a6.mono' a7;have ef:=k6.nw;refine AU ?_;obtain⟨bq,t,E⟩:=bd E;refine A3 7 69 (.bool bq) ?_ ?_
    ·cases br:(bn||(decide ((↑c.An.length:Int)≠(↑b.I.length:Int))))
     ·have t:=Hl br t;refine AU ?_;refine BD t O O O ZR O (λdb bs h' o=>L0 (St.all h') cz c0 bs) λdb t=>AU ?_;cases t;exact A4 O
     have t:=Hk br t;cases t;exact BK O O
    refine AU ?_;obtain⟨dc,u,E⟩:=bd E;refine A3 7 77 (.bool dc) ?_ ?_
    ·cases bt:bq
     ·have u:=Hl bt u;have dd:=k6.nw;obtain⟨dg,_,bu⟩:=dd.lv;refine AU ?_;refine BD u O O O mK O (λbv ao h' o=>O0 (St.all h') (bu.mono (o.all V.1)) co c1 ao) λbv u=>AU ?_;cases u;exact A4 O
     have u:=Hk bt u;cases u;exact BK O O
    refine BW (kp [77,5,13,12,1,3,14] O) λW ap dh=>AK O E (λbw E=>?_) (λbw E=>?_)
    ·exact RT
    have bx:=a6.nw;refine AU ?_;refine AT (λa w=>∃(z:Int),IV B ae W (122,[]) a w [(5,vP af 0),(13,vI (↑b.A.length:Int)),(12,v9),(1,q1),(14,vI k),(3,vI z)] (Bx af 133 [.string c.G,vI c.H,vI c.At,vI c.Au,a5,am,vI c.Y,vI c.T,vI c.Ao,vI c.S,vI c.Bh,an]::L) λ_ _=>AB z/\FV N b c (C1 N k (B8 N b (CT N) n1)) z=some r) ?_ ?_
    ·refine A0 (λn4=>λa w=>∃(C:Int)(D:Int),IV B ae W (122,[]) a w [(80,vI (↑c.An.length:Int)),(79,am),(5,vP af 0),(13,vI (↑b.A.length:Int)),(12,v9),(1,q1),(14,vI k),(3,vI C),(81,vI D)] (Bx af 133 [.string c.G,vI c.H,vI c.At,vI c.Au,a5,am,vI c.Y,vI c.T,vI c.Ao,vI c.S,vI c.Bh,an]::L) λ_ _=>AB C/\AB D/\DN N c (FV N b c (C1 N k (B8 N b (CT N) n1))) n4 C D=some r) N ?_ ?_ ?_
     ·intro x y d g;exact⟨M,0,_,_,d.sub (kp [80,79,5,13,12,1,14,3,81] O),g,ap,(CO.refl ae W),a3,(iq (n:=0) O),E⟩
     ·rintro x y⟨_,_,_,_,_,_,_,_,_,_,E⟩;rw[DN]at E;cases E
     rintro n4 x y⟨C,D,di,dj,d,g,X,ah,bz,dk,E⟩;refine AL ?_ d g;clear d g y x;rw[DN]at E;refine AU ?_;refine AK O E (λb0 E=>?_) (λb0 E=>?_)
     ·refine AU ?_;refine AW (AU ?_);have b1:=bx.mono' ah;refine BE E O O b1 CW.1 O λb2 E dl b3=>?_;have b4:=b3.i;refine AU ?_;refine CP (.inl O) X (AU ?_);refine BD E O O O Kq O (λb5 aq h' o=>Cs (St.all h') b4 aq) λb5 E=>AU ?_;refine BW (kp [87,7,80,79,5,13,12,1,14,3,81] O) λdm ar dn=>AK O E (λb6 E=>?_) (λb6 E=>?_)
      ·exact RT
      refine AU ?_;refine BF (AU ?_);refine WF.nil (λx y d g=>?_);exact⟨(BO (C+b2)),(BO (D+1)),_,_,d.sub (kp [80,79,5,13,12,1,14,3,81] O),g,ar,EX,(BQ _),(BQ _),E⟩
     refine BL O (λx y d g=>?_);exact⟨C,_,_,d.sub (kp [5,13,12,1,14,3] O),g,X,ah,bz,E⟩
    rintro x y⟨z,ai,aj,d,g,au,dp,b7,E⟩;refine AL ?_ d g;clear d g y x;rw[FV]at E;have b8:=c4.nw;refine AU ?_;refine AW (A0 (λn5=>λa w=>∃(F:Int)(J:Int),IV B ai aj (122,[]) a w [(94,vI (↑c.U.length:Int)),(93,an),(13,vI (↑b.A.length:Int)),(12,v9),(1,q1),(14,vI k),(3,vI z),(8,vI F),(95,vI J)] (L) λ_ _=>AB F/\AB J/\Cc N b c z (C1 N k (B8 N b (CT N) n1)) n5 F J=some r) N ?_ ?_ ?_)
    ·intro x y d g;have av:=au.drop .head;exact⟨(-1),0,_,_,d.sub (kp [94,93,13,12,1,14,3,8,95] O),g,av,(CO.refl ai aj),(iq (n:=(-1)) O),(iq (n:=0) O),E⟩
    ·rintro x y⟨_,_,_,_,_,_,_,_,_,_,E⟩;rw[Cc]at E;cases E
    rintro n5 x y⟨F,J,dq,dr,d,g,Z,b9,ds,dt,E⟩;refine AL ?_ d g;clear d g y x;rw[Cc]at E;refine AU ?_;refine AK O E (λca E=>?_) (λca E=>?_)
    ·refine AU ?_;refine AW (AU ?_);have cb:=b8.mono' b9;refine BE E O O cb wE.1 O λab E du cc=>?_;obtain⟨dv,_,cd⟩:=cc.lv;refine AU ?_;refine DT uN O Z λdw dx aw ce=>?_;have cf:=cd.mono ce;obtain⟨rfl,⟨cg,ch⟩⟩:=Kt.ex cf;refine EM O O O O vE.1 O aw .head O λdy ax dz=>AU ?_;refine CP (.inl O) ax ?_;have d0:=k6.nw;refine AU ?_;obtain⟨ci,j,E⟩:=bd E;refine A3 5 115 (.bool ci) ?_ ?_
     ·cases ak:((decide (ab.Bg<=F))||(decide (b.L<=ab.Bg)))
      ·have j:=Hl ak j;refine AU ?_;refine BD j O O O Kq O (λcj ay h' o=>Cs (St.all h') ch ay) λcj j=>AU ?_;cases j;exact A4 O
      have j:=Hk ak j;cases j;exact BK O O
     refine BW (kp [115,10,94,93,13,12,1,14,3,95] O) λd1 az d2=>AK O E (λck E=>?_) (λck E=>?_)
     ·exact RT
     refine AU ?_;refine BF (AU ?_);refine WF.nil (λx y d g=>?_);have a0:=az.drop .head;exact⟨ab.Bg,(BO (J+1)),_,_,d.sub (kp [94,93,13,12,1,14,3,8,95] O),g,a0,EX,cg,(BQ _),E⟩
    refine IA O (WF.nil (λx y d g=>?_));exact⟨z,_,_,d.sub (kp [13,12,1,14,3] O),g,Z,EX,b7,E⟩
   rintro x y⟨Q,d3,d4,d,g,a1,d5,de,E⟩;refine AL ?_ d g;clear d g y x;rw[C1]at E;refine AU ?_;refine WF.nil (λx y d g=>?_);exact⟨Q,(BO (k+1)),_,_,d.sub (kp [13,12,1,3,14] O),g,a1,EX,de,(BQ _),E⟩
  refine BL O (λx y d g=>?_);exact⟨M,_,_,d.sub (kp [3] O),g,ag,a2,a3,E⟩
 rintro x y⟨ad,d6,d7,d,g,df,d8,eg,E⟩;refine AL ?_ d g;clear d g y x;rw[CT]at E;exact RT
def Tp(X:St S L h){g:Int}(q:AB g){i:Value}(s:Rd S h (A9.fn prog (λx:Int=>([vI x]:List Value)) (λx:Int=>AB x) (λy:Bool=> .bool y) (λy:Bool=>True)) i p){r:Int}(E:M4 N g p=some r):
 CG prog 241 #[vI g,i] S h (λv S' h'=>v=vI r/\AB r/\St S' (L) h'):=by
 refine CG.go 26 func241 O ntmps241 O λB=>?_;rw[M4]at E;obtain⟨H,I,rfl,J,K⟩:=s.fn;refine AU ?_;refine AT (λa w=>∃(F:Int),IV B S h (26,[]) a w [(5,vI F)] (L) λ_ _=>AB F/\KI N F=some r) ?_ ?_
 ·refine A0 (λV=>λa w=>∃(c:Int)(d:Int),IV B S h (26,[]) a w [(1,(.func (.func H) #[] I)),(5,vI c),(6,vI d)] (L) λ_ _=>AB c/\AB d/\HV N p (KI N) V c d=some r) N ?_ ?_ ?_
  ·intro u z l m;exact⟨0,g,_,_,l.sub (kp [1,5,6] O),m,X,(CO.refl S h),(iq (n:=0) O),q,E⟩
  ·rintro u z⟨_,_,_,_,_,_,_,_,_,_,E⟩;rw[HV]at E;cases E
  rintro V u z⟨c,d,Y,Z,l,m,k,t,C,M,E⟩;refine AL ?_ l m;clear l m z u;rw[HV]at E;refine AU ?_;refine AK O E (λQ E=>?_) (λQ E=>?_)
  ·refine AU ?_;refine AW (AU ?_);refine IB O Ps Yv O (LN (j:=1) O O O O (IB O Yv Ps O (AU ?_)));refine CP (.inl O) k (AU ?_);obtain⟨ab,D,E⟩:=bd E;refine Jk O O O J O (λh' o=>K _ h' (λb G=>Ag6 (k.1 b (t.sub b G)) o.siz) (λb G=>(o.same b (k.1 b (t.sub b G))).trans (t.same b G)) [] (St.all h') _ _ (BQ _) D) (AU ?_);refine BW (kp [21,7,1,5,6] O) λac A ad=>AK O E (λU E=>?_) (λU E=>?_)
   ·refine AU ?_;refine BF (WF.nil (λu z l m=>?_));exact⟨(BO ((BO (F6 .u64 (IntKind.wrap .u64 (BO (c+d))) 1))+1)),d,_,_,l.sub (kp [1,5,6] O),m,A,EX,(BQ _),M,E⟩
   refine AU ?_;refine BF (WF.nil (λu z l m=>?_));exact⟨c,(BO (F6 .u64 (IntKind.wrap .u64 (BO (c+d))) 1)),_,_,l.sub (kp [1,5,6] O),m,A,EX,C,(BQ _),E⟩
  refine BL O (λu z l m=>?_);exact⟨c,_,_,l.sub (kp [5] O),m,k,t,C,E⟩
 rintro u z⟨F,ae,af,l,m,W,ag,r6,E⟩;refine AL ?_ l m;clear l m z u;rw[KI]at E;exact RT
def ST(k:St S L h)(g:AB a){b:Value}(d:Pt S h (A9.sl CH) b c1_)(i:Pt S h AC c c2_)(E:Jq N c1_ c2_ a=some r):
 CG prog 242 #[vI a,b,c] S h (λv S' h'=>v= .bool r/\St S' (L) h'):=by
 refine CG.go 12 func242 O ntmps242 O λB=>?_;rw[Jq]at E;refine AU ?_;refine Ip (.inr ⟨mo,Γ⟩) ?_;obtain⟨v1,_,j⟩:=d.ll;refine AU ?_;exact BE E O O j MM.1 O λl E m n=>RT
def Nf(i:St S L h)(c:IntKind.has .u64 a)(d:IntKind.has .u64 b){r:Int×Int}(E:Ib N a b=some r):
 CG prog 202 #[.int .u64 a,.int .u64 b] S h (λv S' h'=>v= .tuple #[.int .u64 r.1,.int .u64 r.2]/\IntKind.has .u64 r.1/\IntKind.has .u64 r.2/\St S' (L) h'):=by
 refine CG.go 51 func202 O ntmps202 O λB=>?_;rw[Ib]at E;refine AU ?_;refine LN (j:=32) O O O O (AU ?_);refine LN (j:=32) O O O O (AU ?_);refine LN (j:=32) O O O O (AU ?_);refine LN (j:=32) O O O O (AU ?_);refine LN (j:=32) O O O O (AU ?_);refine CM (λl m g k=>?_);cases E;exact K0 g O k (Iv (KR g (v:=_) O) (Iv (KR g (v:=_) O) Kz)) O (CO.refl S h) ⟨O,(D8 _ _),(D8 _ _),i⟩
def Q5(I:St S L h)(g:IntKind.has .u64 d){r:Int}(E:Jw N d=some r):
 CG prog 243 #[.int .u64 d] S h (λv S' h'=>v=vI r/\AB r/\St S' (L) h'):=by
 refine CG.go 25 func243 O ntmps243 O λB=>?_;rw[Jw]at E;refine AU ?_;refine It (λa w=>∃(x:Int)(y:Int),IV B S h (25,[]) a w [(0,.int .u64 x),(2,vI y)] (L) λ_ _=>IntKind.has .u64 x/\AB y/\Ha N x y=some r) ?_ ?_
 ·refine AK O E (λM E=>?_) (λM E=>?_)
  ·refine AU ?_;refine LN (j:=32) O O O O (AU ?_);refine WF.nil (λl m b c=>?_);exact⟨(F6 .u64 d 32),32,_,_,b.sub (kp [0,2] O),c,I,(CO.refl S h),(T7 _ g _),(iq (n:=32) O),E⟩
  refine AU ?_;refine WF.nil (λl m b c=>?_);exact⟨d,0,_,_,b.sub (kp [0,2] O),c,I,(CO.refl S h),g,(iq (n:=0) O),E⟩
 rintro l m⟨x,y,C,D,b,c,z,e9,J,Q,E⟩;refine AL ?_ b c;clear b c m l;rw[Ha]at E;refine AU ?_;refine It (λa w=>∃(i:Int)(k:Int),IV B C D (25,[]) a w [(0,.int .u64 i),(2,vI k)] (L) λ_ _=>IntKind.has .u64 i/\AB k/\HZ N i k=some r) ?_ ?_
 ·refine AK O E (λF E=>?_) (λF E=>?_)
  ·refine AU ?_;refine LN (j:=16) O O O O (AU ?_);refine WF.nil (λl m b c=>?_);exact⟨(F6 .u64 x 16),(BO (y+16)),_,_,b.sub (kp [0,2] O),c,z,(CO.refl C D),(T7 _ J _),(BQ _),E⟩
  refine AU ?_;refine WF.nil (λl m b c=>?_);exact⟨x,y,_,_,b.sub (kp [0,2] O),c,z,(CO.refl C D),J,Q,E⟩
 rintro l m⟨i,k,t,u,b,c,q,U,A,G,E⟩;refine AL ?_ b c;clear b c m l;rw[HZ]at E;refine AU ?_;refine It (λa w=>∃(o:Int)(p:Int),IV B t u (25,[]) a w [(0,.int .u64 o),(2,vI p)] (L) λ_ _=>IntKind.has .u64 o/\AB p/\HY N o p=some r) ?_ ?_
 ·refine AK O E (λH E=>?_) (λH E=>?_)
  ·refine AU ?_;refine LN (j:=8) O O O O (AU ?_);refine WF.nil (λl m b c=>?_);exact⟨(F6 .u64 i 8),(BO (k+8)),_,_,b.sub (kp [0,2] O),c,q,(CO.refl t u),(T7 _ A _),(BQ _),E⟩
  refine AU ?_;refine WF.nil (λl m b c=>?_);exact⟨i,k,_,_,b.sub (kp [0,2] O),c,q,(CO.refl t u),A,G,E⟩
 rintro l m⟨o,p,V,W,b,c,K,X,Y,Z,E⟩;refine AL ?_ b c;clear b c m l;rw[HY]at E;refine AU ?_;refine IB O MK Abp O ?_;obtain⟨ab,s,E⟩:=bd E;have ac:=SW s;exact Sf O O VO s O (IB O Abp Ps O (RT))
def NY(d:St S L h)(b:IntKind.has .u64 a){r:Int}(E:GN N a=some r):
 CG prog 228 #[.int .u64 a] S h (λv S' h'=>v=vI r/\AB r/\St S' (L) h'):=by
 refine CG.go 6 func228 O ntmps228 O λB=>?_;rw[GN]at E;refine AU ?_;refine CP (.inl O) d (AU ?_);refine DO E O O O yD O (λg c h' o=>Q5 (St.all h') b c) λg E i=>?_;have k:=i;refine AU ?_;exact BW (kp [2] O) λl j m=>RT
def Ng(hs:St S L h)(X:IntKind.has .u64 d)(x:IntKind.has .u64 b){c:Int}(D:IntKind.has .u64 c){r:Int×Int}(E:Gv N d b c=some r):
 CG prog 203 #[.int .u64 d,.int .u64 b,.int .u64 c] S h (λv S' h'=>v= .tuple #[.int .u64 r.1,.int .u64 r.2]/\IntKind.has .u64 r.1/\IntKind.has .u64 r.2/\St S' (L) h'):=by
 refine CG.go 135 func203 O ntmps203 O λB=>?_;rw[Gv]at E;refine AU ?_;refine AK O E (λc1 E=>?_) (λc1 E=>?_)
 ·cases E
 refine AU ?_;refine AK O E (λc2 E=>?_) (λc2 E=>?_)
 ·cases E
 refine AU ?_;refine AK O E (λc3 E=>?_) (λc3 E=>?_)
 ·refine AU ?_;refine Ip (.inr ⟨mo,Γ⟩) (AU ?_);obtain⟨z4,Y,E⟩:=bd E;have r5:IntKind.has .u64 z4:=P4 Y;refine XD O O O Y (AU ?_);obtain⟨z6,Z,E⟩:=bd E;have r7:IntKind.has .u64 z6:=jC x Z;refine rH O O O Z (AU ?_);refine CM (λq s i l=>?_);cases E;exact K0 i O l (Iv (KR i (v:=_) O) (Iv (KR i (v:=_) O) Kz)) O (CO.refl S h) ⟨O,r5,r7,hs⟩
 refine AU ?_;refine CP (.inl O) hs (AU ?_);refine DO E O O O yJ O (λF aj h' o=>NY (St.all h') D aj) λF E r9=>?_;have av:=r9;refine IB O Ps Yv O (AU ?_);refine BW (kp [8,0,1,2] O) λJ ab aw=>AU ?_;obtain⟨g,ac,E⟩:=bd E;refine XC (j:=g) O O O ac (AU ?_);refine LN (j:=32) O O O O (AU ?_);obtain⟨m,ad,E⟩:=bd E;refine XC (j:=m) O O O ad (AU ?_);obtain⟨n,ae,E⟩:=bd E;refine LN (j:=n) O O O ae (Aar O O O (AU ?_));obtain⟨k,af,E⟩:=bd E;refine XC (j:=k) O O O af (AU ?_);refine LN (j:=32) O O O O (AU ?_);obtain⟨K,H,E⟩:=bd E;have ak:IntKind.has .u64 K:=P4 H;refine XD O O O H (AU ?_);refine AT (λa w=>∃(p:Int),IV B S J (135,[]) a w [(14,.int .u64 (Jz .and .u64 (Ej .u64 b k) 4294967295)),(13,.int .u64 (F6 .u64 (Ej .u64 b k) 32)),(11,.int .u64 (Jz .or .u64 (Ej .u64 d m) (F6 .u64 b n))),(10,.int .u64 (Jz .and .u64 (Ej .u64 c g) 4294967295)),(9,.int .u64 (F6 .u64 (Ej .u64 c g) 32)),(2,.int .u64 (Ej .u64 c g)),(8,.int .u64 (IntKind.wrap .u64 F)),(15,.int .u64 p)] (L) λ_ _=>IntKind.has .u64 p/\EW N d b c F g m n k p=some r) ?_ ?_
 ·refine A0 (λn1=>λa w=>∃(t:Int)(y:Int),IV B S J (135,[]) a w [(14,.int .u64 (Jz .and .u64 (Ej .u64 b k) 4294967295)),(13,.int .u64 (F6 .u64 (Ej .u64 b k) 32)),(11,.int .u64 (Jz .or .u64 (Ej .u64 d m) (F6 .u64 b n))),(10,.int .u64 (Jz .and .u64 (Ej .u64 c g) 4294967295)),(9,.int .u64 (F6 .u64 (Ej .u64 c g) 32)),(2,.int .u64 (Ej .u64 c g)),(8,.int .u64 (IntKind.wrap .u64 F)),(15,.int .u64 t),(16,.int .u64 y)] (L) λ_ _=>IntKind.has .u64 t/\IntKind.has .u64 y/\D5 N b c g k (EW N d b c F g m n k) n1 t y=some r) N ?_ ?_ ?_
  ·intro q s i l;exact⟨K,(IntKind.wrap .u64 ((Jz .or .u64 (Ej .u64 d m) (F6 .u64 b n))-(IntKind.wrap .u64 (K*(F6 .u64 (Ej .u64 c g) 32))))),_,_,i.sub (kp [14,13,11,10,9,2,8,15,16] O),l,ab,(CO.refl S J),ak,(D8 _ _),E⟩
  ·rintro q s⟨_,_,_,_,_,_,_,_,_,_,E⟩;rw[D5]at E;cases E
  rintro n1 q s⟨t,y,ax,ay,i,l,z,M,al,az,E⟩;refine AL ?_ i l;clear i l s q;rw[D5]at E;refine AU ?_;refine AK O E (λam E=>?_) (λam E=>?_)
  ·refine AU ?_;refine AW (AU ?_);refine AK O E (λan E=>?_) (λan E=>?_)
   ·refine BL O (λq s i l=>?_);exact⟨(IntKind.wrap .u64 (t-1)),_,_,i.sub (kp [14,13,11,10,9,2,8,15] O),l,z,M,(D8 _ _),E⟩
   refine AU ?_;refine BF (WF.nil (λq s i l=>?_));exact⟨(IntKind.wrap .u64 (t-1)),(IntKind.wrap .u64 (y+(F6 .u64 (Ej .u64 c g) 32))),_,_,i.sub (kp [14,13,11,10,9,2,8,15,16] O),l,z,M,(D8 _ _),(D8 _ _),E⟩
  refine BL O (λq s i l=>?_);exact⟨t,_,_,i.sub (kp [14,13,11,10,9,2,8,15] O),l,z,M,al,E⟩
 rintro q s⟨p,Q,U,i,l,ag,a0,a1,E⟩;refine AL ?_ i l;clear i l s q;rw[EW]at E;refine AU ?_;obtain⟨V,I,E⟩:=bd E;have ao:IntKind.has .u64 V:=P4 I;refine XD O O O I (AU ?_);refine AT (λa w=>∃(G:Int),IV B Q U (135,[]) a w [(17,.int .u64 (IntKind.wrap .u64 ((IntKind.wrap .u64 ((IntKind.wrap .u64 ((Jz .or .u64 (Ej .u64 d m) (F6 .u64 b n))*4294967296))+(F6 .u64 (Ej .u64 b k) 32)))-(IntKind.wrap .u64 (p*(Ej .u64 c g)))))),(14,.int .u64 (Jz .and .u64 (Ej .u64 b k) 4294967295)),(2,.int .u64 (Ej .u64 c g)),(8,.int .u64 (IntKind.wrap .u64 F)),(15,.int .u64 p),(18,.int .u64 G)] (L) λ_ _=>IntKind.has .u64 G/\GO N d b c F g m n k p G=some r) ?_ ?_
 ·refine A0 (λn3=>λa w=>∃(A:Int)(u:Int),IV B Q U (135,[]) a w [(17,.int .u64 (IntKind.wrap .u64 ((IntKind.wrap .u64 ((IntKind.wrap .u64 ((Jz .or .u64 (Ej .u64 d m) (F6 .u64 b n))*4294967296))+(F6 .u64 (Ej .u64 b k) 32)))-(IntKind.wrap .u64 (p*(Ej .u64 c g)))))),(14,.int .u64 (Jz .and .u64 (Ej .u64 b k) 4294967295)),(10,.int .u64 (Jz .and .u64 (Ej .u64 c g) 4294967295)),(9,.int .u64 (F6 .u64 (Ej .u64 c g) 32)),(2,.int .u64 (Ej .u64 c g)),(8,.int .u64 (IntKind.wrap .u64 F)),(15,.int .u64 p),(16,.int .u64 A),(18,.int .u64 u)] (L) λ_ _=>IntKind.has .u64 A/\IntKind.has .u64 u/\EV N b c g k (GO N d b c F g m n k p) n3 A u=some r) N ?_ ?_ ?_
  ·intro q s i l;exact⟨(IntKind.wrap .u64 ((IntKind.wrap .u64 ((IntKind.wrap .u64 ((IntKind.wrap .u64 ((Jz .or .u64 (Ej .u64 d m) (F6 .u64 b n))*4294967296))+(F6 .u64 (Ej .u64 b k) 32)))-(IntKind.wrap .u64 (p*(Ej .u64 c g)))))-(IntKind.wrap .u64 (V*(F6 .u64 (Ej .u64 c g) 32))))),V,_,_,i.sub (kp [17,14,10,9,2,8,15,16,18] O),l,ag,(CO.refl Q U),(D8 _ _),ao,E⟩
  ·rintro q s⟨_,_,_,_,_,_,_,_,_,_,E⟩;rw[EV]at E;cases E
  rintro n3 q s⟨A,u,a2,a3,i,l,C,W,a4,ap,E⟩;refine AL ?_ i l;clear i l s q;rw[EV]at E;refine AU ?_;refine AK O E (λaq E=>?_) (λaq E=>?_)
  ·refine AU ?_;refine AW (AU ?_);refine AK O E (λar E=>?_) (λar E=>?_)
   ·refine BL O (λq s i l=>?_);exact⟨(IntKind.wrap .u64 (u-1)),_,_,i.sub (kp [17,14,2,8,15,18] O),l,C,W,(D8 _ _),E⟩
   refine AU ?_;refine BF (WF.nil (λq s i l=>?_));exact⟨(IntKind.wrap .u64 (A+(F6 .u64 (Ej .u64 c g) 32))),(IntKind.wrap .u64 (u-1)),_,_,i.sub (kp [17,14,10,9,2,8,15,16,18] O),l,C,W,(D8 _ _),(D8 _ _),E⟩
  refine BL O (λq s i l=>?_);exact⟨u,_,_,i.sub (kp [17,14,2,8,15,18] O),l,C,W,ap,E⟩
 rintro q s⟨G,a5,a6,i,l,ah,a7,a8,E⟩;refine AL ?_ i l;clear i l s q;rw[GO]at E;refine AU ?_;obtain⟨au,ai,E⟩:=bd E;refine LN (j:=au) O O O ai (AU ?_);refine CM (λq s i l=>?_);cases E;exact K0 i O l (Iv (KR i (v:=_) O) (Iv (KR i (v:=_) O) Kz)) O EX ⟨O,(D8 _ _),(T7 _ (D8 _ _) _),ah⟩
def Ki(F:St S L h)(s:AB d)(l:AB a)(m:AB b){r:Int×Int×Bool}(E:G8 N d a b=some r):
 CG prog 195 #[vI d,vI a,vI b] S h (λv S' h'=>v= .tuple #[vI r.1,vI r.2.1,.bool r.2.2]/\AB r.1/\AB r.2.1/\St S' (L) h'):=by
 refine CG.go 61 func195 O ntmps195 O λB=>?_;rw[G8]at E;refine AU ?_;refine AK O E (λG E=>?_) (λG E=>?_)
 ·refine AU ?_;refine CM (λu w c k=>?_);cases E;exact K0 c O k (Iv (KR c (v:=_) O) (Iv (KR c (v:=_) O) (Iv (KR c (v:=_) O) Kz))) O (CO.refl S h) ⟨O,(iq (n:=0) O),(iq (n:=0) O),F⟩
 refine AU ?_;refine CP (.inl O) F (AU ?_);refine IB O Ps MK O (AU ?_);refine IB O Ps MK O ?_;obtain⟨t,x,E⟩:=bd E;refine Kj (v:= .tuple #[.int .u64 t.1,.int .u64 t.2]) (Ψ:=IntKind.has .u64 t.1/\IntKind.has .u64 t.2) O O O mB O (λh' o=>(Nf (St.all h') (D8 _ _) (D8 _ _) x).mono λ_ _ _ _ p=>⟨p.1,⟨p.2.1,p.2.2.1⟩⟩) λH=>?_;obtain⟨I,y⟩:=H;refine AU ?_;refine BW (kp [10,9,2] O) λJ i z=>AU ?_;refine IB O Ps MK O (AU ?_);refine AK O E (λA E=>?_) (λA E=>?_)
 ·refine AU ?_;refine CM (λu w c k=>?_);cases E;exact K0 c O k (Iv (KR c (v:=_) O) (Iv (KR c (v:=_) O) (Iv (KR c (v:=_) O) Kz))) O z ⟨O,(iq (n:=0) O),(iq (n:=0) O),i⟩
 refine AU ?_;refine CP (.inl O) i (AU ?_);refine IB O Ps MK O ?_;obtain⟨g,q,E⟩:=bd E;refine Kj (v:= .tuple #[.int .u64 g.1,.int .u64 g.2]) (Ψ:=IntKind.has .u64 g.1/\IntKind.has .u64 g.2) O O O mA O (λh' o=>(Ng (St.all h') I y (D8 _ _) q).mono λ_ _ _ _ p=>⟨p.1,⟨p.2.1,p.2.2.1⟩⟩) λC=>?_;obtain⟨K,M⟩:=C;refine AU ?_;refine BW (kp [12,11] O) λQ j U=>AU ?_;refine AK O E (λD E=>?_) (λD E=>?_)
 ·refine AU ?_;refine CM (λu w c k=>?_);cases E;exact K0 c O k (Iv (KR c (v:=_) O) (Iv (KR c (v:=_) O) (Iv (KR c (v:=_) O) Kz))) O EX ⟨O,(iq (n:=0) O),(iq (n:=0) O),j⟩
 refine AU ?_;refine IB O MK Ps O (AU ?_);refine IB O MK Ps O (AU ?_);refine CM (λu w c k=>?_);cases E;exact K0 c O k (Iv (KR c (v:=_) O) (Iv (KR c (v:=_) O) (Iv (KR c (v:=_) O) Kz))) O EX ⟨O,(BQ _),(BQ _),j⟩
def NZ(J:St S L h){b:Value}{c:List B3}(j:Sl S h CH b c)(k:AB a){r:Int×Bool}(E:J9 N c a=some r):
 CG prog 227 #[b,vI a] S h (λv S' h'=>v= .tuple #[vI r.1,.bool r.2]/\AB r.1/\St S' (L) h'):=by
 refine CG.go 63 func227 O ntmps227 O λB=>?_;rw[J9]at E;refine AU ?_;refine CC O (Kx j) (λ_=>rfl) O J λq1 S2 h3 K e5 k6=>CC O (⟨_,O,O,k⟩:Rd _ _ AC _ a) (λ_=>rfl) O K λq7 S8 h9 m M s=>AU ?_;refine CP (.inl O) m ?_;have l:=k6.mono M;obtain⟨ap,_,Q⟩:=l.ll;have U:=Q.le;refine AU ?_;refine PM O O O ?_;have t:Rd S8 h9 (A9.fn prog (λx:Int=>([vI x]:List Value)) (λx:Int=>AB x) (λy:Bool=> .bool y) (λy:Bool=>True)) (.func (.func 242) #[] #[q1,q7]) (λx=>Jq N c a x):=Rd.ofFn 242 #[q1,q7] yE λS' h' s' e' L J x y h1 h2=>(ST J h1 (l.mono'' s' e') (s.mono'' s' e') h2).mono λ_ _ _ _ p=>⟨p.1,trivial,p.2⟩
 refine DO E O O O yF O (λV u h' o=>Tp (St.all h') (Mk U) (t.mono (o.all m.1)) u) λV E W=>?_;have aq:=W;refine AU ?_;refine BW (kp [6,3,2] O) λar n w=>AU ?_;refine AK O E (λX E=>?_) (λX E=>?_)
 ·have Y:=l.mono w;obtain⟨au,_,Z⟩:=Y.ll;refine AU ?_;refine BE E O O Z MM.1 O λav E aw ab=>?_;have ac:=ab.fl VG;have ad:=ac.i;refine AU ?_;refine CM (λaa ww d z=>?_);cases E;exact K0 d O z (Iv (KR d (v:=_) O) (Iv (KR d (v:=_) O) Kz)) O EX ⟨O,ad,n⟩
 have A:=l.mono w;obtain⟨ax,_,ae⟩:=A.ll;refine AU ?_;refine BE E O O ae MM.1 O λay E az af=>?_;obtain⟨a0,_,ag⟩:=af.lv;refine AU ?_;refine DT WP O n λa1 a2 C ah=>?_;have ai:=ag.mono ah;obtain⟨rfl,⟨a3,aj⟩⟩:=CH.ex ai;refine EM O O O O WT.1 O C .head O λa4 q a5=>?_;have D:=A.nw;refine AU ?_;refine AK O E (λak E=>?_) (λak E=>?_)
 ·refine AU ?_;refine CM (λaa ww d z=>?_);have F:=q.drop .head;cases E;exact K0 d O z (Iv (KR d (v:=_) O) (Iv (KR d (v:=_) O) Kz)) O EX ⟨O,aj,F⟩
 refine AU ?_;refine CP (.inr ⟨mo,Γ⟩) q ?_;have a6:=s.nw;obtain⟨a7,_,am⟩:=D.ll;refine AU ?_;refine BE E O O am MM.1 O λa8 E a9 ba=>?_;obtain⟨bb,_,an⟩:=D.ll;refine AU ?_;refine BE E O O an MM.1 O λbc E be bf=>AU ?_;obtain⟨g,G,E⟩:=bd E;refine Kj (v:= .tuple #[vI g.1,vI g.2.1,.bool g.2.2]) (Ψ:=AB g.1/\AB g.2.1) O O O U0 O (λh' o=>(Ki (St.all h') (BQ _) (BQ _) (BQ _) G).mono λ_ _ _ _ p=>⟨p.1,⟨p.2.1,p.2.2.1⟩⟩) λao=>?_;obtain⟨bg,bh⟩:=ao;refine AU ?_;refine BW (kp [9,8,7] O) λbi H bj=>AU ?_;refine CM (λaa ww d z=>?_);have I:=H.drop .head;cases E;exact K0 d O z (Iv (KR d (v:=_) O) (Iv (KR d (v:=_) O) Kz)) O EX ⟨O,(BQ _),I⟩
def PV(W:St S L h){b:Value}{d:List B3}(k:Sl S h CH b d)(l:Sl S h CH c g)(E:I2 N d g=some r):
 CG prog 201 #[b,c] S h (λv S' h'=>v= .bool r/\St S' (L) h'):=by
 refine CG.go 66 func201 O ntmps201 O λB=>?_;rw[I2]at E;refine AU ?_;refine CP (.inl O) W (AU ?_);refine BD E O O O Rl O (λy1 X h' o=>If (St.all h') (k.mono' (o.all W.1)) X) λy1 E=>AU ?_;obtain⟨b4,m,E⟩:=bd E;refine A3 4 20 (.bool b4) ?_ ?_
 ·cases c3:(!y1)
  ·have m:=Hl c3 m;refine AU ?_;refine BD m O O O Rl O (λy5 Y h' o=>If (St.all h') (l.mono' (o.all W.1)) Y) λy5 m=>AU ?_;cases m;exact A4 O
  have m:=Hk c3 m;cases m;exact BK O O
 refine BW (kp [20,0,1] O) λZ ab e9=>AK O E (λac E=>?_) (λac E=>?_)
 ·exact RT
 have ad:=k.mono' e9;refine AU ?_;refine AT (λa w=>IV B S Z (66,[]) a w [(0,b),(1,c)] (L) λ_ _=>Hf N d g=some r) ?_ ?_
 ·refine A0 (λn1=>λa w=>∃(s:Int),IV B S Z (66,[]) a w [(22,vI (↑d.length:Int)),(21,b),(0,b),(1,c),(23,vI s)] (L) λ_ _=>AB s/\He N d g (Hf N d g) n1 s=some r) N ?_ ?_ ?_
  ·intro p q i j;exact⟨0,_,_,i.sub (kp [22,21,0,1,23] O),j,ab,(CO.refl S Z),(iq (n:=0) O),E⟩
  ·rintro p q⟨_,_,_,_,_,_,_,_,E⟩;rw[He]at E;cases E
  rintro n1 p q⟨s,a7,a8,i,j,u,D,a9,E⟩;refine AL ?_ i j;clear i j q p;rw[He]at E;refine AU ?_;refine AK O E (λae E=>?_) (λae E=>?_)
  ·refine AU ?_;refine AW (AU ?_);have af:=ad.mono' D;refine BE E O O af MM.1 O λba E bb ag=>?_;obtain⟨bc,_,ah⟩:=ag.lv;refine AU ?_;refine DT WP O u λbe bf F ai=>?_;have aj:=ah.mono ai;obtain⟨rfl,⟨ak,bg⟩⟩:=CH.ex aj;refine EM O O O O WT.1 O F .head O λbh x bi=>AU ?_;refine CP (.inl O) x (AU ?_);have am:=l.nw;refine DO E O O O ZQ O (λan G h' o=>NZ (St.all h') (am.mono' (o.all x.1)) ak G) λan E ao=>?_;have bj:=ao;refine AU ?_;refine BW (kp [7,6,22,21,0,1,23] O) λbk H bl=>AU ?_;refine AK O E (λap E=>?_) (λap E=>?_)
   ·exact RT
   refine AU ?_;refine BF (AU ?_);refine WF.nil (λp q i j=>?_);have I:=H.drop .head;exact⟨(BO (s+1)),_,_,i.sub (kp [22,21,0,1,23] O),j,I,EX,(BQ _),E⟩
  refine BL O (λp q i j=>?_);exact⟨_,_,i.sub (kp [0,1] O),j,u,D,E⟩
 rintro p q⟨A,C,i,j,J,bm,E⟩;refine AL ?_ i j;clear i j q p;rw[Hf]at E;have aq:=l.nw;refine AU ?_;refine AT (λa w=>IV B A C (66,[]) a w [] (L) λ_ _=>I7 N=some r) ?_ ?_
 ·refine A0 (λn3=>λa w=>∃(t:Int),IV B A C (66,[]) a w [(40,vI (↑g.length:Int)),(39,c),(0,b),(41,vI t)] (L) λ_ _=>AB t/\Hc N d g (I7 N) n3 t=some r) N ?_ ?_ ?_
  ·intro p q i j;exact⟨0,_,_,i.sub (kp [40,39,0,41] O),j,J,(CO.refl A C),(iq (n:=0) O),E⟩
  ·rintro p q⟨_,_,_,_,_,_,_,_,E⟩;rw[Hc]at E;cases E
  rintro n3 p q⟨t,bn,bo,i,j,y,K,bp,E⟩;refine AL ?_ i j;clear i j q p;rw[Hc]at E;refine AU ?_;refine AK O E (λar E=>?_) (λar E=>?_)
  ·refine AU ?_;refine AW (AU ?_);have au:=aq.mono' K;refine BE E O O au MM.1 O λbq E br av=>?_;obtain⟨bs,_,aw⟩:=av.lv;refine AU ?_;refine DT WP O y λbt bu M ax=>?_;have ay:=aw.mono ax;obtain⟨rfl,⟨az,bv⟩⟩:=CH.ex ay;refine EM O O O O WT.1 O M .head O λbw z bx=>AU ?_;refine CP (.inl O) z (AU ?_);have a0:=k.nw;refine DO E O O O ZQ O (λa1 Q h' o=>NZ (St.all h') (a0.mono' (o.all z.1)) az Q) λa1 E a2=>?_;have bz:=a2;refine AU ?_;refine BW (kp [12,11,10,40,39,0,41] O) λb0 U b1=>AU ?_;refine AK O E (λa3 E=>?_) (λa3 E=>?_)
   ·exact RT
   refine AU ?_;refine BF (AU ?_);refine WF.nil (λp q i j=>?_);have V:=U.drop .head;exact⟨(BO (t+1)),_,_,i.sub (kp [40,39,0,41] O),j,V,EX,(BQ _),E⟩
  refine BL O (λp q i j=>?_);exact⟨_,_,i.sub Ts,j,y,K,E⟩
 rintro p q⟨b2,a5,i,j,a4,a6,E⟩;refine AL ?_ i j;clear i j q p;rw[I7]at E;exact RT
def Pk(hs:St S L h)(W:Rd S h CD I D)(E:Gp N D=some r):
 CG prog 151 #[I] S h (λv S' h'=>v= .bool r/\St S' (L) h'):=by
 refine CG.go 152 func151 O ntmps151 O λB=>?_;rw[Gp]at E;refine AU ?_;refine CC O W CE O hs λq1 S2 h3 C e5 G=>AU ?_;refine AW (AU ?_);refine AK O E (λc7 E=>?_) (λc7 E=>?_)
 ·refine AU ?_;refine CP (.inl O) C ?_;have c8:=G.fl LT;obtain⟨eu,_,c9⟩:=c8.ll;refine AU ?_;refine BD E O O O Rl O (λa5 a6 h' o=>If (St.all h') (c9.mono' (o.all C.1)) a6) λa5 E=>AU ?_;obtain⟨a7,q,E⟩:=bd E;refine A3 5 15 (.bool a7) ?_ ?_
  ·cases a8:a5
   ·have q:=Hl a8 q;cases q;exact BK O O
   have q:=Hk a8 q;have da:=G.fl Iu;have db:=da.fl PQ;obtain⟨ev,_,dc⟩:=db.ll;refine AU ?_;refine BD q O O O Rl O (λdd a9 h' o=>If (St.all h') (dc.mono' (o.all C.1)) a9) λdd q=>AU ?_;cases q;exact A4 O
  refine AU ?_;obtain⟨ba,s,E⟩:=bd E;refine A3 5 21 (.bool ba) ?_ ?_
  ·cases bb:a7
   ·have s:=Hl bb s;cases s;exact BK O O
   have s:=Hk bb s;have de:=G.fl Iu;have df:=de.fl PR;obtain⟨ew,_,dg⟩:=df.ll;refine AU ?_;refine BD s O O O Rl O (λdh bc h' o=>If (St.all h') (dg.mono' (o.all C.1)) bc) λdh s=>AU ?_;cases s;exact A4 O
  refine AU ?_;obtain⟨be,t,E⟩:=bd E;refine A3 7 29 (.bool be) ?_ ?_
  ·cases bf:ba
   ·have t:=Hl bf t;cases t;exact BK O O
   have t:=Hk bf t;have di:=G.fl Iu;have dj:=di.fl PQ;obtain⟨ex,_,dk⟩:=dj.ll;have dl:=G.fl LT;obtain⟨ey,_,dm⟩:=dl.ll;refine AU ?_;refine BD t O O O mC O (λdn bg h' o=>PV (St.all h') (dk.mono' (o.all C.1)) (dm.mono' (o.all C.1)) bg) λdn t=>AU ?_;cases t;exact A4 O
  refine AU ?_;obtain⟨bh,u,E⟩:=bd E;refine A3 7 37 (.bool bh) ?_ ?_
  ·cases bi:be
   ·have u:=Hl bi u;cases u;exact BK O O
   have u:=Hk bi u;have dp:=G.fl LT;obtain⟨ez,_,dq⟩:=dp.ll;have dr:=G.fl Iu;have ds:=dr.fl PR;obtain⟨e0,_,dt⟩:=ds.ll;refine AU ?_;refine BD u O O O mC O (λdu bj h' o=>PV (St.all h') (dq.mono' (o.all C.1)) (dt.mono' (o.all C.1)) bj) λdu u=>AU ?_;cases u;exact A4 O
  refine AU ?_;obtain⟨bk,x,E⟩:=bd E;refine A3 4 42 (.bool bk) ?_ ?_
  ·cases bl:bh
   ·have x:=Hl bl x;cases x;exact BK O O
   have x:=Hk bl x;have dv:=G.fl Gz;have dw:=dv.i;refine AU ?_;refine BD x O O O IJ O (λdx bm h' o=>Cd (St.all h') dw (iq (n:=0) O) (iq (n:=64) O) bm) λdx x=>AU ?_;cases x;exact A4 O
  refine AU ?_;obtain⟨bn,y,E⟩:=bd E;refine A3 6 49 (.bool bn) ?_ ?_
  ·cases bo:bk
   ·have y:=Hl bo y;cases y;exact BK O O
   have y:=Hk bo y;have dy:=G.fl Lj;have dz:=dy.i;have d0:=G.fl Gz;have d1:=d0.i;refine AU ?_;refine BD y O O O IJ O (λd2 bp h' o=>Cd (St.all h') dz (iq (n:=0) O) d1 bp) λd2 y=>AU ?_;cases y;exact A4 O
  refine AU ?_;obtain⟨bq,z,E⟩:=bd E;refine A3 4 54 (.bool bq) ?_ ?_
  ·cases br:bn
   ·have z:=Hl br z;cases z;exact BK O O
   have z:=Hk br z;have d3:=G.fl PP;have d4:=d3.i;refine AU ?_;refine BD z O O O Kq O (λd5 bs h' o=>Cs (St.all h') d4 bs) λd5 z=>AU ?_;cases z;exact A4 O
  refine AU ?_;obtain⟨d6,A,E⟩:=bd E;refine A3 6 61 (.bool d6) ?_ ?_
  ·cases bt:bq
   ·have A:=Hl bt A;cases A;exact BK O O
   have A:=Hk bt A;have d7:=G.fl Kl;have d8:=d7.i;have d9:=G.fl Km;have ea:=d9.i;refine AU ?_;refine BD A O O O ZR O (λeb bu h' o=>L0 (St.all h') d8 ea bu) λeb A=>AU ?_;cases A;exact A4 O
  refine AU ?_;exact BW (kp [2] O) λeh ec ei=>RT
 refine AU ?_;refine It (λa w=>∃(U:Bool),IV B S2 h3 (152,[]) a w [(4,vI D.H),(1,q1),(72,.bool U)] (L) λ_ _=>Ee N D U=some r) ?_ ?_
 ·refine AK O E (λbv E=>?_) (λbv E=>?_)
  ·refine AU ?_;refine WF.nil (λaa ww hf hw=>?_);exact⟨(decide (D.H=1)),_,_,hf.sub (kp [4,1,72] O),hw,C,(CO.refl S2 h3),E⟩
  refine AU ?_;refine WF.nil (λaa ww hf hw=>?_);exact⟨(decide (D.H=5)),_,_,hf.sub (kp [4,1,72] O),hw,C,(CO.refl S2 h3),E⟩
 rintro aa ww⟨U,ej,ek,hf,hw,F,J,E⟩;refine AL ?_ hf hw;clear hf hw ww aa;rw[Ee]at E;refine AK O E (λbw E=>?_) (λbw E=>?_)
 ·refine AU ?_;refine CP (.inl O) F ?_;have V:=G.mono J;have bx:=V.fl Of;have bz:=bx.i;refine AU ?_;refine BD E O O O Kq O (λX aq h' o=>Cs (St.all h') bz aq) λX E=>AU ?_;obtain⟨Y,b,E⟩:=bd E;refine A3 4 82 (.bool Y) ?_ ?_
  ·cases Z:X
   ·have b:=Hl Z b;cases b;exact BK O O
   have b:=Hk Z b;have b0:=V.fl BG.f_Num;have b1:=b0.i;refine AU ?_;refine BD b O O O Kq O (λb2 ar h' o=>Cs (St.all h') b1 ar) λb2 b=>AU ?_;cases b;exact A4 O
  refine AU ?_;obtain⟨b3,c,E⟩:=bd E;refine A3 4 87 (.bool b3) ?_ ?_
  ·cases ab:Y
   ·have c:=Hl ab c;cases c;exact BK O O
   have c:=Hk ab c;have b4:=V.fl BG.f_Den;have b5:=b4.i;refine AU ?_;refine BD c O O O IJ O (λb6 au h' o=>Cd (St.all h') b5 (iq (n:=1) O) (iq (n:=1125899906842624) O) au) λb6 c=>AU ?_;cases c;exact A4 O
  refine AU ?_;exact BW (kp [2] O) λel ed em=>RT
 refine AU ?_;refine AK O E (λb7 E=>?_) (λb7 E=>?_)
 ·refine AU ?_;refine CP (.inl O) F ?_;have K:=G.mono J;have b8:=K.fl BG.f_Num;have b9:=b8.i;refine AU ?_;refine BD E O O O Kq O (λac av h' o=>Cs (St.all h') b9 av) λac E=>AU ?_;obtain⟨ad,d,E⟩:=bd E;refine A3 4 97 (.bool ad) ?_ ?_
  ·cases ae:ac
   ·have d:=Hl ae d;cases d;exact BK O O
   have d:=Hk ae d;have ca:=K.fl Gz;have cb:=ca.i;refine AU ?_;refine BD d O O O IJ O (λcc aw h' o=>Cd (St.all h') cb (iq (n:=1) O) (iq (n:=64) O) aw) λcc d=>AU ?_;cases d;exact A4 O
  refine AU ?_;obtain⟨cd,g,E⟩:=bd E;refine A3 6 104 (.bool cd) ?_ ?_
  ·cases af:ad
   ·have g:=Hl af g;cases g;exact BK O O
   have g:=Hk af g;have ce:=K.fl Lj;have cf:=ce.i;have cg:=K.fl Gz;have ch:=cg.i;refine AU ?_;refine BD g O O O IJ O (λci ax h' o=>Cd (St.all h') cf (iq (n:=0) O) ch ax) λci g=>AU ?_;cases g;exact A4 O
  refine AU ?_;exact BW (kp [2] O) λen ee eo=>RT
 refine AU ?_;refine AK O E (λcj E=>?_) (λcj E=>?_)
 ·refine AU ?_;refine CP (.inl O) F ?_;have M:=G.mono J;have ck:=M.fl BG.f_Num;have cl:=ck.i;refine AU ?_;refine BD E O O O Kq O (λag ay h' o=>Cs (St.all h') cl ay) λag E=>AU ?_;obtain⟨ah,j,E⟩:=bd E;refine A3 4 114 (.bool ah) ?_ ?_
  ·cases ai:ag
   ·have j:=Hl ai j;cases j;exact BK O O
   have j:=Hk ai j;have cm:=M.fl BG.f_Den;have cn:=cm.i;refine AU ?_;refine BD j O O O IJ O (λco az h' o=>Cd (St.all h') cn (iq (n:=1) O) (iq (n:=1125899906842624) O) az) λco j=>AU ?_;cases j;exact A4 O
  refine AU ?_;obtain⟨aj,k,E⟩:=bd E;refine A3 4 119 (.bool aj) ?_ ?_
  ·cases ak:ah
   ·have k:=Hl ak k;cases k;exact BK O O
   have k:=Hk ak k;have cp:=M.fl RL;have cq:=cp.i;refine AU ?_;refine BD k O O O Kq O (λcr a0 h' o=>Cs (St.all h') cq a0) λcr k=>AU ?_;cases k;exact A4 O
  refine AU ?_;obtain⟨cs,l,E⟩:=bd E;refine A3 4 124 (.bool cs) ?_ ?_
  ·cases al:aj
   ·have l:=Hl al l;cases l;exact BK O O
   have l:=Hk al l;have ct:=M.fl RM;have cu:=ct.i;refine AU ?_;refine BD l O O O Kq O (λcv a1 h' o=>Cs (St.all h') cu a1) λcv l=>AU ?_;cases l;exact A4 O
  refine AU ?_;exact BW (kp [2] O) λep ef eq=>RT
 refine AU ?_;refine BF (AU ?_);refine CP (.inl O) F ?_;have Q:=G.mono J;have cw:=Q.fl BG.f_Num;have cx:=cw.i;refine AU ?_;refine BD E O O O Kq O (λam a2 h' o=>Cs (St.all h') cx a2) λam E=>AU ?_;obtain⟨an,m,E⟩:=bd E;refine A3 4 139 (.bool an) ?_ ?_
 ·cases ao:am
  ·have m:=Hl ao m;cases m;exact BK O O
  have m:=Hk ao m;have cy:=Q.fl BG.f_Den;have cz:=cy.i;refine AU ?_;refine BD m O O O IJ O (λc0 a3 h' o=>Cd (St.all h') cz (iq (n:=1) O) (iq (n:=1125899906842624) O) a3) λc0 m=>AU ?_;cases m;exact A4 O
 refine AU ?_;obtain⟨c1,p,E⟩:=bd E;refine A3 6 146 (.bool c1) ?_ ?_
 ·cases ap:an
  ·have p:=Hl ap p;cases p;exact BK O O
  have p:=Hk ap p;have c2:=Q.fl Kl;have c3:=c2.i;have c4:=Q.fl Km;have c5:=c4.i;refine AU ?_;refine BD p O O O ZR O (λc6 a4 h' o=>L0 (St.all h') c3 c5 a4) λc6 p=>AU ?_;cases p;exact A4 O
 refine AU ?_;exact BW (kp [2] O) λer eg es=>RT
def Pg(l:St S L h){a:Value}{c:BG}(b:Rd S h CD a c)(E:Fs N c=some r):
 CG prog 152 #[a] S h (λv S' h'=>v= .bool r/\St S' (L) h'):=by
 refine CG.go 112 func152 O ntmps152 O λB=>?_;rw[Fs]at E;refine AU ?_;refine CC O b CE O l λn S2 o m p q=>AU ?_;refine AK O E (λd E=>?_) (λd E=>?_)
 ·exact RT
 refine AU ?_;refine AK O E (λg E=>?_) (λg E=>?_)
 ·exact RT
 refine AU ?_;refine AK O E (λi E=>?_) (λi E=>?_)
 ·exact RT
 refine AU ?_;refine AK O E (λj E=>?_) (λj E=>?_)
 ·exact RT
 refine AU ?_;refine AK O E (λk E=>?_) (λk E=>?_)
 ·exact RT
 exact RT
def QQ(hs:St S L h)(u:Rd S h Bz j k)(E:FY N k=some r):
 CG prog 77 #[j] S h (λv S' h'=>v= .bool r/\St S' (L) h'):=by
 refine CG.go 51 func77 O ntmps77 O λB=>?_;rw[FY]at E;refine AU ?_;refine CC O u CE O hs λq1 S2 h3 ah e5 k6=>?_;have k8:=k6.fl Hu;obtain⟨v9,_,ai⟩:=k8.ll;refine AU ?_;refine AT (λa w=>IV B S2 h3 (51,[]) a w [] (L) λ_ _=>Dv N=some r) ?_ ?_
 ·refine A0 (λn1=>λa w=>∃(m:Int),IV B S2 h3 (51,[]) a w [(7,vI (↑k.E.length:Int)),(6,v9),(1,q1),(8,vI m)] (L) λ_ _=>AB m/\CY N k (Dv N) n1 m=some r) N ?_ ?_ ?_
  ·intro y z p q;exact⟨0,_,_,p.sub (kp [7,6,1,8] O),q,ah,(CO.refl S2 h3),(iq (n:=0) O),E⟩
  ·rintro y z⟨_,_,_,_,_,_,_,_,E⟩;rw[CY]at E;cases E
  rintro n1 y z⟨m,a9,ba,p,q,x,D,bb,E⟩;refine AL ?_ p q;clear p q z y;rw[CY]at E;refine AU ?_;refine AK O E (λaj E=>?_) (λaj E=>?_)
  ·refine AU ?_;refine AW (AU ?_);have ak:=ai.mono' D;refine BE E O O ak PU.1 O λbc E be am=>?_;obtain⟨bf,_,an⟩:=am.lv;refine AU ?_;refine DT Po O x λbg bh F ao=>?_;have A:=an.mono ao;obtain⟨bi,bj,bk,rfl,bl,ap,G,aq,bm,bn,bo,bp,bq,br,bs,bt,bu,bv,bw,bx,bz,ar⟩:=CD.ex A;refine H5 O O O ON Pv.1 O F .head O λb0 l H=>AU ?_;refine CP (.inl O) l (AU ?_);refine BD E O O O IJ O (λI J h' o=>Cd (St.all h') ap (iq (n:=0) O) (iq (n:=5) O) J) λI E=>AU ?_;obtain⟨K,b,E⟩:=bd E;refine A3 8 24 (.bool K) ?_ ?_
   ·cases M:(!I)
    ·have b:=Hl M b;have au:=k6.nw;have av:=au.fl Ck;obtain⟨b1,_,aw⟩:=av.ll;have ax:=aw.le;refine AU ?_;refine BD b O O O Rk O (λay Q h' o=>Ig (St.all h') G (Mk ax) Q) λay b=>AU ?_;cases b;exact A4 O
    have b:=Hk M b;cases b;exact BK O O
   refine AU ?_;obtain⟨U,c,E⟩:=bd E;refine A3 8 33 (.bool U) ?_ ?_
   ·cases V:K
    ·have c:=Hl V c;have az:=k6.nw;obtain⟨b2,_,a0⟩:=az.lv;refine AU ?_;refine BD c O O O mK O (λa1 W h' o=>O0 (St.all h') (a0.mono (o.all l.1)) G aq W) λa1 c=>AU ?_;cases c;exact A4 O
    have c:=Hk V c;cases c;exact BK O O
   refine AU ?_;obtain⟨X,d,E⟩:=bd E;refine A3 5 39 (.bool X) ?_ ?_
   ·cases Y:U
    ·have d:=Hl Y d;refine AU ?_;refine BD d O O O IJ O (λa2 Z h' o=>Cd (St.all h') ar (iq (n:=0) O) (iq (n:=240) O) Z) λa2 d=>AU ?_;cases d;exact A4 O
    have d:=Hk Y d;cases d;exact BK O O
   refine AU ?_;obtain⟨ab,g,E⟩:=bd E;refine A3 4 44 (.bool ab) ?_ ?_
   ·cases ac:X
    ·have g:=Hl ac g;refine AU ?_;have s:=A.mono H;obtain⟨b3,ad,g⟩:=bd g;refine Jk O O O zB O (λh' o=>Pk (St.all h') (s.mono (o.all l.1)) ad) (AU ?_);cases g;exact A4 O
    have g:=Hk ac g;cases g;exact BK O O
   refine AU ?_;obtain⟨a3,i,E⟩:=bd E;refine A3 4 49 (.bool a3) ?_ ?_
   ·cases ae:ab
    ·have i:=Hl ae i;refine AU ?_;have t:=A.mono H;obtain⟨b4,af,i⟩:=bd i;refine Jk O O O zA O (λh' o=>Pg (St.all h') (t.mono (o.all l.1)) af) (AU ?_);cases i;exact A4 O
    have i:=Hk ae i;cases i;exact BK O O
   refine BW (kp [49,7,6,1,8] O) λb5 ag b6=>AK O E (λa4 E=>?_) (λa4 E=>?_)
   ·exact RT
   refine AU ?_;refine BF (AU ?_);refine WF.nil (λy z p q=>?_);have C:=ag.drop .head;exact⟨(BO (m+1)),_,_,p.sub (kp [7,6,1,8] O),q,C,EX,(BQ _),E⟩
  refine BL O (λy z p q=>?_);exact⟨_,_,p.sub Ts,q,x,D,E⟩
 rintro y z⟨a6,a7,p,q,a5,a8,E⟩;refine AL ?_ p q;clear p q z y;rw[Dv]at E;exact RT
def QR(l:St S L h){i:AF}(d:Rd S h Bz c i)(g:AB a)(j:AB b)(E:LM N i a b=some r):
 CG prog 153 #[c,vI a,vI b] S h (λv S' h'=>v= .bool r/\St S' (L) h'):=by
 refine CG.go 27 func153 O ntmps153 O λB=>?_;rw[LM]at E;refine AU ?_;refine CC O d CE O l λw S2 x m y n=>AU ?_;refine AK O E (λo E=>?_) (λo E=>?_)
 ·exact RT
 have p:=n.fl Ck;obtain⟨q,_,k⟩:=p.ll;refine AU ?_;exact BE E O O k OM.1 O λs E t u=>RT
def PJ(hs:St S L h){d:AF}(u:Rd S h Bz m d)(E:IU N d=some r):
 CG prog 78 #[m] S h (λv S' h'=>v= .bool r/\St S' (L) h'):=by
 refine CG.go 60 func78 O ntmps78 O λB=>?_;rw[IU]at E;refine AU ?_;refine CC O u CE O hs λq1 S2 h3 ap e5 k6=>?_;have k8:=k6.fl Ck;obtain⟨v9,_,aq⟩:=k8.ll;refine AU ?_;refine AT (λa w=>IV B S2 h3 (60,[]) a w [(1,q1)] (L) λ_ _=>EL N d=some r) ?_ ?_
 ·refine A0 (λn1=>λa w=>∃(p:Int),IV B S2 h3 (60,[]) a w [(10,vI (↑d.A.length:Int)),(9,v9),(1,q1),(11,vI p)] (L) λ_ _=>AB p/\EK N d (EL N d) n1 p=some r) N ?_ ?_ ?_
  ·intro k l g j;exact⟨0,_,_,g.sub (kp [10,9,1,11] O),j,ap,(CO.refl S2 h3),(iq (n:=0) O),E⟩
  ·rintro k l⟨_,_,_,_,_,_,_,_,E⟩;rw[EK]at E;cases E
  rintro n1 k l⟨p,cg,ch,g,j,x,Q,ci,E⟩;refine AL ?_ g j;clear g j l k;rw[EK]at E;refine AU ?_;refine AK O E (λar E=>?_) (λar E=>?_)
  ·refine AU ?_;refine AW (AU ?_);have au:=aq.mono' Q;refine BE E O O au OM.1 O λcj E ck av=>?_;obtain⟨cl,_,aw⟩:=av.lv;refine AU ?_;refine DT RO O x λcm cn U ax=>?_;have ay:=aw.mono ax;obtain⟨co,cp,cq,rfl,cr,cs,az,ct,cu,cv,cw,cx,a0,cy,cz,c0⟩:=B4.ex ay;refine H5 O O O ON RU.1 O U .head O λc1 y c2=>AU ?_;refine CP (.inl O) y ?_;have a1:=k6.nw;obtain⟨c3,_,a2⟩:=a1.lv;refine AU ?_;refine BD E O O O mJ O (λa3 V h' o=>QR (St.all h') (a2.mono (o.all y.1)) az a0 V) λa3 E=>AU ?_;refine BW (kp [21,10,9,1,11] O) λc4 W c5=>AK O E (λa4 E=>?_) (λa4 E=>?_)
   ·exact RT
   refine AU ?_;refine BF (AU ?_);refine WF.nil (λk l g j=>?_);have X:=W.drop .head;exact⟨(BO (p+1)),_,_,g.sub (kp [10,9,1,11] O),j,X,EX,(BQ _),E⟩
  refine BL O (λk l g j=>?_);exact⟨_,_,g.sub (kp [1] O),j,x,Q,E⟩
 rintro k l⟨G,I,g,j,Y,a5,E⟩;refine AL ?_ g j;clear g j l k;rw[EL]at E;have Z:=k6.mono a5;have a6:=Z.fl Hu;obtain⟨a7,_,a8⟩:=a6.ll;refine AU ?_;refine AT (λa w=>IV B G I (60,[]) a w [] (L) λ_ _=>GE N=some r) ?_ ?_
 ·refine A0 (λn3=>λa w=>∃(q:Int),IV B G I (60,[]) a w [(25,vI (↑d.E.length:Int)),(24,a7),(1,q1),(26,vI q)] (L) λ_ _=>AB q/\EJ N d (GE N) n3 q=some r) N ?_ ?_ ?_
  ·intro k l g j;exact⟨0,_,_,g.sub (kp [25,24,1,26] O),j,Y,(CO.refl G I),(iq (n:=0) O),E⟩
  ·rintro k l⟨_,_,_,_,_,_,_,_,E⟩;rw[EJ]at E;cases E
  rintro n3 k l⟨q,c6,c7,g,j,z,ab,c8,E⟩;refine AL ?_ g j;clear g j l k;rw[EJ]at E;refine AU ?_;refine AK O E (λa9 E=>?_) (λa9 E=>?_)
  ·refine AU ?_;refine AW (AU ?_);have ba:=a8.mono' ab;refine BE E O O ba PU.1 O λbb E c9 bc=>?_;obtain⟨da,_,be⟩:=bc.lv;refine AU ?_;refine DT Po O z λdb dc ac bf=>?_;have bg:=be.mono bf;obtain⟨bj,bk,bl,rfl,dd,de,df,bh,bm,bn,bo,bp,bq,br,bs,bt,bu,bv,bw,bx,bz,b0⟩:=CD.ex bg;refine H5 O O O ON Pv.1 O ac .head O λb1 s b2=>?_;have t:=Z.nw;have ad:=t.fl Ck;obtain⟨b3,_,ae⟩:=ad.ll;refine AU ?_;refine BE E O O ae OM.1 O λb4 E b5 af=>?_;have ag:=af.fl PY;have ah:=ag.i;refine AU ?_;refine CP (.inl O) s ?_;obtain⟨b6,_,ai⟩:=t.lv;refine AU ?_;refine BD E O O O mJ O (λC J h' o=>QR (St.all h') (ai.mono (o.all s.1)) ah bh J) λC E=>AU ?_;obtain⟨aj,b,E⟩:=bd E;refine A3 15 58 (.bool aj) ?_ ?_
   ·cases D:(!C)
    ·have b:=Hl D b;refine AU ?_;obtain⟨ak,c,b⟩:=bd b;refine A3 10 57 (.bool ak) ?_ ?_
     ·cases F:(decide (bb.H=4))
      ·have c:=Hl F c;cases c;exact BK O O
      have c:=Hk F c;have am:=t.fl Ck;obtain⟨b7,_,an⟩:=am.ll;refine AU ?_;refine BE c O O an OM.1 O λb8 c b9 ca=>AU ?_;cases c;exact A4 O
     refine AU ?_;cases b;exact A4 O
    have b:=Hk D b;cases b;exact BK O O
   refine BW (kp [58,25,24,1,26] O) λcb K cc=>AK O E (λao E=>?_) (λao E=>?_)
   ·exact RT
   refine AU ?_;refine BF (AU ?_);refine WF.nil (λk l g j=>?_);have M:=K.drop .head;exact⟨(BO (q+1)),_,_,g.sub (kp [25,24,1,26] O),j,M,EX,(BQ _),E⟩
  refine BL O (λk l g j=>?_);exact⟨_,_,g.sub Ts,j,z,ab,E⟩
 rintro k l⟨cd,ce,g,j,bi,cf,E⟩;refine AL ?_ g j;clear g j l k;rw[GE]at E;exact RT
def Jr(F:St S L h)(k:AB b){c:Int}(l:AB c){r:Int}(E:G9 N b c=some r):
 CG prog 154 #[vI b,vI c] S h (λv S' h'=>v=vI r/\AB r/\St S' (L) h'):=by
 refine CG.go 34 func154 O ntmps154 O λB=>?_;rw[G9]at E;refine AU ?_;refine AK O E (λG E=>?_) (λG E=>?_)
 ·exact RT
 refine AU ?_;refine AK O E (λH E=>?_) (λH E=>?_)
 ·exact RT
 refine AU ?_;refine CP (.inl O) F (AU ?_);refine IB O Ps MK O ?_;obtain⟨s,t,E⟩:=bd E;refine Kj (v:= .tuple #[.int .u64 s.1,.int .u64 s.2]) (Ψ:=IntKind.has .u64 s.1/\IntKind.has .u64 s.2) O O O mB O (λh' o=>(Nf (St.all h') (D8 _ _) (show IntKind.has .u64 1099511627776 by first|assumption|exact⟨by decide,by decide⟩) t).mono λ_ _ _ _ p=>⟨p.1,⟨p.2.1,p.2.2.1⟩⟩) λI=>?_;obtain⟨J,K⟩:=I;refine AU ?_;refine BW (kp [6,5,1] O) λY u Z=>AU ?_;refine CP (.inl O) u (AU ?_);refine IB O Ps MK O ?_;obtain⟨d,q,E⟩:=bd E;refine Kj (v:= .tuple #[.int .u64 d.1,.int .u64 d.2]) (Ψ:=IntKind.has .u64 d.1/\IntKind.has .u64 d.2) O O O mA O (λh' o=>(Ng (St.all h') J K (D8 _ _) q).mono λ_ _ _ _ p=>⟨p.1,⟨p.2.1,p.2.2.1⟩⟩) λx=>?_;obtain⟨y,M⟩:=x;refine AU ?_;refine BW (kp [8,7] O) λj i Q=>AU ?_;refine It (λa w=>∃(g:Int),IV B S j (34,[]) a w [(7,.int .u64 g)] (L) λ_ _=>IntKind.has .u64 g/\LK N g=some r) ?_ ?_
 ·refine AK O E (λz E=>?_) (λz E=>?_)
  ·refine AU ?_;refine WF.nil (λA C m n=>?_);exact⟨(IntKind.wrap .u64 (d.1+1)),_,_,m.sub (kp [7] O),n,i,(CO.refl S j),(D8 _ _),E⟩
  refine AU ?_;refine WF.nil (λA C m n=>?_);exact⟨d.1,_,_,m.sub (kp [7] O),n,i,(CO.refl S j),y,E⟩
 rintro A C⟨g,U,V,m,n,D,W,X,E⟩;refine AL ?_ m n;clear m n C A;rw[LK]at E;refine AU ?_;exact IB O MK Ps O (RT)
def Ro(hs:St S L h){b:List (List B3)}(i:Sl S h (A9.sl CH) c b){r:Int}(E:KP N b=some r):
 CG prog 155 #[c] S h (λv S' h'=>v=vI r/\AB r/\St S' (L) h'):=by
 refine CG.go 48 func155 O ntmps155 O λB=>?_;rw[KP]at E;refine AU ?_;refine AT (λa w=>∃(J:Int),IV B S h (48,[]) a w [(3,vI J)] (L) λ_ _=>AB J/\E5 N J=some r) ?_ ?_
 ·refine A0 (λK=>λa w=>∃(A:Int)(j:Int),IV B S h (48,[]) a w [(8,vI (↑b.length:Int)),(7,c),(3,vI A),(9,vI j)] (L) λ_ _=>AB A/\AB j/\Dx N b (E5 N) K A j=some r) N ?_ ?_ ?_
  ·intro k l d g;exact⟨0,0,_,_,d.sub (kp [8,7,3,9] O),g,hs,(CO.refl S h),(iq (n:=0) O),(iq (n:=0) O),E⟩
  ·rintro k l⟨_,_,_,_,_,_,_,_,_,_,E⟩;rw[Dx]at E;cases E
  rintro K k l⟨A,j,y,z,d,g,u,C,r9,ah,E⟩;refine AL ?_ d g;clear d g l k;rw[Dx]at E;refine AU ?_;refine AK O E (λM E=>?_) (λM E=>?_)
  ·refine AU ?_;refine AT (λa w=>∃(q:Int),IV B y z (48,[]) a w [(8,vI (↑b.length:Int)),(7,c),(9,vI j),(3,vI q)] (L) λ_ _=>AB q/\Gn N j (Dx N b (E5 N) K) q=some r) ?_ ?_
   ·refine AU ?_;have Q:=i.mono' C;refine BE E O O Q wD.1 O λU E ai V=>?_;obtain⟨W,_,s⟩:=V.ll;refine AU ?_;refine AW (A0 (λn3=>λa w=>∃(m:Int)(t:Int),IV B y z (48,[]) a w [(5,W),(8,vI (↑b.length:Int)),(7,c),(9,vI j),(3,vI m),(6,vI t)] (L) λ_ _=>AB m/\AB t/\Fq N U (Gn N j (Dx N b (E5 N) K)) n3 m t=some r) N ?_ ?_ ?_)
    ·intro k l d g;exact⟨A,1,_,_,d.sub (kp [5,8,7,9,3,6] O),g,u,(CO.refl y z),r9,(iq (n:=1) O),E⟩
    ·rintro k l⟨_,_,_,_,_,_,_,_,_,_,E⟩;rw[Fq]at E;cases E
    rintro n3 k l⟨m,t,aj,ak,d,g,x,p,D,al,E⟩;refine AL ?_ d g;clear d g l k;rw[Fq]at E;have am:=s.mono' p;refine AU ?_;refine AK O E (λX E=>?_) (λX E=>?_)
    ·refine AU ?_;refine AW (CP (.inr ⟨mo,Γ⟩) x (AU ?_));have Y:=s.mono' p;refine BE E O O Y MM.1 O λan E ao ap=>AU ?_;have Z:=s.mono' p;refine BE E O O Z MM.1 O λaq E ar au=>AU ?_;have ab:=s.mono' p;refine BE E O O ab MM.1 O λav E aw ax=>AU ?_;have ac:=s.mono' p;refine BE E O O ac MM.1 O λay E az a0=>AU ?_;refine DO E O O O TC O (λF G h' o=>Jr (St.all h') (BQ _) (BQ _) G) λF E ad=>?_;have ae:=ad;refine TK O O O (AU ?_);refine BW (kp [3,5,8,7,9,6] O) λa1 H a2=>BF (AU ?_);refine WF.nil (λk l d g=>?_);exact⟨(max m F),(BO (t+1)),_,_,d.sub (kp [5,8,7,9,3,6] O),g,H,EX,(TA D ae),(BQ _),E⟩
    refine IA O (WF.nil (λk l d g=>?_));exact⟨m,_,_,d.sub (kp [8,7,9,3] O),g,x,p,D,E⟩
   rintro k l⟨q,a3,a4,d,g,I,a5,af,E⟩;refine AL ?_ d g;clear d g l k;rw[Gn]at E;refine AU ?_;refine WF.nil (λk l d g=>?_);exact⟨q,(BO (j+1)),_,_,d.sub (kp [8,7,3,9] O),g,I,EX,af,(BQ _),E⟩
  refine BL O (λk l d g=>?_);exact⟨A,_,_,d.sub (kp [3] O),g,u,C,r9,E⟩
 rintro k l⟨J,a6,a7,d,g,ag,a8,r3,E⟩;refine AL ?_ d g;clear d g l k;rw[E5]at E;exact RT
def Ph(hs:St S L h)(a2:Rd S h Bz ah k)(E:Im N k=some r):
 CG prog 79 #[ah] S h (λv S' h'=>v= .bool r/\St S' (L) h'):=by
 refine CG.go 128 func79 O ntmps79 O λB=>?_;rw[Im]at E;refine AU ?_;refine CC O a2 CE O hs λq1 S2 h3 fo e5 k6=>AU ?_;obtain⟨dj,E⟩:=MF E;refine L4 (r:=AC) (zx:=0) JY O ⟨O,by unfold AB;omega⟩ O O dj O O fo λq bn dk fp=>?_;have dl:=k6.mono fp;have fq:=dl.fl Ck;obtain⟨fr,_,fs⟩:=fq.ll;refine AU ?_;refine AT (λa w=>∃(a3:xq),IV B S2 bn (128,[]) a w [(3,q),(1,q1)] (OS AC 3 q a3::L) λ_ _=>Ec N k a3=some r) ?_ ?_
 ·refine A0 (λn1=>λa w=>∃(ag:Int)(am:xq),IV B S2 bn (128,[]) a w [(16,vI (↑k.A.length:Int)),(15,fr),(3,q),(1,q1),(17,vI ag)] (OS AC 3 q am::L) λ_ _=>AB ag/\Ea N k (Ec N k) n1 ag am=some r) N ?_ ?_ ?_
  ·intro t u d g;exact⟨0,(List.replicate ((↑k.A.length:Int):Int).toNat (0:Int)),_,_,d.sub (kp [16,15,3,1,17] O),g,dk,(CO.refl S2 bn),(iq (n:=0) O),E⟩
  ·rintro t u⟨_,_,_,_,_,_,_,_,_,E⟩;rw[Ea]at E;cases E
  rintro n1 t u⟨ag,am,jr,js,d,g,a7,dm,jt,E⟩;refine AL ?_ d g;clear d g u t;rw[Ea]at E;refine AU ?_;refine AK O E (λft E=>?_) (λft E=>?_)
  ·refine AU ?_;refine AW (AU ?_);have fu:=fs.mono' dm;refine BE E O O fu OM.1 O λju E jv fv=>?_;obtain⟨jw,_,fw⟩:=fv.lv;refine AU ?_;refine DT RO O a7 λjx jy dn fx=>AU ?_;have fy:=fw.mono fx;obtain⟨jz,j0,j1,rfl,j2,j3,j4,j5,j6,j7,f0,f1,j8,j9,ka,kb⟩:=B4.ex fy;refine H5 O O O ON RU.1 O dn .head O λkc dp kd=>AU ?_;refine Cj (AU ?_);refine Dc E O O O TC O dp (λbo dq=>Jr (St.all _) f0 f1 dq) λbo E ke kf kg a8 kh ki p=>?_;obtain⟨rfl,f2,ge⟩:=p;refine AU ?_;obtain⟨kj,dr,E⟩:=bd E;refine BU a8 (mt mh) O O CW.1 dr O λkk ds=>AU ?_;obtain⟨f3,dt,E⟩:=bd E;refine Ei (r:=AC) (l:=am) (i:=ag) (x:=f3) O O (⟨_,O,O,f2⟩:Rd _ _ AC _ bo) ds dt NQ.id Fl.1 (λ_=>rfl) a8 (.tail .head) λkl du km=>AU ?_;refine BF (AU ?_);refine WF.nil (λt u d g=>?_);have dv:=du.sel [1] 1 O;exact⟨(BO (ag+1)),(upd am ag bo),_,_,d.sub (kp [16,15,3,1,17] O),g,dv,EX,(BQ _),E⟩
  refine BL O (λt u d g=>?_);exact⟨am,_,_,d.sub (kp [3,1] O),g,a7,dm,E⟩
 rintro t u⟨a3,bp,bq,d,g,dw,f4,E⟩;refine AL ?_ d g;clear d g u t;rw[Ec]at E;have f5:=dl.mono f4;have f6:=f5.fl Hu;obtain⟨ao,_,f7⟩:=f6.ll;refine AU ?_;refine AT (λa w=>∃(an:xq),IV B bp bq (128,[]) a w [(3,q)] (OS AC 3 q an::L) λ_ _=>DM N an=some r) ?_ ?_
 ·refine A0 (λn3=>λa w=>∃(Q:Int)(y:xq),IV B bp bq (128,[]) a w [(33,vI (↑k.E.length:Int)),(32,ao),(3,q),(34,vI Q)] (OS AC 3 q y::L) λ_ _=>AB Q/\B7 N k (DM N) n3 Q y=some r) N ?_ ?_ ?_
  ·intro t u d g;exact⟨0,a3,_,_,d.sub (kp [33,32,3,34] O),g,dw,(CO.refl bp bq),(iq (n:=0) O),E⟩
  ·rintro t u⟨_,_,_,_,_,_,_,_,_,E⟩;rw[B7]at E;cases E
  rintro n3 t u⟨Q,y,D,dx,d,g,ap,a9,kn,E⟩;refine AL ?_ d g;clear d g u t;rw[B7]at E;refine AU ?_;refine AK O E (λdy E=>?_) (λdy E=>?_)
  ·refine AU ?_;refine AT (λa w=>∃(ai:xq),IV B D dx (128,[]) a w [(33,vI (↑k.E.length:Int)),(32,ao),(3,q),(34,vI Q)] (OS AC 3 q ai::L) λ_ _=>C0 N Q (B7 N k (DM N) n3) ai=some r) ?_ ?_
   ·refine AU ?_;have dz:=f7.mono' a9;refine BE E O O dz PU.1 O λc E gf d0=>?_;obtain⟨gg,_,d1⟩:=d0.lv;refine AU ?_;refine DT Po O ap λz gh br d2=>?_;have d3:=d1.mono d2;obtain⟨ba,bb,bc,rfl,gi,gj,gl,gm,d4,d5,d6,gn,gp,gq,gr,be,bf,gs,gu,bg,bh,gv⟩:=CD.ex d3;refine H5 O O O ON Pv.1 O br .head O λF j gw=>AU ?_;refine AW (AU ?_);refine AK O E (λd7 E=>?_) (λd7 E=>?_)
    ·refine AU ?_;obtain⟨gx,bs,E⟩:=bd E;obtain⟨K,bt,E⟩:=bd E;obtain⟨M,bu,E⟩:=bd E;obtain⟨gy,bv,E⟩:=bd E;refine OA (m:=[(7,vP z 0),(33,vI (↑k.E.length:Int)),(32,ao),(3,q),(34,vI Q)]) 17 (λi v hh=>match i with|0=>v=q|1=>v=vP z 2|2=>v=vI c.J/\AB c.J|3=>EP q (c.J.toNat*(AC).sz+0) v|4=>v=vI K/\AB K|5=>v=vP z 4|6=>Sl D hh CH v c.As|7=>v=vP z 5|8=>v=vP z 5|9=>Sl D hh CH v c.Ae.Aw|10=>v=vP z 5|11=>v=vP z 6|12=>Sl D hh CH v c.Ae.Ax|13=>Sl (SN D F hh) hh (A9.sl CH) v ([c.As,c.Ae.Aw,c.Ae.Ax]:List (List B3))/\∃ad,v= .slice (some ad) 3 3|14=>v=vI M/\AB M|15=>v=vI (BO (K+M))/\AB (BO (K+M))|16=>EP q (c.J.toNat*(AC).sz+0) v|_=>False) [[],[],[(1,43)],[(0,42),(2,44)],[(3,45)],[],[(5,47)],[],[(7,49)],[(8,50)],[],[(10,52)],[(11,53)],[(6,48),(9,51),(12,54)],[(13,55)],[(4,46),(14,56)],[(0,42),(2,44)]] [(15,57),(16,58)] mo Γ [7,33,32,3,34] O Γ Γ Γ (kp [7,33,32,3,34] O) MO ?_ ?_
     ·refine A7.cons O F9 (A7.cons O F9 (A7.cons O F9 (A7.cons O ?_ ?_)))
      ·intro mq hh o;intro gz d8 g0 d9;have I:=o.st j;cases d8;obtain⟨rfl,g1⟩:=d9;refine AU ?_;refine BU I (mt mh) O O CW.1 bs O λg2 bw=>AU ?_;exact B1 bw
      refine A7.cons O ?_ ?_
      ·intro mq hh o;intro g3 eb;have I:=o.st j;refine AU ?_;have ec:=I.epAt (mt mh) bt FB.id eb;refine FA H4 (λ_ x=>x) O ec Fl.1 O λed=>AU ?_;exact B1 ⟨O,ed⟩
      refine A7.cons O F9 (A7.cons O ?_ ?_)
      ·intro mq hh o;intro g4 ee;have I:=o.st j;cases ee;refine AU ?_;have ef:=d4.nw;exact B1 ef
      refine A7.cons O F9 (A7.cons O F9 (A7.cons O ?_ ?_))
      ·intro mq hh o;intro g5 eg;have I:=o.st j;cases eg;refine AU ?_;have eh:=d5.nw;exact B1 eh
      refine A7.cons O F9 (A7.cons O F9 (A7.cons O ?_ ?_))
      ·intro mq hh o;intro g6 ei;have I:=o.st j;cases ei;refine AU ?_;have ej:=d6.nw;exact B1 ej
      refine A7.cons O ?_ ?_
      ·intro mq hh o;intro ek V el X em Z;have I:=SN.st j o;have V:=Sl.sn F V;have V:Sl _ _ CH ek c.As:=V;have X:=Sl.sn F X;have X:Sl _ _ CH el c.Ae.Aw:=X;have Z:=Sl.sn F Z;have Z:Sl _ _ CH em c.Ae.Ax:=Z;have f8:=I.fz;obtain⟨bx,a4,rfl,g7⟩:=(V).len;obtain⟨bz,a5,rfl,g8⟩:=(X).len;obtain⟨b0,a6,rfl,g9⟩:=(Z).len;refine IX (cs:=[(.slice bx c.As.length a4),(.slice bz c.Ae.Aw.length a5),(.slice b0 c.Ae.Ax.length a6)]) xU O O O O O O O f8 λha hc b1 aq=>?_;have en:=Z.mono' aq;have eo:=X.mono' aq;have ep:=V.mono' aq;have b2:=b1.bxos (r:=(A9.sl CH)) (l:=([c.As,c.Ae.Aw,c.Ae.Ax]:List (List B3))) .head ⟨_,_,O,⟨_,O,ep⟩,⟨_,_,O,⟨_,O,eo⟩,⟨_,_,O,⟨_,O,en⟩,O⟩⟩⟩ (by simp[maxLen]);obtain⟨hd,b3,he,eq⟩:=b2.pubs .head;have ar:=Fz.done o EX b3;exact BB ar.1 ⟨Sl.mono' eq ar.2,_,O⟩
      refine A7.cons O ?_ ?_
      ·intro mq hh o;intro hg au;have I:=SN.st j o;obtain⟨au,f9,rfl⟩:=au;refine El O O O yZ O I (Ro (St.all _) (au.mono I.ea.1 I.ea.2) bu) λhi hj hk ga hl bi p=>?_;obtain⟨rfl,er,gb⟩:=p;exact BB ⟨bi.siz,λb hb=>bi.same b hb⟩ ⟨O,er⟩
      refine A7.cons O F9 (A7.cons O ?_ ?_)
      ·intro mq hh o;intro hm es hn eu;have I:=o.st j;cases es;obtain⟨rfl,ho⟩:=eu;refine AU ?_;refine BU I (mt mh) O O CW.1 bv O λhp b4=>AU ?_;exact B1 b4
      exact trivial
     intro hq ev hr ew ht ey;have b5:=SN.st j ev;obtain⟨rfl,ez⟩:=ew;obtain⟨e0,b6,E⟩:=bd E;refine Ei (r:=AC) (l:=y) (i:=c.J) (x:=e0) O O (⟨_,O,O,ez⟩:Rd _ _ AC _ (BO (K+M))) ey b6 NQ.id Fl.1 (λ_=>rfl) b5 (.tail .head) λhu U hv=>AU ?_;refine AK O E (λe1 E=>?_) (λe1 E=>?_)
     ·refine Na 12 mo Γ O U (AU ?_);obtain⟨hx,b7,E⟩:=bd E;refine BU U (mt mh) O O CW.1 b7 O λhy b8=>?_;obtain⟨bj,b9,E⟩:=bd E;have e2:=U.epAt (mt mh) b9 FB.id b8;refine FA OK (λ_ x=>x) O e2 Fl.1 O λhz=>AU ?_;refine DO E O O O TC O (λav ca h' o=>Jr (St.all h') bg bh ca) λav E e3=>?_;have h0:=e3;refine AU ?_;obtain⟨h1,cb,E⟩:=bd E;refine BU U (mt mh) O O CW.1 cb O λh2 cc=>Lo λh4 cd h5=>?_;obtain⟨e4,ce,E⟩:=bd E;refine Ei (r:=AC) (l:=(upd y c.J (BO (K+M)))) (i:=c.C) (x:=e4) O O (⟨_,O,O,(BQ _)⟩:Rd _ _ AC _ (BO (bj+av))) cc ce NQ.id Fl.1 (λ_=>rfl) cd (.tail .head) λh6 cf h7=>AU ?_;refine BF (WF.nil (λt u d g=>?_));have cg:=cf.sel [1] 1 O;exact⟨(upd (upd y c.J (BO (K+M))) c.C (BO (bj+av))),_,_,d.sub (kp [33,32,3,34] O),g,cg,EX,E⟩
     refine AU ?_;refine BF (WF.nil (λt u d g=>?_));have ch:=U.sel [1] 1 O;exact⟨(upd y c.J (BO (K+M))),_,_,d.sub (kp [33,32,3,34] O),g,ch,EX,E⟩
    refine AU ?_;refine It (λa w=>∃(aw:Bool),IV B D F (128,[]) a w [(39,vI c.H),(7,vP z 0),(33,vI (↑k.E.length:Int)),(32,ao),(3,q),(34,vI Q),(74,.bool aw)] (Bx z 139 [.string c.G,vI c.H,vI c.J,vI c.C,ba,bb,bc,vI c.W,vI c.Ag,vI c.Bb,vI c.Bc,vI c.Y,vI c.T,vI c.Az,vI c.Ba,vI c.Aq,vI c.Al,vI c.S]::OS AC 3 q y::L) λ_ _=>Eb N y c (C0 N Q (B7 N k (DM N) n3)) aw=some r) ?_ ?_
    ·refine AK O E (λe6 E=>?_) (λe6 E=>?_)
     ·refine AU ?_;refine WF.nil (λt u d g=>?_);exact⟨(decide (c.H=1)),_,_,d.sub (kp [39,7,33,32,3,34,74] O),g,j,(CO.refl D F),E⟩
     refine AU ?_;refine It (λa w=>∃(aj:Bool),IV B D F (128,[]) a w [(39,vI c.H),(7,vP z 0),(33,vI (↑k.E.length:Int)),(32,ao),(3,q),(34,vI Q),(74,.bool aj)] (Bx z 139 [.string c.G,vI c.H,vI c.J,vI c.C,ba,bb,bc,vI c.W,vI c.Ag,vI c.Bb,vI c.Bc,vI c.Y,vI c.T,vI c.Az,vI c.Ba,vI c.Aq,vI c.Al,vI c.S]::OS AC 3 q y::L) λ_ _=>Ir N (Eb N y c (C0 N Q (B7 N k (DM N) n3))) aj=some r) ?_ ?_
     ·refine AK O E (λe7 E=>?_) (λe7 E=>?_)
      ·refine AU ?_;refine WF.nil (λt u d g=>?_);exact⟨(decide (c.H=5)),_,_,d.sub (kp [39,7,33,32,3,34,74] O),g,j,(CO.refl D F),E⟩
      refine AU ?_;refine WF.nil (λt u d g=>?_);exact⟨(decide (c.H=3)),_,_,d.sub (kp [39,7,33,32,3,34,74] O),g,j,(CO.refl D F),E⟩
     rintro t u⟨aj,h8,h9,d,g,ci,e8,E⟩;refine AL ?_ d g;clear d g u t;rw[Ir]at E;refine WF.nil (λt u d g=>?_);exact⟨aj,_,_,d.sub (kp [39,7,33,32,3,34,74] O),g,ci,e8,E⟩
    rintro t u⟨aw,ia,ib,d,g,s,ic,E⟩;refine AL ?_ d g;clear d g u t;rw[Eb]at E;refine AK O E (λe9 E=>?_) (λe9 E=>?_)
    ·refine Na 12 mo Γ O s (AU ?_);obtain⟨ie,cj,E⟩:=bd E;refine BU s (mt mh) O O CW.1 cj O λig ck=>?_;obtain⟨bk,cl,E⟩:=bd E;have fa:=s.epAt (mt mh) cl FB.id ck;refine FA OK (λ_ x=>x) O fa Fl.1 O λih=>AU ?_;refine DO E O O O TC O (λax cm h' o=>Jr (St.all h') be bf cm) λax E fb=>?_;have ii:=fb;refine AU ?_;obtain⟨ij,cn,E⟩:=bd E;refine BU s (mt mh) O O CW.1 cn O λik co=>Lo λil cp im=>?_;obtain⟨fc,cq,E⟩:=bd E;refine Ei (r:=AC) (l:=y) (i:=c.J) (x:=fc) O O (⟨_,O,O,(BQ _)⟩:Rd _ _ AC _ (BO (bk+ax))) co cq NQ.id Fl.1 (λ_=>rfl) cp (.tail .head) λio cr ip=>AU ?_;refine BF (WF.nil (λt u d g=>?_));have ct:=cr.sel [1] 1 O;exact⟨(upd y c.J (BO (bk+ax))),_,_,d.sub (kp [33,32,3,34] O),g,ct,EX,E⟩
    refine AU ?_;refine AK O E (λfd E=>?_) (λfd E=>?_)
    ·refine AU ?_;refine Na 13 mo Γ O s (AU ?_);obtain⟨ir,cu,E⟩:=bd E;refine BU s (mt mh) O O CW.1 cu O λit cv=>?_;obtain⟨ay,cw,E⟩:=bd E;have fe:=s.epAt (mt mh) cw FB.id cv;refine FA OK (λ_ x=>x) O fe Fl.1 O λiu=>AU ?_;refine DO E O O O TC O (λak cx h' o=>Jr (St.all h') be bf cx) λak E ff=>?_;have iv:=ff;refine AU ?_;obtain⟨iw,cy,E⟩:=bd E;refine BU s (mt mh) O O CW.1 cy O λiy cz=>Lo λiz c0 i0=>?_;obtain⟨fg,c1,E⟩:=bd E;refine Ei (r:=AC) (l:=y) (i:=c.J) (x:=fg) O O (⟨_,O,O,(BQ _)⟩:Rd _ _ AC _ (BO (ay+(BO (2*ak))))) cz c1 NQ.id Fl.1 (λ_=>rfl) c0 (.tail .head) λi1 ab i2=>AU ?_;refine Na 13 mo Γ O ab (AU ?_);obtain⟨i3,c2,E⟩:=bd E;refine BU ab (mt mh) O O CW.1 c2 O λi4 c3=>?_;obtain⟨bl,c4,E⟩:=bd E;have fh:=ab.epAt (mt mh) c4 FB.id c3;refine FA OK (λ_ x=>x) O fh Fl.1 O λi5=>AU ?_;refine DO E O O O TC O (λaz c5 h' o=>Jr (St.all h') bg bh c5) λaz E fi=>?_;have i6:=fi;refine AU ?_;obtain⟨i7,c6,E⟩:=bd E;refine BU ab (mt mh) O O CW.1 c6 O λi8 c7=>Lo λi9 c8 ja=>?_;obtain⟨fj,c9,E⟩:=bd E;refine Ei (r:=AC) (l:=(upd y c.J (BO (ay+(BO (2*ak)))))) (i:=c.C) (x:=fj) O O (⟨_,O,O,(BQ _)⟩:Rd _ _ AC _ (BO (bl+(BO (2*az))))) c7 c9 NQ.id Fl.1 (λ_=>rfl) c8 (.tail .head) λjb da jc=>AU ?_;refine BF (WF.nil (λt u d g=>?_));have db:=da.sel [1] 1 O;exact⟨(upd (upd y c.J (BO (ay+(BO (2*ak))))) c.C (BO (bl+(BO (2*az))))),_,_,d.sub (kp [33,32,3,34] O),g,db,EX,E⟩
    refine AU ?_;refine BF (WF.nil (λt u d g=>?_));have dc:=s.sel [1] 1 O;exact⟨y,_,_,d.sub (kp [33,32,3,34] O),g,dc,EX,E⟩
   rintro t u⟨ai,jd,je,d,g,dd,jf,E⟩;refine AL ?_ d g;clear d g u t;rw[C0]at E;refine AU ?_;refine WF.nil (λt u d g=>?_);exact⟨(BO (Q+1)),ai,_,_,d.sub (kp [33,32,3,34] O),g,dd,EX,(BQ _),E⟩
  refine BL O (λt u d g=>?_);exact⟨y,_,_,d.sub (kp [3] O),g,ap,a9,E⟩
 rintro t u⟨an,a0,a1,d,g,de,jg,E⟩;refine AL ?_ d g;clear d g u t;rw[DM]at E;refine AU ?_;refine AT (λa w=>IV B a0 a1 (128,[]) a w [] (L) λ_ _=>Ge N=some r) ?_ ?_
 ·refine A0 (λn8=>λa w=>∃(af:Int),IV B a0 a1 (128,[]) a w [(120,vI (↑an.length:Int)),(119,q),(121,vI af)] (OS AC 3 q an::L) λ_ _=>AB af/\EZ N an (Ge N) n8 af=some r) N ?_ ?_ ?_
  ·intro t u d g;exact⟨0,_,_,d.sub (kp [120,119,121] O),g,de,(CO.refl a0 a1),(iq (n:=0) O),E⟩
  ·rintro t u⟨_,_,_,_,_,_,_,_,E⟩;rw[EZ]at E;cases E
  rintro n8 t u⟨af,jh,ji,d,g,ac,bm,jj,E⟩;refine AL ?_ d g;clear d g u t;rw[EZ]at E;refine AU ?_;refine AK O E (λfk E=>?_) (λfk E=>?_)
  ·refine AU ?_;refine AW (AU ?_);obtain⟨jk,df,E⟩:=bd E;refine BU ac mh O O CW.1 df O λjl dg=>?_;obtain⟨jm,dh,E⟩:=bd E;have fm:=ac.epAt mh dh FB.id dg;refine FA H4 (λ_ x=>x) O fm Fl.1 O λjn=>AU ?_;refine AK O E (λfn E=>?_) (λfn E=>?_)
   ·exact RT
   refine AU ?_;refine BF (AU ?_);refine WF.nil (λt u d g=>?_);exact⟨(BO (af+1)),_,_,d.sub (kp [120,119,121] O),g,ac,bm,(BQ _),E⟩
  refine BL O (λt u d g=>?_);have di:=ac.drop .head;exact⟨_,_,d.sub Ts,g,di,bm,E⟩
 rintro t u⟨jo,jp,d,g,gc,jq,E⟩;refine AL ?_ d g;clear d g u t;rw[Ge]at E;exact RT
end Go.Proofs.YtabonambpbofgaaGreat
