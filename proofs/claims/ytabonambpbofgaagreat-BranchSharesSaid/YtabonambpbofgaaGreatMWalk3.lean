import Derived.Test.YtabonambpbofgaaGreatMInst
import Derived.Test.YtabonambpbofgaaGreatMForms
import Derived.Test.YtabonambpbofgaaGreatMSort5
import Derived.Test.YtabonambpbofgaaGreatMCore47
import Derived.Test.YtabonambpbofgaaGreatMSortD
import Derived.Test.YtabonambpbofgaaGreatMWalk1
namespace Go.Proofs.YtabonambpbofgaaGreat
set_option linter.all false
open Go.RowKit
open Go.Proofs.Tryz
set_option maxRecDepth 10000
set_option maxHeartbeats 20000000
variable {N:Nat}{S:Nat→Prop}{L:List HP}{h:AO}
def Ko (n:St S L h) {a:Int}(d:AA a) {b:Int}(g:AA b) {r:Bool}(E:Hc N a b=some r):
 CJ prog 148 #[vI a,vI b] S h (λv S' h'=>v= .bool r∧St S' (L) h'):=by
 refine CJ.go 19 func148 O ntmps148 O λB=>?_;rw[Hc] at E;refine AU ?_;refine CW (.inl O) n (AU ?_);refine BA E O O O Js O (λk i h' o=>Ck (St.all h') d i) λk E=>AU ?_;obtain⟨p,c,E⟩:=bd E;refine AY 3 10 (.bool p) ?_ ?_
 ·cases l:k
  ·have c:=HM l c;cases c;exact BE O O
  have c:=HL l c;refine AU ?_;refine BA c O O O Js O (λq j h' o=>Ck (St.all h') g j) λq c=>AU ?_;cases c;exact AZ O
 refine AU ?_;exact BW (kp [4] O) λt m s=>RT
def Hy (i:St S L h) {b:Int}(c:AA b) {a:Int}(d:AA a) {r:Bool}(E:Fq N b a=some r):
 CJ prog 150 #[vI b,vI a] S h (λv S' h'=>v= .bool r∧St S' (L) h'):=by
 refine CJ.go 9 func150 O ntmps150 O λB=>?_;rw[Fq] at E;refine AU ?_;refine CW (.inl O) i (AU ?_);refine BA E O O O He O (λj g h' o=>CY (St.all h') c (iq (n:=0) O) (BT _) g) λj E=>AU ?_;exact BW (kp [4] O) λl k m=>RT
def NY (w:St S L h) {d:Value}{j:AF}(i:Rd S h BZ d j) {a:Int}(k:AA a) {b:Int}(g:AA b) {r:Bool}(E:JV N j a b=some r):
 CJ prog 149 #[d,vI a,vI b] S h (λv S' h'=>v= .bool r∧St S' (L) h'):=by
 refine CJ.go 21 func149 O ntmps149 O λB=>?_;rw[JV] at E;refine AU ?_;refine Cn O i CE O w λD S2 F m G x=>AU ?_;refine CW (.inl O) m (AU ?_);obtain⟨y,c,E⟩:=bd E;refine AY 11 20 (.bool y) ?_ ?_
 ·cases t:(decide (b=(-1)))
  ·have c:=HM t c;have n:=x.fl Ce;obtain⟨z,_,p⟩:=n.ll;have q:=p.le;refine AU ?_;refine BA c O O O P1 O (λs l h' o=>Hy (St.all h') g (K4 q) l) λs c=>AU ?_;cases c;exact AZ O
  have c:=HL t c;cases c;exact BE O O
 refine AU ?_;exact BW (kp [6] O) λA u C=>RT
def OF (hs:St S L h) {M:Value}{b:AF}(ad:Rd S h BZ M b) {r:Bool}(E:HI N b=some r):
 CJ prog 76 #[M] S h (λv S' h'=>v= .bool r∧St S' (L) h'):=by
 refine CJ.go 122 func76 O ntmps76 O λB=>?_;rw[HI] at E;refine AU ?_;refine Cn O ad CE O hs λq1 S2 h3 cm e5 k6=>?_;have k8:=k6.fl Ce;obtain⟨v9,_,cn⟩:=k8.ll;refine AU ?_;refine AS (λa w=>∃(ae:Int),IV B S2 h3 (122,[]) a w [(3,vI ae)] (L) λ_ _=>AA ae∧CN N ae=some r) ?_ ?_
 ·refine A6 (λn1=>λa w=>∃(U:Int) (k:Int),IV B S2 h3 (122,[]) a w [(13,vI (↑b.A.length:Int)),(12,v9),(1,q1),(3,vI U),(14,vI k)] (L) λ_ _=>AA U∧AA k∧B1 N b (CN N) n1 U k=some r) N ?_ ?_ ?_
  ·intro x y d g;exact⟨0,0,_,_,d.sub (kp [13,12,1,3,14] O),g,cm,(BF.refl S2 h3),(iq (n:=0) O),(iq (n:=0) O),E⟩
  ·rintro x y ⟨_,_,_,_,_,_,_,_,_,_,E⟩;rw[B1] at E;cases E
  rintro n1 x y ⟨U,k,af,co,d,g,ah,a3,a4,cp,E⟩;refine AL ?_ d g;clear d g y x;rw[B1] at E;refine AU ?_;refine AH O E (λcq E=>?_) (λcq E=>?_)
  ·refine AU ?_;refine AS (λa w=>∃(V:Int),IV B af co (122,[]) a w [(13,vI (↑b.A.length:Int)),(12,v9),(1,q1),(14,vI k),(3,vI V)] (L) λ_ _=>AA V∧Cw N k (B1 N b (CN N) n1) V=some r) ?_ ?_
   ·refine AU ?_;have cr:=cn.mono' a3;refine BH E O O cr Mx.1 O λc E ea cs=>?_;obtain⟨eb,_,ct⟩:=cs.lv;refine AU ?_;refine Dp Pk O ah λag ec a5 cu=>AU ?_;have cv:=ct.mono cu;obtain⟨a6,an,ao,rfl,ed,cw,cx,cy,cz,a7,c0,c1,c2,c3,c4,c5⟩:=BY.ex cv;refine JZ O O O ON Po.1 O a5 .head O λee W a8=>AU ?_;refine CW (.inl O) W (AU ?_);refine BA E O O O He O (λa9 ba h' o=>CY (St.all h') cw (iq (n:=0) O) (iq (n:=3) O) ba) λa9 E=>AU ?_;obtain⟨bb,l,E⟩:=bd E;refine AY 5 28 (.bool bb) ?_ ?_
    ·cases bc:(!a9)
     ·have l:=HM bc l;refine AU ?_;refine BA l O O O He O (λc6 be h' o=>CY (St.all h') cx (iq (n:=0) O) (iq (n:=2) O) be) λc6 l=>AU ?_;cases l;exact AZ O
     have l:=HL bc l;cases l;exact BE O O
    refine AU ?_;obtain⟨bf,m,E⟩:=bd E;refine AY 5 34 (.bool bf) ?_ ?_
    ·cases bg:bb
     ·have m:=HM bg m;refine AU ?_;refine BA m O O O He O (λc7 bh h' o=>CY (St.all h') c3 (iq (n:=0) O) (iq (n:=240) O) bh) λc7 m=>AU ?_;cases m;exact AZ O
     have m:=HL bg m;cases m;exact BE O O
    refine AU ?_;obtain⟨bi,p,E⟩:=bd E;refine AY 5 40 (.bool bi) ?_ ?_
    ·cases bj:bf
     ·have p:=HM bj p;refine AU ?_;refine BA p O O O Js O (λc8 bk h' o=>Ck (St.all h') cy bk) λc8 p=>AU ?_;cases p;exact AZ O
     have p:=HL bj p;cases p;exact BE O O
    refine AU ?_;obtain⟨bl,q,E⟩:=bd E;refine AY 5 46 (.bool bl) ?_ ?_
    ·cases bm:bi
     ·have q:=HM bm q;refine AU ?_;refine BA q O O O Js O (λc9 bn h' o=>Ck (St.all h') c4 bn) λc9 q=>AU ?_;cases q;exact AZ O
     have q:=HL bm q;cases q;exact BE O O
    refine AU ?_;obtain⟨bo,s,E⟩:=bd E;refine AY 5 52 (.bool bo) ?_ ?_
    ·cases bp:bl
     ·have s:=HM bp s;refine AU ?_;have da:=cz.mono' a8;refine BA s O O O P2 O (λdb bq h' o=>Hx (St.all h') (da.mono' (o.all W.1)) bq) λdb s=>AU ?_;cases s;exact AZ O
     have s:=HL bp s;cases s;exact BE O O
    have ef:=a7.mono' a8;have eg:=k6.nw;refine AU ?_;obtain⟨br,t,E⟩:=bd E;refine AY 7 69 (.bool br) ?_ ?_
    ·cases bs:(bo||(decide ((↑c.An.length:Int)≠(↑b.H.length:Int))))
     ·have t:=HM bs t;refine AU ?_;refine BA t O O O W3 O (λdc bt h' o=>Ko (St.all h') c0 c1 bt) λdc t=>AU ?_;cases t;exact AZ O
     have t:=HL bs t;cases t;exact BE O O
    refine AU ?_;obtain⟨dd,u,E⟩:=bd E;refine AY 7 77 (.bool dd) ?_ ?_
    ·cases bu:br
     ·have u:=HM bu u;have de:=k6.nw;obtain⟨dh,_,bv⟩:=de.lv;refine AU ?_;refine BA u O O O eJ O (λbw ap h' o=>NY (St.all h') (bv.mono (o.all W.1)) cp c2 ap) λbw u=>AU ?_;cases u;exact AZ O
     have u:=HL bu u;cases u;exact BE O O
    refine BW (kp [77,5,13,12,1,3,14] O) λX aq di=>AH O E (λbx E=>?_) (λbx E=>?_)
    ·exact RT
    have bz:=a7.nw;refine AU ?_;refine AS (λa w=>∃(z:Int),IV B af X (122,[]) a w [(5,vP ag 0),(13,vI (↑b.A.length:Int)),(12,v9),(1,q1),(14,vI k),(3,vI z)] (Bx ag 133 [.string c.D,vI c.F,vI c.At,vI c.Au,a6,an,vI c.Y,vI c.S,vI c.Ao,vI c.Q,vI c.Bg,ao]::L) λ_ _=>AA z∧Et N b c (Cw N k (B1 N b (CN N) n1)) z=some r) ?_ ?_
    ·refine A6 (λn4=>λa w=>∃(C:Int) (G:Int),IV B af X (122,[]) a w [(80,vI (↑c.An.length:Int)),(79,an),(5,vP ag 0),(13,vI (↑b.A.length:Int)),(12,v9),(1,q1),(14,vI k),(3,vI C),(81,vI G)] (Bx ag 133 [.string c.D,vI c.F,vI c.At,vI c.Au,a6,an,vI c.Y,vI c.S,vI c.Ao,vI c.Q,vI c.Bg,ao]::L) λ_ _=>AA C∧AA G∧DA N c (Et N b c (Cw N k (B1 N b (CN N) n1))) n4 C G=some r) N ?_ ?_ ?_
     ·intro x y d g;exact⟨U,0,_,_,d.sub (kp [80,79,5,13,12,1,14,3,81] O),g,aq,(BF.refl af X),a4,(iq (n:=0) O),E⟩
     ·rintro x y ⟨_,_,_,_,_,_,_,_,_,_,E⟩;rw[DA] at E;cases E
     rintro n4 x y ⟨C,G,dj,dk,d,g,Z,ai,b0,dl,E⟩;refine AL ?_ d g;clear d g y x;rw[DA] at E;refine AU ?_;refine AH O E (λb1 E=>?_) (λb1 E=>?_)
     ·refine AU ?_;refine A4 (AU ?_);have b2:=bz.mono' ai;refine BH E O O b2 CQ.1 O λb3 E dm b4=>?_;have b5:=b4.i;refine AU ?_;refine CW (.inl O) Z (AU ?_);refine BA E O O O Js O (λb6 ar h' o=>Ck (St.all h') b5 ar) λb6 E=>AU ?_;refine BW (kp [87,7,80,79,5,13,12,1,14,3,81] O) λdn au dp=>AH O E (λb7 E=>?_) (λb7 E=>?_)
      ·exact RT
      refine AU ?_;refine BK (AU ?_);refine WF.nil (λx y d g=>?_);exact⟨(BO (C+b3)),(BO (G+1)),_,_,d.sub (kp [80,79,5,13,12,1,14,3,81] O),g,au,EX,(BT _),(BT _),E⟩
     refine BL O (λx y d g=>?_);exact⟨C,_,_,d.sub (kp [5,13,12,1,14,3] O),g,Z,ai,b0,E⟩
    rintro x y ⟨z,aj,ak,d,g,av,dq,b8,E⟩;refine AL ?_ d g;clear d g y x;rw[Et] at E;have b9:=c5.nw;refine AU ?_;refine A4 (A6 (λn5=>λa w=>∃(I:Int) (K:Int),IV B aj ak (122,[]) a w [(94,vI (↑c.T.length:Int)),(93,ao),(13,vI (↑b.A.length:Int)),(12,v9),(1,q1),(14,vI k),(3,vI z),(8,vI I),(95,vI K)] (L) λ_ _=>AA I∧AA K∧CX N b c z (Cw N k (B1 N b (CN N) n1)) n5 I K=some r) N ?_ ?_ ?_)
    ·intro x y d g;have aw:=av.drop .head;exact⟨(-1),0,_,_,d.sub (kp [94,93,13,12,1,14,3,8,95] O),g,aw,(BF.refl aj ak),(iq (n:=(-1)) O),(iq (n:=0) O),E⟩
    ·rintro x y ⟨_,_,_,_,_,_,_,_,_,_,E⟩;rw[CX] at E;cases E
    rintro n5 x y ⟨I,K,dr,ds,d,g,ab,ca,dt,du,E⟩;refine AL ?_ d g;clear d g y x;rw[CX] at E;refine AU ?_;refine AH O E (λcb E=>?_) (λcb E=>?_)
    ·refine AU ?_;refine A4 (AU ?_);have cc:=b9.mono' ca;refine BH E O O cc oK.1 O λac E dv cd=>?_;obtain⟨dw,_,ce⟩:=cd.lv;refine AU ?_;refine Dp mY O ab λdx dy ax cf=>?_;have cg:=ce.mono cf;obtain⟨rfl,⟨ch,ci⟩⟩:=Jt.ex cg;refine Eh O O O O nO.1 O ax .head O λdz ay d0=>AU ?_;refine CW (.inl O) ay ?_;have d1:=k6.nw;refine AU ?_;obtain⟨cj,j,E⟩:=bd E;refine AY 5 115 (.bool cj) ?_ ?_
     ·cases am:((decide (ac.Bf≤I))||(decide (b.J≤ac.Bf)))
      ·have j:=HM am j;refine AU ?_;refine BA j O O O Js O (λck az h' o=>Ck (St.all h') ci az) λck j=>AU ?_;cases j;exact AZ O
      have j:=HL am j;cases j;exact BE O O
     refine BW (kp [115,10,94,93,13,12,1,14,3,95] O) λd2 a0 d3=>AH O E (λcl E=>?_) (λcl E=>?_)
     ·exact RT
     refine AU ?_;refine BK (AU ?_);refine WF.nil (λx y d g=>?_);have a1:=a0.drop .head;exact⟨ac.Bf,(BO (K+1)),_,_,d.sub (kp [94,93,13,12,1,14,3,8,95] O),g,a1,EX,ch,(BT _),E⟩
    refine JB O (WF.nil (λx y d g=>?_));exact⟨z,_,_,d.sub (kp [13,12,1,14,3] O),g,ab,EX,b8,E⟩
   rintro x y ⟨V,d4,d5,d,g,a2,d6,df,E⟩;refine AL ?_ d g;clear d g y x;rw[Cw] at E;refine AU ?_;refine WF.nil (λx y d g=>?_);exact⟨V,(BO (k+1)),_,_,d.sub (kp [13,12,1,3,14] O),g,a2,EX,df,(BT _),E⟩
  refine BL O (λx y d g=>?_);exact⟨U,_,_,d.sub (kp [3] O),g,ah,a3,a4,E⟩
 rintro x y ⟨ae,d7,d8,d,g,dg,d9,eh,E⟩;refine AL ?_ d g;clear d g y x;rw[CN] at E;exact RT
def Rn (X:St S L h) {g:Int}(q:AA g) {i:Value}{p:(Int→Option Bool)}(s:Rd S h (A5.fn prog (λx:Int=>([vI x]:List Value)) (λx:Int=>AA x) (λy:Bool=> .bool y) (λy:Bool=>True)) i p) {r:Int}(E:Ld N g p=some r):
 CJ prog 241 #[vI g,i] S h (λv S' h'=>v=vI r∧AA r∧St S' (L) h'):=by
 refine CJ.go 26 func241 O ntmps241 O λB=>?_;rw[Ld] at E;obtain⟨H,I,rfl,J,K⟩:=s.fn;refine AU ?_;refine AS (λa w=>∃(F:Int),IV B S h (26,[]) a w [(5,vI F)] (L) λ_ _=>AA F∧JQ N F=some r) ?_ ?_
 ·refine A6 (λV=>λa w=>∃(c:Int) (d:Int),IV B S h (26,[]) a w [(1,(.func (.func H) #[] I)),(5,vI c),(6,vI d)] (L) λ_ _=>AA c∧AA d∧Gy N p (JQ N) V c d=some r) N ?_ ?_ ?_
  ·intro u z l m;exact⟨0,g,_,_,l.sub (kp [1,5,6] O),m,X,(BF.refl S h),(iq (n:=0) O),q,E⟩
  ·rintro u z ⟨_,_,_,_,_,_,_,_,_,_,E⟩;rw[Gy] at E;cases E
  rintro V u z ⟨c,d,Y,Z,l,m,k,t,C,M,E⟩;refine AL ?_ l m;clear l m z u;rw[Gy] at E;refine AU ?_;refine AH O E (λQ E=>?_) (λQ E=>?_)
  ·refine AU ?_;refine A4 (AU ?_);refine JE O Qr Wb O (KJ (j:=1) O O O O (JE O Wb Qr O (AU ?_)));refine CW (.inl O) k (AU ?_);obtain⟨ab,D,E⟩:=bd E;refine JX O O O J O (λh' o=>K _ h' (λb G=>Aa8 (k.1 b (t.sub b G)) o.siz) (λb G=>(o.same b (k.1 b (t.sub b G))).trans (t.same b G)) [] (St.all h') _ _ (BT _) D) (AU ?_);refine BW (kp [21,7,1,5,6] O) λac A ad=>AH O E (λU E=>?_) (λU E=>?_)
   ·refine AU ?_;refine BK (WF.nil (λu z l m=>?_));exact⟨(BO ((BO (FV .u64 (IntKind.wrap .u64 (BO (c+d))) 1))+1)),d,_,_,l.sub (kp [1,5,6] O),m,A,EX,(BT _),M,E⟩
   refine AU ?_;refine BK (WF.nil (λu z l m=>?_));exact⟨c,(BO (FV .u64 (IntKind.wrap .u64 (BO (c+d))) 1)),_,_,l.sub (kp [1,5,6] O),m,A,EX,C,(BT _),E⟩
  refine BL O (λu z l m=>?_);exact⟨c,_,_,l.sub (kp [5] O),m,k,t,C,E⟩
 rintro u z ⟨F,ae,af,l,m,W,ag,r6,E⟩;refine AL ?_ l m;clear l m z u;rw[JQ] at E;exact RT
def Qf (l:St S L h) {a:Int}(i:AA a) {b:Value}{g:(List BU)}(d:Pt S h (A5.sl CA) b g) {c:Value}{c2_:Int}(j:Pt S h AB c c2_) {r:Bool}(E:I1 N g c2_ a=some r):
 CJ prog 242 #[vI a,b,c] S h (λv S' h'=>v= .bool r∧St S' (L) h'):=by
 refine CJ.go 12 func242 O ntmps242 O λB=>?_;rw[I1] at E;refine AU ?_;refine H7 (.inr ⟨mo,by kernel_rfl⟩) ?_;obtain⟨v1,_,k⟩:=d.ll;refine AU ?_;exact BH E O O k K0.1 O λm E n o=>RT
def MG (i:St S L h) {a:Int}(c:IntKind.has .u64 a) {b:Int}(d:IntKind.has .u64 b) {r:Int×Int}(E:Ht N a b=some r):
 CJ prog 202 #[.int .u64 a,.int .u64 b] S h (λv S' h'=>v= .tuple #[.int .u64 r.1,.int .u64 r.2]∧IntKind.has .u64 r.1∧IntKind.has .u64 r.2∧St S' (L) h'):=by
 refine CJ.go 51 func202 O ntmps202 O λB=>?_;rw[Ht] at E;refine AU ?_;refine KJ (j:=32) O O O O (AU ?_);refine KJ (j:=32) O O O O (AU ?_);refine KJ (j:=32) O O O O (AU ?_);refine KJ (j:=32) O O O O (AU ?_);refine KJ (j:=32) O O O O (AU ?_);refine CI (λl m g k=>?_);cases E;exact Kv g O k (Io (Jk g (v:=_) O) (Io (Jk g (v:=_) O) Ku)) O (BF.refl S h) ⟨O,(FX _ _),(FX _ _),i⟩
def PR (I:St S L h) {d:Int}(g:IntKind.has .u64 d) {r:Int}(E:I6 N d=some r):
 CJ prog 243 #[.int .u64 d] S h (λv S' h'=>v=vI r∧AA r∧St S' (L) h'):=by
 refine CJ.go 25 func243 O ntmps243 O λB=>?_;rw[I6] at E;refine AU ?_;refine IC (λa w=>∃(x:Int) (y:Int),IV B S h (25,[]) a w [(0,.int .u64 x),(2,vI y)] (L) λ_ _=>IntKind.has .u64 x∧AA y∧G1 N x y=some r) ?_ ?_
 ·refine AH O E (λM E=>?_) (λM E=>?_)
  ·refine AU ?_;refine KJ (j:=32) O O O O (AU ?_);refine WF.nil (λl m b c=>?_);exact⟨(FV .u64 d 32),32,_,_,b.sub (kp [0,2] O),c,I,(BF.refl S h),(R6 _ g _),(iq (n:=32) O),E⟩
  refine AU ?_;refine WF.nil (λl m b c=>?_);exact⟨d,0,_,_,b.sub (kp [0,2] O),c,I,(BF.refl S h),g,(iq (n:=0) O),E⟩
 rintro l m ⟨x,y,C,D,b,c,z,e9,J,Q,E⟩;refine AL ?_ b c;clear b c m l;rw[G1] at E;refine AU ?_;refine IC (λa w=>∃(i:Int) (k:Int),IV B C D (25,[]) a w [(0,.int .u64 i),(2,vI k)] (L) λ_ _=>IntKind.has .u64 i∧AA k∧G0 N i k=some r) ?_ ?_
 ·refine AH O E (λF E=>?_) (λF E=>?_)
  ·refine AU ?_;refine KJ (j:=16) O O O O (AU ?_);refine WF.nil (λl m b c=>?_);exact⟨(FV .u64 x 16),(BO (y+16)),_,_,b.sub (kp [0,2] O),c,z,(BF.refl C D),(R6 _ J _),(BT _),E⟩
  refine AU ?_;refine WF.nil (λl m b c=>?_);exact⟨x,y,_,_,b.sub (kp [0,2] O),c,z,(BF.refl C D),J,Q,E⟩
 rintro l m ⟨i,k,t,u,b,c,q,U,A,G,E⟩;refine AL ?_ b c;clear b c m l;rw[G0] at E;refine AU ?_;refine IC (λa w=>∃(o:Int) (p:Int),IV B t u (25,[]) a w [(0,.int .u64 o),(2,vI p)] (L) λ_ _=>IntKind.has .u64 o∧AA p∧Gz N o p=some r) ?_ ?_
 ·refine AH O E (λH E=>?_) (λH E=>?_)
  ·refine AU ?_;refine KJ (j:=8) O O O O (AU ?_);refine WF.nil (λl m b c=>?_);exact⟨(FV .u64 i 8),(BO (k+8)),_,_,b.sub (kp [0,2] O),c,q,(BF.refl t u),(R6 _ A _),(BT _),E⟩
  refine AU ?_;refine WF.nil (λl m b c=>?_);exact⟨i,k,_,_,b.sub (kp [0,2] O),c,q,(BF.refl t u),A,G,E⟩
 rintro l m ⟨o,p,V,W,b,c,K,X,Y,Z,E⟩;refine AL ?_ b c;clear b c m l;rw[Gz] at E;refine AU ?_;refine JE O M4 tX O ?_;obtain⟨ab,s,E⟩:=bd E;have ac:=Qi s;exact Qn O O TU s O (JE O tX Qr O (RT))
def MA (d:St S L h) {a:Int}(b:IntKind.has .u64 a) {r:Int}(E:Fk N a=some r):
 CJ prog 228 #[.int .u64 a] S h (λv S' h'=>v=vI r∧AA r∧St S' (L) h'):=by
 refine CJ.go 6 func228 O ntmps228 O λB=>?_;rw[Fk] at E;refine AU ?_;refine CW (.inl O) d (AU ?_);refine DF E O O O qE O (λg c h' o=>PR (St.all h') b c) λg E i=>?_;have k:=i;refine AU ?_;exact BW (kp [2] O) λl j m=>RT
def MH (hs:St S L h) {d:Int}(X:IntKind.has .u64 d) {b:Int}(x:IntKind.has .u64 b) {c:Int}(D:IntKind.has .u64 c) {r:Int×Int}(E:GS N d b c=some r):
 CJ prog 203 #[.int .u64 d,.int .u64 b,.int .u64 c] S h (λv S' h'=>v= .tuple #[.int .u64 r.1,.int .u64 r.2]∧IntKind.has .u64 r.1∧IntKind.has .u64 r.2∧St S' (L) h'):=by
 refine CJ.go 135 func203 O ntmps203 O λB=>?_;rw[GS] at E;refine AU ?_;refine AH O E (λc1 E=>?_) (λc1 E=>?_)
 ·cases E
 refine AU ?_;refine AH O E (λc2 E=>?_) (λc2 E=>?_)
 ·cases E
 refine AU ?_;refine AH O E (λc3 E=>?_) (λc3 E=>?_)
 ·refine AU ?_;refine H7 (.inr ⟨mo,by kernel_rfl⟩) (AU ?_);obtain⟨z4,Y,E⟩:=bd E;have r5:IntKind.has .u64 z4:=OZ Y;refine U3 O O O Y (AU ?_);obtain⟨z6,Z,E⟩:=bd E;have r7:IntKind.has .u64 z6:=bM x Z;refine jX O O O Z (AU ?_);refine CI (λq s i l=>?_);cases E;exact Kv i O l (Io (Jk i (v:=_) O) (Io (Jk i (v:=_) O) Ku)) O (BF.refl S h) ⟨O,r5,r7,hs⟩
 refine AU ?_;refine CW (.inl O) hs (AU ?_);refine DF E O O O qK O (λF aj h' o=>MA (St.all h') D aj) λF E r9=>?_;have av:=r9;refine JE O Qr Wb O (AU ?_);refine BW (kp [8,0,1,2] O) λJ ab aw=>AU ?_;obtain⟨g,ac,E⟩:=bd E;refine U2 (j:=g) O O O ac (AU ?_);refine KJ (j:=32) O O O O (AU ?_);obtain⟨m,ad,E⟩:=bd E;refine U2 (j:=m) O O O ad (AU ?_);obtain⟨n,ae,E⟩:=bd E;refine KJ (j:=n) O O O ae (sR O O O (AU ?_));obtain⟨k,af,E⟩:=bd E;refine U2 (j:=k) O O O af (AU ?_);refine KJ (j:=32) O O O O (AU ?_);obtain⟨K,H,E⟩:=bd E;have ak:IntKind.has .u64 K:=OZ H;refine U3 O O O H (AU ?_);refine AS (λa w=>∃(p:Int),IV B S J (135,[]) a w [(14,.int .u64 (JA .and .u64 (EL .u64 b k) 4294967295)),(13,.int .u64 (FV .u64 (EL .u64 b k) 32)),(11,.int .u64 (JA .or .u64 (EL .u64 d m) (FV .u64 b n))),(10,.int .u64 (JA .and .u64 (EL .u64 c g) 4294967295)),(9,.int .u64 (FV .u64 (EL .u64 c g) 32)),(2,.int .u64 (EL .u64 c g)),(8,.int .u64 (IntKind.wrap .u64 F)),(15,.int .u64 p)] (L) λ_ _=>IntKind.has .u64 p∧EC N d b c F g m n k p=some r) ?_ ?_
 ·refine A6 (λn1=>λa w=>∃(t:Int) (y:Int),IV B S J (135,[]) a w [(14,.int .u64 (JA .and .u64 (EL .u64 b k) 4294967295)),(13,.int .u64 (FV .u64 (EL .u64 b k) 32)),(11,.int .u64 (JA .or .u64 (EL .u64 d m) (FV .u64 b n))),(10,.int .u64 (JA .and .u64 (EL .u64 c g) 4294967295)),(9,.int .u64 (FV .u64 (EL .u64 c g) 32)),(2,.int .u64 (EL .u64 c g)),(8,.int .u64 (IntKind.wrap .u64 F)),(15,.int .u64 t),(16,.int .u64 y)] (L) λ_ _=>IntKind.has .u64 t∧IntKind.has .u64 y∧Do N b c g k (EC N d b c F g m n k) n1 t y=some r) N ?_ ?_ ?_
  ·intro q s i l;exact⟨K,(IntKind.wrap .u64 ((JA .or .u64 (EL .u64 d m) (FV .u64 b n))-(IntKind.wrap .u64 (K*(FV .u64 (EL .u64 c g) 32))))),_,_,i.sub (kp [14,13,11,10,9,2,8,15,16] O),l,ab,(BF.refl S J),ak,(FX _ _),E⟩
  ·rintro q s ⟨_,_,_,_,_,_,_,_,_,_,E⟩;rw[Do] at E;cases E
  rintro n1 q s ⟨t,y,ax,ay,i,l,z,M,al,az,E⟩;refine AL ?_ i l;clear i l s q;rw[Do] at E;refine AU ?_;refine AH O E (λam E=>?_) (λam E=>?_)
  ·refine AU ?_;refine A4 (AU ?_);refine AH O E (λan E=>?_) (λan E=>?_)
   ·refine BL O (λq s i l=>?_);exact⟨(IntKind.wrap .u64 (t-1)),_,_,i.sub (kp [14,13,11,10,9,2,8,15] O),l,z,M,(FX _ _),E⟩
   refine AU ?_;refine BK (WF.nil (λq s i l=>?_));exact⟨(IntKind.wrap .u64 (t-1)),(IntKind.wrap .u64 (y+(FV .u64 (EL .u64 c g) 32))),_,_,i.sub (kp [14,13,11,10,9,2,8,15,16] O),l,z,M,(FX _ _),(FX _ _),E⟩
  refine BL O (λq s i l=>?_);exact⟨t,_,_,i.sub (kp [14,13,11,10,9,2,8,15] O),l,z,M,al,E⟩
 rintro q s ⟨p,Q,U,i,l,ag,a0,a1,E⟩;refine AL ?_ i l;clear i l s q;rw[EC] at E;refine AU ?_;obtain⟨V,I,E⟩:=bd E;have ao:IntKind.has .u64 V:=OZ I;refine U3 O O O I (AU ?_);refine AS (λa w=>∃(G:Int),IV B Q U (135,[]) a w [(17,.int .u64 (IntKind.wrap .u64 ((IntKind.wrap .u64 ((IntKind.wrap .u64 ((JA .or .u64 (EL .u64 d m) (FV .u64 b n))*4294967296))+(FV .u64 (EL .u64 b k) 32)))-(IntKind.wrap .u64 (p*(EL .u64 c g)))))),(14,.int .u64 (JA .and .u64 (EL .u64 b k) 4294967295)),(2,.int .u64 (EL .u64 c g)),(8,.int .u64 (IntKind.wrap .u64 F)),(15,.int .u64 p),(18,.int .u64 G)] (L) λ_ _=>IntKind.has .u64 G∧Fl N d b c F g m n k p G=some r) ?_ ?_
 ·refine A6 (λn3=>λa w=>∃(A:Int) (u:Int),IV B Q U (135,[]) a w [(17,.int .u64 (IntKind.wrap .u64 ((IntKind.wrap .u64 ((IntKind.wrap .u64 ((JA .or .u64 (EL .u64 d m) (FV .u64 b n))*4294967296))+(FV .u64 (EL .u64 b k) 32)))-(IntKind.wrap .u64 (p*(EL .u64 c g)))))),(14,.int .u64 (JA .and .u64 (EL .u64 b k) 4294967295)),(10,.int .u64 (JA .and .u64 (EL .u64 c g) 4294967295)),(9,.int .u64 (FV .u64 (EL .u64 c g) 32)),(2,.int .u64 (EL .u64 c g)),(8,.int .u64 (IntKind.wrap .u64 F)),(15,.int .u64 p),(16,.int .u64 A),(18,.int .u64 u)] (L) λ_ _=>IntKind.has .u64 A∧IntKind.has .u64 u∧EB N b c g k (Fl N d b c F g m n k p) n3 A u=some r) N ?_ ?_ ?_
  ·intro q s i l;exact⟨(IntKind.wrap .u64 ((IntKind.wrap .u64 ((IntKind.wrap .u64 ((IntKind.wrap .u64 ((JA .or .u64 (EL .u64 d m) (FV .u64 b n))*4294967296))+(FV .u64 (EL .u64 b k) 32)))-(IntKind.wrap .u64 (p*(EL .u64 c g)))))-(IntKind.wrap .u64 (V*(FV .u64 (EL .u64 c g) 32))))),V,_,_,i.sub (kp [17,14,10,9,2,8,15,16,18] O),l,ag,(BF.refl Q U),(FX _ _),ao,E⟩
  ·rintro q s ⟨_,_,_,_,_,_,_,_,_,_,E⟩;rw[EB] at E;cases E
  rintro n3 q s ⟨A,u,a2,a3,i,l,C,W,a4,ap,E⟩;refine AL ?_ i l;clear i l s q;rw[EB] at E;refine AU ?_;refine AH O E (λaq E=>?_) (λaq E=>?_)
  ·refine AU ?_;refine A4 (AU ?_);refine AH O E (λar E=>?_) (λar E=>?_)
   ·refine BL O (λq s i l=>?_);exact⟨(IntKind.wrap .u64 (u-1)),_,_,i.sub (kp [17,14,2,8,15,18] O),l,C,W,(FX _ _),E⟩
   refine AU ?_;refine BK (WF.nil (λq s i l=>?_));exact⟨(IntKind.wrap .u64 (A+(FV .u64 (EL .u64 c g) 32))),(IntKind.wrap .u64 (u-1)),_,_,i.sub (kp [17,14,10,9,2,8,15,16,18] O),l,C,W,(FX _ _),(FX _ _),E⟩
  refine BL O (λq s i l=>?_);exact⟨u,_,_,i.sub (kp [17,14,2,8,15,18] O),l,C,W,ap,E⟩
 rintro q s ⟨G,a5,a6,i,l,ah,a7,a8,E⟩;refine AL ?_ i l;clear i l s q;rw[Fl] at E;refine AU ?_;obtain⟨au,ai,E⟩:=bd E;refine KJ (j:=au) O O O ai (AU ?_);refine CI (λq s i l=>?_);cases E;exact Kv i O l (Io (Jk i (v:=_) O) (Io (Jk i (v:=_) O) Ku)) O EX ⟨O,(FX _ _),(R6 _ (FX _ _) _),ah⟩
def Jn (F:St S L h) {d:Int}(s:AA d) {a:Int}(l:AA a) {b:Int}(m:AA b) {r:Int×Int×Bool}(E:Gd N d a b=some r):
 CJ prog 195 #[vI d,vI a,vI b] S h (λv S' h'=>v= .tuple #[vI r.1,vI r.2.1,.bool r.2.2]∧AA r.1∧AA r.2.1∧St S' (L) h'):=by
 refine CJ.go 61 func195 O ntmps195 O λB=>?_;rw[Gd] at E;refine AU ?_;refine AH O E (λG E=>?_) (λG E=>?_)
 ·refine AU ?_;refine CI (λu w c k=>?_);cases E;exact Kv c O k (Io (Jk c (v:=_) O) (Io (Jk c (v:=_) O) (Io (Jk c (v:=_) O) Ku))) O (BF.refl S h) ⟨O,(iq (n:=0) O),(iq (n:=0) O),F⟩
 refine AU ?_;refine CW (.inl O) F (AU ?_);refine JE O Qr M4 O (AU ?_);refine JE O Qr M4 O ?_;obtain⟨t,x,E⟩:=bd E;refine Jp (v:= .tuple #[.int .u64 t.1,.int .u64 t.2]) (Ψ:=IntKind.has .u64 t.1∧IntKind.has .u64 t.2) O O O dW O (λh' o=>(MG (St.all h') (FX _ _) (FX _ _) x).mono λ_ _ _ _ p=>⟨p.1,⟨p.2.1,p.2.2.1⟩⟩) λH=>?_;obtain⟨I,y⟩:=H;refine AU ?_;refine BW (kp [10,9,2] O) λJ i z=>AU ?_;refine JE O Qr M4 O (AU ?_);refine AH O E (λA E=>?_) (λA E=>?_)
 ·refine AU ?_;refine CI (λu w c k=>?_);cases E;exact Kv c O k (Io (Jk c (v:=_) O) (Io (Jk c (v:=_) O) (Io (Jk c (v:=_) O) Ku))) O z ⟨O,(iq (n:=0) O),(iq (n:=0) O),i⟩
 refine AU ?_;refine CW (.inl O) i (AU ?_);refine JE O Qr M4 O ?_;obtain⟨g,q,E⟩:=bd E;refine Jp (v:= .tuple #[.int .u64 g.1,.int .u64 g.2]) (Ψ:=IntKind.has .u64 g.1∧IntKind.has .u64 g.2) O O O dV O (λh' o=>(MH (St.all h') I y (FX _ _) q).mono λ_ _ _ _ p=>⟨p.1,⟨p.2.1,p.2.2.1⟩⟩) λC=>?_;obtain⟨K,M⟩:=C;refine AU ?_;refine BW (kp [12,11] O) λQ j U=>AU ?_;refine AH O E (λD E=>?_) (λD E=>?_)
 ·refine AU ?_;refine CI (λu w c k=>?_);cases E;exact Kv c O k (Io (Jk c (v:=_) O) (Io (Jk c (v:=_) O) (Io (Jk c (v:=_) O) Ku))) O EX ⟨O,(iq (n:=0) O),(iq (n:=0) O),j⟩
 refine AU ?_;refine JE O M4 Qr O (AU ?_);refine JE O M4 Qr O (AU ?_);refine CI (λu w c k=>?_);cases E;exact Kv c O k (Io (Jk c (v:=_) O) (Io (Jk c (v:=_) O) (Io (Jk c (v:=_) O) Ku))) O EX ⟨O,(BT _),(BT _),j⟩
def MB (J:St S L h) {b:Value}{c:(List BU)}(j:Sl S h CA b c) {a:Int}(k:AA a) {r:Int×Bool}(E:JJ N c a=some r):
 CJ prog 227 #[b,vI a] S h (λv S' h'=>v= .tuple #[vI r.1,.bool r.2]∧AA r.1∧St S' (L) h'):=by
 refine CJ.go 63 func227 O ntmps227 O λB=>?_;rw[JJ] at E;refine AU ?_;refine Cn O (Jx j) (λ_=>rfl) O J λq1 S2 h3 K e5 k6=>Cn O (⟨_,O,O,k⟩:Rd _ _ AB _ a) (λ_=>rfl) O K λq7 S8 h9 m M s=>AU ?_;refine CW (.inl O) m ?_;have l:=k6.mono M;obtain⟨ap,_,Q⟩:=l.ll;have U:=Q.le;refine AU ?_;refine RH O O O ?_;have t:Rd S8 h9 (A5.fn prog (λx:Int=>([vI x]:List Value)) (λx:Int=>AA x) (λy:Bool=> .bool y) (λy:Bool=>True)) (.func (.func 242) #[] #[q1,q7]) (λx=>I1 N c a x):=Rd.ofFn 242 #[q1,q7] qF λS' h' s' e' L J x y h1 h2=>(Qf J h1 (l.mono'' s' e') (s.mono'' s' e') h2).mono λ_ _ _ _ p=>⟨p.1,trivial,p.2⟩
 refine DF E O O O qG O (λV u h' o=>Rn (St.all h') (K4 U) (t.mono (o.all m.1)) u) λV E W=>?_;have aq:=W;refine AU ?_;refine BW (kp [6,3,2] O) λar n w=>AU ?_;refine AH O E (λX E=>?_) (λX E=>?_)
 ·have Y:=l.mono w;obtain⟨au,_,Z⟩:=Y.ll;refine AU ?_;refine BH E O O Z K0.1 O λav E aw ab=>?_;have ac:=ab.fl TN;have ad:=ac.i;refine AU ?_;refine CI (λaa ww d z=>?_);cases E;exact Kv d O z (Io (Jk d (v:=_) O) (Io (Jk d (v:=_) O) Ku)) O EX ⟨O,ad,n⟩
 have A:=l.mono w;obtain⟨ax,_,ae⟩:=A.ll;refine AU ?_;refine BH E O O ae K0.1 O λay E az af=>?_;obtain⟨a0,_,ag⟩:=af.lv;refine AU ?_;refine Dp UK O n λa1 a2 C ah=>?_;have ai:=ag.mono ah;obtain⟨rfl,⟨a3,aj⟩⟩:=CA.ex ai;refine Eh O O O O UN.1 O C .head O λa4 q a5=>?_;have D:=A.nw;refine AU ?_;refine AH O E (λak E=>?_) (λak E=>?_)
 ·refine AU ?_;refine CI (λaa ww d z=>?_);have F:=q.drop .head;cases E;exact Kv d O z (Io (Jk d (v:=_) O) (Io (Jk d (v:=_) O) Ku)) O EX ⟨O,aj,F⟩
 refine AU ?_;refine CW (.inr ⟨mo,by kernel_rfl⟩) q ?_;have a6:=s.nw;obtain⟨a7,_,am⟩:=D.ll;refine AU ?_;refine BH E O O am K0.1 O λa8 E a9 ba=>?_;obtain⟨bb,_,an⟩:=D.ll;refine AU ?_;refine BH E O O an K0.1 O λbc E be bf=>AU ?_;obtain⟨g,G,E⟩:=bd E;refine Jp (v:= .tuple #[vI g.1,vI g.2.1,.bool g.2.2]) (Ψ:=AA g.1∧AA g.2.1) O O O S7 O (λh' o=>(Jn (St.all h') (BT _) (BT _) (BT _) G).mono λ_ _ _ _ p=>⟨p.1,⟨p.2.1,p.2.2.1⟩⟩) λao=>?_;obtain⟨bg,bh⟩:=ao;refine AU ?_;refine BW (kp [9,8,7] O) λbi H bj=>AU ?_;refine CI (λaa ww d z=>?_);have I:=H.drop .head;cases E;exact Kv d O z (Io (Jk d (v:=_) O) (Io (Jk d (v:=_) O) Ku)) O EX ⟨O,(BT _),I⟩
def N3 (W:St S L h) {b:Value}{d:(List BU)}(k:Sl S h CA b d) {c:Value}{g:(List BU)}(l:Sl S h CA c g) {r:Bool}(E:IJ N d g=some r):
 CJ prog 201 #[b,c] S h (λv S' h'=>v= .bool r∧St S' (L) h'):=by
 refine CJ.go 66 func201 O ntmps201 O λB=>?_;rw[IJ] at E;refine AU ?_;refine CW (.inl O) W (AU ?_);refine BA E O O O P2 O (λy1 X h' o=>Hx (St.all h') (k.mono' (o.all W.1)) X) λy1 E=>AU ?_;obtain⟨b4,m,E⟩:=bd E;refine AY 4 20 (.bool b4) ?_ ?_
 ·cases c3:(!y1)
  ·have m:=HM c3 m;refine AU ?_;refine BA m O O O P2 O (λy5 Y h' o=>Hx (St.all h') (l.mono' (o.all W.1)) Y) λy5 m=>AU ?_;cases m;exact AZ O
  have m:=HL c3 m;cases m;exact BE O O
 refine BW (kp [20,0,1] O) λZ ab e9=>AH O E (λac E=>?_) (λac E=>?_)
 ·exact RT
 have ad:=k.mono' e9;refine AU ?_;refine AS (λa w=>IV B S Z (66,[]) a w [(0,b),(1,c)] (L) λ_ _=>G4 N d g=some r) ?_ ?_
 ·refine A6 (λn1=>λa w=>∃(s:Int),IV B S Z (66,[]) a w [(22,vI (↑d.length:Int)),(21,b),(0,b),(1,c),(23,vI s)] (L) λ_ _=>AA s∧G3 N d g (G4 N d g) n1 s=some r) N ?_ ?_ ?_
  ·intro p q i j;exact⟨0,_,_,i.sub (kp [22,21,0,1,23] O),j,ab,(BF.refl S Z),(iq (n:=0) O),E⟩
  ·rintro p q ⟨_,_,_,_,_,_,_,_,E⟩;rw[G3] at E;cases E
  rintro n1 p q ⟨s,a7,a8,i,j,u,D,a9,E⟩;refine AL ?_ i j;clear i j q p;rw[G3] at E;refine AU ?_;refine AH O E (λae E=>?_) (λae E=>?_)
  ·refine AU ?_;refine A4 (AU ?_);have af:=ad.mono' D;refine BH E O O af K0.1 O λba E bb ag=>?_;obtain⟨bc,_,ah⟩:=ag.lv;refine AU ?_;refine Dp UK O u λbe bf F ai=>?_;have aj:=ah.mono ai;obtain⟨rfl,⟨ak,bg⟩⟩:=CA.ex aj;refine Eh O O O O UN.1 O F .head O λbh x bi=>AU ?_;refine CW (.inl O) x (AU ?_);have am:=l.nw;refine DF E O O O W2 O (λan G h' o=>MB (St.all h') (am.mono' (o.all x.1)) ak G) λan E ao=>?_;have bj:=ao;refine AU ?_;refine BW (kp [7,6,22,21,0,1,23] O) λbk H bl=>AU ?_;refine AH O E (λap E=>?_) (λap E=>?_)
   ·exact RT
   refine AU ?_;refine BK (AU ?_);refine WF.nil (λp q i j=>?_);have I:=H.drop .head;exact⟨(BO (s+1)),_,_,i.sub (kp [22,21,0,1,23] O),j,I,EX,(BT _),E⟩
  refine BL O (λp q i j=>?_);exact⟨_,_,i.sub (kp [0,1] O),j,u,D,E⟩
 rintro p q ⟨A,C,i,j,J,bm,E⟩;refine AL ?_ i j;clear i j q p;rw[G4] at E;have aq:=l.nw;refine AU ?_;refine AS (λa w=>IV B A C (66,[]) a w [] (L) λ_ _=>IP N=some r) ?_ ?_
 ·refine A6 (λn3=>λa w=>∃(t:Int),IV B A C (66,[]) a w [(40,vI (↑g.length:Int)),(39,c),(0,b),(41,vI t)] (L) λ_ _=>AA t∧G2 N d g (IP N) n3 t=some r) N ?_ ?_ ?_
  ·intro p q i j;exact⟨0,_,_,i.sub (kp [40,39,0,41] O),j,J,(BF.refl A C),(iq (n:=0) O),E⟩
  ·rintro p q ⟨_,_,_,_,_,_,_,_,E⟩;rw[G2] at E;cases E
  rintro n3 p q ⟨t,bn,bo,i,j,y,K,bp,E⟩;refine AL ?_ i j;clear i j q p;rw[G2] at E;refine AU ?_;refine AH O E (λar E=>?_) (λar E=>?_)
  ·refine AU ?_;refine A4 (AU ?_);have au:=aq.mono' K;refine BH E O O au K0.1 O λbq E br av=>?_;obtain⟨bs,_,aw⟩:=av.lv;refine AU ?_;refine Dp UK O y λbt bu M ax=>?_;have ay:=aw.mono ax;obtain⟨rfl,⟨az,bv⟩⟩:=CA.ex ay;refine Eh O O O O UN.1 O M .head O λbw z bx=>AU ?_;refine CW (.inl O) z (AU ?_);have a0:=k.nw;refine DF E O O O W2 O (λa1 Q h' o=>MB (St.all h') (a0.mono' (o.all z.1)) az Q) λa1 E a2=>?_;have bz:=a2;refine AU ?_;refine BW (kp [12,11,10,40,39,0,41] O) λb0 U b1=>AU ?_;refine AH O E (λa3 E=>?_) (λa3 E=>?_)
   ·exact RT
   refine AU ?_;refine BK (AU ?_);refine WF.nil (λp q i j=>?_);have V:=U.drop .head;exact⟨(BO (t+1)),_,_,i.sub (kp [40,39,0,41] O),j,V,EX,(BT _),E⟩
  refine BL O (λp q i j=>?_);exact⟨_,_,i.sub Sa,j,y,K,E⟩
 rintro p q ⟨b2,a5,i,j,a4,a6,E⟩;refine AL ?_ i j;clear i j q p;rw[IP] at E;exact RT
def OH (hs:St S L h) {I:Value}{D:A8}(W:Rd S h B8 I D) {r:Bool}(E:GL N D=some r):
 CJ prog 151 #[I] S h (λv S' h'=>v= .bool r∧St S' (L) h'):=by
 refine CJ.go 152 func151 O ntmps151 O λB=>?_;rw[GL] at E;refine AU ?_;refine Cn O W CE O hs λq1 S2 h3 C e5 H=>AU ?_;refine A4 (AU ?_);refine AH O E (λc7 E=>?_) (λc7 E=>?_)
 ·refine AU ?_;refine CW (.inl O) C ?_;have c8:=H.fl KL;obtain⟨eu,_,c9⟩:=c8.ll;refine AU ?_;refine BA E O O O P2 O (λa5 a6 h' o=>Hx (St.all h') (c9.mono' (o.all C.1)) a6) λa5 E=>AU ?_;obtain⟨a7,q,E⟩:=bd E;refine AY 5 15 (.bool a7) ?_ ?_
  ·cases a8:a5
   ·have q:=HM a8 q;cases q;exact BE O O
   have q:=HL a8 q;have da:=H.fl IE;have db:=da.fl N0;obtain⟨ev,_,dc⟩:=db.ll;refine AU ?_;refine BA q O O O P2 O (λdd a9 h' o=>Hx (St.all h') (dc.mono' (o.all C.1)) a9) λdd q=>AU ?_;cases q;exact AZ O
  refine AU ?_;obtain⟨ba,s,E⟩:=bd E;refine AY 5 21 (.bool ba) ?_ ?_
  ·cases bb:a7
   ·have s:=HM bb s;cases s;exact BE O O
   have s:=HL bb s;have de:=H.fl IE;have df:=de.fl N1;obtain⟨ew,_,dg⟩:=df.ll;refine AU ?_;refine BA s O O O P2 O (λdh bc h' o=>Hx (St.all h') (dg.mono' (o.all C.1)) bc) λdh s=>AU ?_;cases s;exact AZ O
  refine AU ?_;obtain⟨be,t,E⟩:=bd E;refine AY 7 29 (.bool be) ?_ ?_
  ·cases bf:ba
   ·have t:=HM bf t;cases t;exact BE O O
   have t:=HL bf t;have di:=H.fl IE;have dj:=di.fl N0;obtain⟨ex,_,dk⟩:=dj.ll;have dl:=H.fl KL;obtain⟨ey,_,dm⟩:=dl.ll;refine AU ?_;refine BA t O O O dX O (λdn bg h' o=>N3 (St.all h') (dk.mono' (o.all C.1)) (dm.mono' (o.all C.1)) bg) λdn t=>AU ?_;cases t;exact AZ O
  refine AU ?_;obtain⟨bh,u,E⟩:=bd E;refine AY 7 37 (.bool bh) ?_ ?_
  ·cases bi:be
   ·have u:=HM bi u;cases u;exact BE O O
   have u:=HL bi u;have dp:=H.fl KL;obtain⟨ez,_,dq⟩:=dp.ll;have dr:=H.fl IE;have ds:=dr.fl N1;obtain⟨e0,_,dt⟩:=ds.ll;refine AU ?_;refine BA u O O O dX O (λdu bj h' o=>N3 (St.all h') (dq.mono' (o.all C.1)) (dt.mono' (o.all C.1)) bj) λdu u=>AU ?_;cases u;exact AZ O
  refine AU ?_;obtain⟨bk,x,E⟩:=bd E;refine AY 4 42 (.bool bk) ?_ ?_
  ·cases bl:bh
   ·have x:=HM bl x;cases x;exact BE O O
   have x:=HL bl x;have dv:=H.fl GV;have dw:=dv.i;refine AU ?_;refine BA x O O O He O (λdx bm h' o=>CY (St.all h') dw (iq (n:=0) O) (iq (n:=64) O) bm) λdx x=>AU ?_;cases x;exact AZ O
  refine AU ?_;obtain⟨bn,y,E⟩:=bd E;refine AY 6 49 (.bool bn) ?_ ?_
  ·cases bo:bk
   ·have y:=HM bo y;cases y;exact BE O O
   have y:=HL bo y;have dy:=H.fl Ke;have dz:=dy.i;have d0:=H.fl GV;have d1:=d0.i;refine AU ?_;refine BA y O O O He O (λd2 bp h' o=>CY (St.all h') dz (iq (n:=0) O) d1 bp) λd2 y=>AU ?_;cases y;exact AZ O
  refine AU ?_;obtain⟨bq,z,E⟩:=bd E;refine AY 4 54 (.bool bq) ?_ ?_
  ·cases br:bn
   ·have z:=HM br z;cases z;exact BE O O
   have z:=HL br z;have d3:=H.fl Nz;have d4:=d3.i;refine AU ?_;refine BA z O O O Js O (λd5 bs h' o=>Ck (St.all h') d4 bs) λd5 z=>AU ?_;cases z;exact AZ O
  refine AU ?_;obtain⟨d6,A,E⟩:=bd E;refine AY 6 61 (.bool d6) ?_ ?_
  ·cases bt:bq
   ·have A:=HM bt A;cases A;exact BE O O
   have A:=HL bt A;have d7:=H.fl Jq;have d8:=d7.i;have d9:=H.fl Jr;have ea:=d9.i;refine AU ?_;refine BA A O O O W3 O (λeb bu h' o=>Ko (St.all h') d8 ea bu) λeb A=>AU ?_;cases A;exact AZ O
  refine AU ?_;exact BW (kp [2] O) λeh ec ei=>RT
 refine AU ?_;refine IC (λa w=>∃(U:Bool),IV B S2 h3 (152,[]) a w [(4,vI D.F),(1,q1),(72,.bool U)] (L) λ_ _=>EI N D U=some r) ?_ ?_
 ·refine AH O E (λbv E=>?_) (λbv E=>?_)
  ·refine AU ?_;refine WF.nil (λaa ww hf hw=>?_);exact⟨(decide (D.F=1)),_,_,hf.sub (kp [4,1,72] O),hw,C,(BF.refl S2 h3),E⟩
  refine AU ?_;refine WF.nil (λaa ww hf hw=>?_);exact⟨(decide (D.F=5)),_,_,hf.sub (kp [4,1,72] O),hw,C,(BF.refl S2 h3),E⟩
 rintro aa ww ⟨U,ej,ek,hf,hw,G,J,E⟩;refine AL ?_ hf hw;clear hf hw ww aa;rw[EI] at E;refine AH O E (λbw E=>?_) (λbw E=>?_)
 ·refine AU ?_;refine CW (.inl O) G ?_;have V:=H.mono J;have bx:=V.fl NF;have bz:=bx.i;refine AU ?_;refine BA E O O O Js O (λX aq h' o=>Ck (St.all h') bz aq) λX E=>AU ?_;obtain⟨Y,b,E⟩:=bd E;refine AY 4 82 (.bool Y) ?_ ?_
  ·cases Z:X
   ·have b:=HM Z b;cases b;exact BE O O
   have b:=HL Z b;have b0:=V.fl A8.f_Num;have b1:=b0.i;refine AU ?_;refine BA b O O O Js O (λb2 ar h' o=>Ck (St.all h') b1 ar) λb2 b=>AU ?_;cases b;exact AZ O
  refine AU ?_;obtain⟨b3,c,E⟩:=bd E;refine AY 4 87 (.bool b3) ?_ ?_
  ·cases ab:Y
   ·have c:=HM ab c;cases c;exact BE O O
   have c:=HL ab c;have b4:=V.fl A8.f_Den;have b5:=b4.i;refine AU ?_;refine BA c O O O He O (λb6 au h' o=>CY (St.all h') b5 (iq (n:=1) O) (iq (n:=1125899906842624) O) au) λb6 c=>AU ?_;cases c;exact AZ O
  refine AU ?_;exact BW (kp [2] O) λel ed em=>RT
 refine AU ?_;refine AH O E (λb7 E=>?_) (λb7 E=>?_)
 ·refine AU ?_;refine CW (.inl O) G ?_;have K:=H.mono J;have b8:=K.fl A8.f_Num;have b9:=b8.i;refine AU ?_;refine BA E O O O Js O (λac av h' o=>Ck (St.all h') b9 av) λac E=>AU ?_;obtain⟨ad,d,E⟩:=bd E;refine AY 4 97 (.bool ad) ?_ ?_
  ·cases ae:ac
   ·have d:=HM ae d;cases d;exact BE O O
   have d:=HL ae d;have ca:=K.fl GV;have cb:=ca.i;refine AU ?_;refine BA d O O O He O (λcc aw h' o=>CY (St.all h') cb (iq (n:=1) O) (iq (n:=64) O) aw) λcc d=>AU ?_;cases d;exact AZ O
  refine AU ?_;obtain⟨cd,g,E⟩:=bd E;refine AY 6 104 (.bool cd) ?_ ?_
  ·cases af:ad
   ·have g:=HM af g;cases g;exact BE O O
   have g:=HL af g;have ce:=K.fl Ke;have cf:=ce.i;have cg:=K.fl GV;have ch:=cg.i;refine AU ?_;refine BA g O O O He O (λci ax h' o=>CY (St.all h') cf (iq (n:=0) O) ch ax) λci g=>AU ?_;cases g;exact AZ O
  refine AU ?_;exact BW (kp [2] O) λen ee eo=>RT
 refine AU ?_;refine AH O E (λcj E=>?_) (λcj E=>?_)
 ·refine AU ?_;refine CW (.inl O) G ?_;have M:=H.mono J;have ck:=M.fl A8.f_Num;have cl:=ck.i;refine AU ?_;refine BA E O O O Js O (λag ay h' o=>Ck (St.all h') cl ay) λag E=>AU ?_;obtain⟨ah,j,E⟩:=bd E;refine AY 4 114 (.bool ah) ?_ ?_
  ·cases ai:ag
   ·have j:=HM ai j;cases j;exact BE O O
   have j:=HL ai j;have cm:=M.fl A8.f_Den;have cn:=cm.i;refine AU ?_;refine BA j O O O He O (λco az h' o=>CY (St.all h') cn (iq (n:=1) O) (iq (n:=1125899906842624) O) az) λco j=>AU ?_;cases j;exact AZ O
  refine AU ?_;obtain⟨aj,k,E⟩:=bd E;refine AY 4 119 (.bool aj) ?_ ?_
  ·cases ak:ah
   ·have k:=HM ak k;cases k;exact BE O O
   have k:=HL ak k;have cp:=M.fl Ph;have cq:=cp.i;refine AU ?_;refine BA k O O O Js O (λcr a0 h' o=>Ck (St.all h') cq a0) λcr k=>AU ?_;cases k;exact AZ O
  refine AU ?_;obtain⟨cs,l,E⟩:=bd E;refine AY 4 124 (.bool cs) ?_ ?_
  ·cases al:aj
   ·have l:=HM al l;cases l;exact BE O O
   have l:=HL al l;have ct:=M.fl Pi;have cu:=ct.i;refine AU ?_;refine BA l O O O Js O (λcv a1 h' o=>Ck (St.all h') cu a1) λcv l=>AU ?_;cases l;exact AZ O
  refine AU ?_;exact BW (kp [2] O) λep ef eq=>RT
 refine AU ?_;refine BK (AU ?_);refine CW (.inl O) G ?_;have Q:=H.mono J;have cw:=Q.fl A8.f_Num;have cx:=cw.i;refine AU ?_;refine BA E O O O Js O (λam a2 h' o=>Ck (St.all h') cx a2) λam E=>AU ?_;obtain⟨an,m,E⟩:=bd E;refine AY 4 139 (.bool an) ?_ ?_
 ·cases ao:am
  ·have m:=HM ao m;cases m;exact BE O O
  have m:=HL ao m;have cy:=Q.fl A8.f_Den;have cz:=cy.i;refine AU ?_;refine BA m O O O He O (λc0 a3 h' o=>CY (St.all h') cz (iq (n:=1) O) (iq (n:=1125899906842624) O) a3) λc0 m=>AU ?_;cases m;exact AZ O
 refine AU ?_;obtain⟨c1,p,E⟩:=bd E;refine AY 6 146 (.bool c1) ?_ ?_
 ·cases ap:an
  ·have p:=HM ap p;cases p;exact BE O O
  have p:=HL ap p;have c2:=Q.fl Jq;have c3:=c2.i;have c4:=Q.fl Jr;have c5:=c4.i;refine AU ?_;refine BA p O O O W3 O (λc6 a4 h' o=>Ko (St.all h') c3 c5 a4) λc6 p=>AU ?_;cases p;exact AZ O
 refine AU ?_;exact BW (kp [2] O) λer eg es=>RT
def OD (l:St S L h) {a:Value}{c:A8}(b:Rd S h B8 a c) {r:Bool}(E:FK N c=some r):
 CJ prog 152 #[a] S h (λv S' h'=>v= .bool r∧St S' (L) h'):=by
 refine CJ.go 112 func152 O ntmps152 O λB=>?_;rw[FK] at E;refine AU ?_;refine Cn O b CE O l λn S2 o m p q=>AU ?_;refine AH O E (λd E=>?_) (λd E=>?_)
 ·exact RT
 refine AU ?_;refine AH O E (λg E=>?_) (λg E=>?_)
 ·exact RT
 refine AU ?_;refine AH O E (λi E=>?_) (λi E=>?_)
 ·exact RT
 refine AU ?_;refine AH O E (λj E=>?_) (λj E=>?_)
 ·exact RT
 refine AU ?_;refine AH O E (λk E=>?_) (λk E=>?_)
 ·exact RT
 exact RT
end Go.Proofs.YtabonambpbofgaaGreat
