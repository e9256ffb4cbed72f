import Derived.Test.YtibidnaedddfdaaGreatEFacts
import Derived.Test.YtibidnaedddfdaaGreatEForms
import Derived.Test.YtibidnaedddfdaaGreatEInsert
import Derived.Test.YtibidnaedddfdaaGreatEWalk8
import Derived.Test.YtibidnaedddfdaaGreatEWalk10
import Derived.Test.YtibidnaedddfdaaGreatEWalk11
import Derived.Test.YtibidnaedddfdaaGreatEWalk7
namespace Go.Proofs.YtibidnaedddfdaaGreat
set_option linter.all false
open Go.RowKit
open Go.Proofs.Tryz
set_option maxRecDepth 10000
set_option maxHeartbeats 2000000
variable {N:Nat}{S:Nat→Prop}{L:List HP}{h:AX}
def PU (hs:St S L h) {k:Value}{l:AF}(t:Rd S h B7 k l) {r:Bool}(E:JY N l=some r):
 CD prog 44 #[k] S h (λv S' h'=>v= .bool r∧St S' (L) h'):=by
 refine A7 80 func44 O ntmps44 O λB=>?_;rw[JY] at E;refine AU ?_;refine AT O t CE O hs λq1 S2 h3 ai e5 k6=>?_;have k8:=k6.fl NH;obtain⟨v9,_,aj⟩:=k8.ll;refine AU ?_;refine AQ (λa w=>IV B S2 h3 (80,[]) a w [] (L) λ_ _=>G7 N=some r) ?_ ?_
 ·refine BJ (λn1=>λa w=>∃(m:Int),IV B S2 h3 (80,[]) a w [(7,vI (↑l.Ar.length:Int)),(6,v9),(1,q1),(8,vI m)] (L) λ_ _=>AA m∧Ey N l (G7 N) n1 m=some r) N ?_ ?_ ?_
  ·intro x y p q;exact⟨0,_,_,p.sub (kp [7,6,1,8] O),q,ai,(Cc.refl S2 h3),(iq (n:=0) O),E⟩
  ·rintro x y ⟨_,_,_,_,_,_,_,_,E⟩;rw[Ey] at E;cases E
  rintro n1 x y ⟨m,bm,bn,p,q,u,A,bo,E⟩;refine AI ?_ p q;clear p q y x;rw[Ey] at E;refine AU ?_;refine AE O E (λak E=>?_) (λak E=>?_)
  ·refine AU ?_;refine BQ (AU ?_);have am:=aj.mono' A;refine AN E O O am sl_27.1 O λs E bp an=>?_;obtain⟨bq,_,ao⟩:=an.lv;refine AU ?_;refine BZ Y8 O u λbr bs D ap=>?_;have aq:=ao.mono ap;obtain⟨rfl,⟨bt,ar,au,av,aw,ax,ay⟩⟩:=GQ.ex aq;refine AW O O O O ty_160.1 O D .head O λbu F bv=>AU ?_;refine WF.rc (.inl O) F ?_;have G:=k6.nw;have az:=G.fl GT;obtain⟨bw,_,a0⟩:=az.ll;have a1:=a0.le;refine AU ?_;refine BC E O O O TN O (λH I h' o=>Im (St.all h') ar (M0 a1) I) λH E=>AU ?_;obtain⟨J,b,E⟩:=bd E;refine A6 12 31 (.bool J) ?_ ?_
   ·cases K:(!H)
    ·have b:=H8 K b;refine AU ?_;refine BC b O O O TN O (λa2 M h' o=>Im (St.all h') au (B1 _) M) λa2 b=>AU ?_;cases b;exact A5 O
    have b:=H7 K b;cases b;exact BO O O
   refine AU ?_;obtain⟨Q,c,E⟩:=bd E;refine A6 5 44 (.bool Q) ?_ ?_
   ·cases U:(J||(decide (s.P=s.C)))
    ·have c:=H8 U c;refine AU ?_;refine BC c O O O KD O (λa3 V h' o=>Ch (St.all h') av (iq (n:=1) O) (iq (n:=24) O) V) λa3 c=>AU ?_;cases c;exact A5 O
    have c:=H7 U c;cases c;exact BO O O
   refine AU ?_;obtain⟨W,d,E⟩:=bd E;refine A6 5 50 (.bool W) ?_ ?_
   ·cases X:Q
    ·have d:=H8 X d;refine AU ?_;refine BC d O O O KD O (λa4 Y h' o=>Ch (St.all h') aw (iq (n:=0) O) (iq (n:=1073741824) O) Y) λa4 d=>AU ?_;cases d;exact A5 O
    have d:=H7 X d;cases d;exact BO O O
   refine AU ?_;obtain⟨a5,g,E⟩:=bd E;refine A6 5 56 (.bool a5) ?_ ?_
   ·cases Z:W
    ·have g:=H8 Z g;refine AU ?_;refine BC g O O O Lv O (λa6 ab h' o=>Co (St.all h') ay ab) λa6 g=>AU ?_;cases g;exact A5 O
    have g:=H7 Z g;cases g;exact BO O O
   refine BD (kp [56,4,7,6,1,8] O) λbx ac a7=>AE O E (λa8 E=>?_) (λa8 E=>?_)
   ·exact RT
   refine AU ?_;refine WF.rc (.inl O) ac (AU ?_);obtain⟨a9,i,E⟩:=bd E;refine A6 13 78 (.bool a9) ?_ ?_
   ·cases ad:((decide (s.Br=(-1)))&&(decide (s.Bs≠0)))
    ·have i:=H8 ad i;refine AU ?_;obtain⟨ba,j,i⟩:=bd i;refine A6 8 77 (.bool ba) ?_ ?_
     ·cases ae:(decide (s.Br≠(-1)))
      ·have j:=H8 ae j;cases j;exact BO O O
      have j:=H7 ae j;have bb:=G.mono a7;have bc:=bb.fl Ck;obtain⟨bz,_,be⟩:=bc.ll;have bf:=be.le;refine AU ?_;refine BC j O O O TN O (λbg af h' o=>Im (St.all h') ax (M0 bf) af) λbg j=>AU ?_;cases j;exact A5 O
     refine AU ?_;cases i;exact A5 O
    have i:=H7 ad i;cases i;exact BO O O
   refine BD (kp [78,7,6,1,8] O) λb0 ag bi=>AE O E (λah E=>?_) (λah E=>?_)
   ·exact RT
   refine AU ?_;refine B3 (AU ?_);refine WF.nil (λx y p q=>?_);have z:=ag.drop .head;exact⟨(BR (m+1)),_,_,p.sub (kp [7,6,1,8] O),q,z,EX,(B1 _),E⟩
  refine WF.exit O (λx y p q=>?_);exact⟨_,_,p.sub Ob,q,u,A,E⟩
 rintro x y ⟨bj,bk,p,q,bh,bl,E⟩;refine AI ?_ p q;clear p q y x;rw[G7] at E;exact RT
def SQ (hs:St S L h) {m:Value}{q:AF}(n:Rd S h B7 m q) {r:Bool}(E:Jy N q=some r):
 CD prog 10 #[m] S h (λv S' h'=>v= .bool r∧St S' (L) h'):=by
 refine A7 37 func10 O ntmps10 O λB=>?_;rw[Jy] at E;refine AU ?_;refine AT O n CE O hs λq1 S2 h3 l e5 p=>AU ?_;refine WF.rc (.inl O) l ?_;obtain⟨v7,_,k8⟩:=p.lv;refine AU ?_;refine BC E O O O qY O (λy9 Z h' o=>P5 (St.all h') (k8.mono (o.all l.1)) Z) λy9 E=>AU ?_;obtain⟨s,a,E⟩:=bd E;refine A6 3 8 (.bool s) ?_ ?_
 ·cases t:y9
  ·have a:=H8 t a;cases a;exact BO O O
  have a:=H7 t a;obtain⟨au,_,aa⟩:=p.lv;refine AU ?_;refine BC a O O O qX O (λab u h' o=>PV (St.all h') (aa.mono (o.all l.1)) u) λab a=>AU ?_;cases a;exact A5 O
 refine AU ?_;obtain⟨w,b,E⟩:=bd E;refine A6 3 12 (.bool w) ?_ ?_
 ·cases x:s
  ·have b:=H8 x b;cases b;exact BO O O
  have b:=H7 x b;obtain⟨av,_,ac⟩:=p.lv;refine AU ?_;refine BC b O O O qW O (λad y h' o=>Ov (St.all h') (ac.mono (o.all l.1)) y) λad b=>AU ?_;cases b;exact A5 O
 refine AU ?_;obtain⟨z,c,E⟩:=bd E;refine A6 3 16 (.bool z) ?_ ?_
 ·cases A:w
  ·have c:=H8 A c;cases c;exact BO O O
  have c:=H7 A c;obtain⟨aw,_,ae⟩:=p.lv;refine AU ?_;refine BC c O O O qV O (λaf C h' o=>PW (St.all h') (ae.mono (o.all l.1)) C) λaf c=>AU ?_;cases c;exact A5 O
 refine AU ?_;obtain⟨D,d,E⟩:=bd E;refine A6 3 20 (.bool D) ?_ ?_
 ·cases F:z
  ·have d:=H8 F d;cases d;exact BO O O
  have d:=H7 F d;obtain⟨ax,_,ag⟩:=p.lv;refine AU ?_;refine BC d O O O qU O (λah G h' o=>OH (St.all h') (ag.mono (o.all l.1)) G) λah d=>AU ?_;cases d;exact A5 O
 refine AU ?_;obtain⟨H,g,E⟩:=bd E;refine A6 3 24 (.bool H) ?_ ?_
 ·cases I:D
  ·have g:=H8 I g;cases g;exact BO O O
  have g:=H7 I g;obtain⟨ay,_,ai⟩:=p.lv;refine AU ?_;refine BC g O O O qT O (λaj J h' o=>Ou (St.all h') (ai.mono (o.all l.1)) J) λaj g=>AU ?_;cases g;exact A5 O
 refine AU ?_;obtain⟨K,i,E⟩:=bd E;refine A6 3 28 (.bool K) ?_ ?_
 ·cases M:H
  ·have i:=H8 M i;cases i;exact BO O O
  have i:=H7 M i;obtain⟨az,_,ak⟩:=p.lv;refine AU ?_;refine BC i O O O qS O (λal Q h' o=>PT (St.all h') (ak.mono (o.all l.1)) Q) λal i=>AU ?_;cases i;exact A5 O
 refine AU ?_;obtain⟨U,j,E⟩:=bd E;refine A6 3 32 (.bool U) ?_ ?_
 ·cases V:K
  ·have j:=H8 V j;cases j;exact BO O O
  have j:=H7 V j;obtain⟨a0,_,am⟩:=p.lv;refine AU ?_;refine BC j O O O qR O (λan W h' o=>Ow (St.all h') (am.mono (o.all l.1)) W) λan j=>AU ?_;cases j;exact A5 O
 refine AU ?_;obtain⟨ao,k,E⟩:=bd E;refine A6 3 36 (.bool ao) ?_ ?_
 ·cases X:U
  ·have k:=H8 X k;cases k;exact BO O O
  have k:=H7 X k;obtain⟨a1,_,ap⟩:=p.lv;refine AU ?_;refine BC k O O O qQ O (λaq Y h' o=>PU (St.all h') (ap.mono (o.all l.1)) Y) λaq k=>AU ?_;cases k;exact A5 O
 refine AU ?_;exact BD (kp [2] O) λa2 ar a3=>RT
def LR (g:St S L h) {a:Int}(c:AA a) {b:Int}(d:AA b) {r:Bool}(E:HW N a b=some r):
 CD prog 59 #[vI a,vI b] S h (λv S' h'=>v= .bool r∧St S' (L) h'):=by
 refine A7 12 func59 O ntmps59 O λB=>?_;rw[HW] at E;exact RT
def EO (j:St S L h) {a:Int}(c:AA a) {b:Int}(d:AA b) {r:Int}(E:DE N a b=some r):
 CD prog 121 #[vI a,vI b] S h (λv S' h'=>v=vI r∧AA r∧St S' (L) h'):=by
 refine A7 24 func121 O ntmps121 O λB=>?_;rw[DE] at E;refine AU ?_;refine AE O E (λg E=>?_) (λg E=>?_)
 ·exact RT
 refine AU ?_;refine AE O E (λi E=>?_) (λi E=>?_)
 ·exact RT
 exact RT
def Fm (j:St S L h) {a:Int}(c:AA a) {b:Int}(d:AA b) {r:Int}(E:Ef N a b=some r):
 CD prog 63 #[vI a,vI b] S h (λv S' h'=>v=vI r∧AA r∧St S' (L) h'):=by
 refine A7 24 func63 O ntmps63 O λB=>?_;rw[Ef] at E;refine AU ?_;refine AE O E (λg E=>?_) (λg E=>?_)
 ·exact RT
 refine AU ?_;refine AE O E (λi E=>?_) (λi E=>?_)
 ·exact RT
 exact RT
def H3 (k:St S L h) {a:Int}(b:AA a) {r:AB}(E:E5 N a=some r):
 CD prog 69 #[vI a] S h (λv S' h'=>v= .agg #[vI r.B,vI r.A]∧AB.ok r∧St S' (L) h'):=by
 refine A7 6 func69 O ntmps69 O λB=>?_;rw[E5] at E;refine AU ?_;refine BZ EA O k λl m d n=>AU ?_;refine B6 (cs:=[vI a,vI a]) Fv O O O (AU ?_);refine AW O O O O ty_51.1 O d .head O λo c p=>AU ?_;refine WF.ret (λq s i j=>?_);have g:=c.drop .head;cases E;exact IS i O j (GB (K5 i j c O mh ty_51.1 O) ID) O EX ⟨O,⟨b,b⟩,g⟩
def K6 (hs:St S L h) {a:Value}{g:AB}(c:Rd S h AC a g) {b:Value}{j:AB}(d:Rd S h AC b j) {r:AB}(E:G0 N g j=some r):
 CD prog 126 #[a,b] S h (λv S' h'=>v= .agg #[vI r.B,vI r.A]∧AB.ok r∧St S' (L) h'):=by
 refine A7 20 func126 O ntmps126 O λB=>?_;rw[G0] at E;refine AU ?_;refine AT O c CE O hs λq1 S2 h3 C e5 k6=>?_;have k7:=d.mono e5;refine AT O k7 CE O C λq8 S9 ac l ad D=>BZ EA O l λae af m F=>AU ?_;refine WF.rc (.inl O) m ?_;have n:=k6.nw;have G:=n.fl AB.f_Lo;have H:=G.i;have p:=D.mono F;have I:=p.fl AB.f_Lo;have J:=I.i;refine AU ?_;refine BB E O O O R7 O (λq s h' o=>Fm (St.all h') H J s) λq E K=>?_;have M:=K;refine AU ?_;refine BD (kp [5,4,3,2] O) λag t u=>AU ?_;refine WF.rc (.inl O) t ?_;have Q:=n.mono u;have U:=Q.fl AB.f_Hi;have V:=U.i;have W:=p.mono u;have X:=W.fl AB.f_Hi;have Y:=X.i;refine AU ?_;refine BB E O O O R7 O (λw x h' o=>Fm (St.all h') V Y x) λw E Z=>?_;have ab:=Z;refine AU ?_;refine BD (kp [6,5,4] O) λah y ai=>AU ?_;refine B6 (cs:=[vI q,vI w]) Fv O O O (AU ?_);refine AW O O O O ty_51.1 O y .head O λaj k ak=>AU ?_;refine WF.ret (λaa ww hf hw=>?_);have z:=k.drop .head;cases E;exact IS hf O hw (GB (K5 hf hw k O mh ty_51.1 O) ID) O EX ⟨O,⟨M,ab⟩,z⟩
def Ik (w:St S L h) {a:Value}{b:AB}(c:Rd S h AC a b) {r:AB}(E:Fo N b=some r):
 CD prog 127 #[a] S h (λv S' h'=>v= .agg #[vI r.B,vI r.A]∧AB.ok r∧St S' (L) h'):=by
 refine A7 10 func127 O ntmps127 O λB=>?_;rw[Fo] at E;refine AU ?_;refine AT O c CE O w λC D F k G x=>BZ EA O k λH I l m=>?_;have g:=x.mono m;have o:=g.fl AB.f_Lo;have p:=o.i;refine AU ?_;refine Ka O O O ?_;have q:=g.fl AB.f_Hi;have s:=q.i;refine AU ?_;refine Ka O O O (B6 (cs:=[vI (min b.B 1125899906842624),vI (min b.A 1125899906842624)]) Fv O O O (AU ?_));refine AW O O O O ty_51.1 O l .head O λy d z=>AU ?_;refine WF.ret (λJ K t u=>?_);have j:=d.drop .head;cases E;exact IS t O u (GB (K5 t u d O mh ty_51.1 O) ID) O EX ⟨O,⟨(G4 p (iq (n:=1125899906842624) O)),(G4 s (iq (n:=1125899906842624) O))⟩,j⟩
def Mj {d:Value}{m:(List AZ)}(hs:St S (OS BS 93 d m::L) h) {b:Int}(F:AA b) {c:Int}(G:AA c) {M:Value}{g:AB}(ad:Rd S h AC M g) {r:(List AZ)}(E:Ih N m b c g=some r):
 CD prog 71 #[d,vI b,vI c,M] S h (λv S' h'=>St S' (OS BS 93 v r::L) h'):=by
 refine A7 88 func71 O ntmps71 O λB=>?_;rw[Ih] at E;refine AU ?_;refine AT O ad CE O hs λq1 S2 h3 ba e5 k6=>AU ?_;refine AE O E (λca E=>?_) (λca E=>?_)
 ·refine AU ?_;cases E;exact Kt ba O O EX
 refine AU ?_;refine AQ (λa w=>∃(ae:Value) (V:List AZ) (ak:Bool),IV B S2 h3 (88,[]) a w [(7,q1),(1,vI b),(2,vI c),(9,ae),(10,.bool ak)] (OS BS 93 ae V::L) λ_ _=>Db N b c g V ak=some r) ?_ ?_
 ·refine BJ (λn1=>λa w=>∃(I:Value) (s:List AZ) (W:Bool) (t:Int),IV B S2 h3 (88,[]) a w [(7,q1),(0,d),(1,vI b),(2,vI c),(9,I),(10,.bool W),(11,vI t)] (OS BS 93 I s::OS BS 93 d m::L) λ_ _=>AA t∧Da N m b c g (Db N b c g) n1 s W t=some r) N ?_ ?_ ?_
  ·intro u y i j;have bb:=ba.nil BS 93;exact⟨(vN),([]:List AZ),false,0,_,_,i.sub (kp [7,0,1,2,9,10,11] O),j,bb,(Cc.refl S2 h3),(iq (n:=0) O),E⟩
  ·rintro u y ⟨_,_,_,_,_,_,_,_,_,_,_,E⟩;rw[Da] at E;cases E
  rintro n1 u y ⟨I,s,W,t,bc,dw,i,j,Q,cb,dx,E⟩;refine AI ?_ i j;clear i j y u;rw[Da] at E;refine AU ?_;refine AE O E (λcc E=>?_) (λcc E=>?_)
  ·refine AU ?_;refine BQ (AU ?_);obtain⟨dy,be,E⟩:=bd E;refine CS Q (mt mh) O O sl_33.1 be O λdz bf=>?_;obtain⟨k,bg,E⟩:=bd E;have cd:=Q.epAt (mt mh) bg GC.id bf;refine Il KP (λ_ x=>x) O cd ty_93.1 CE O λd0 ce=>AU ?_;refine BZ W4 O Q λaf d1 bh cf=>?_;have cg:=ce.mono cf;obtain⟨rfl,⟨ch,ci,bi,bj⟩⟩:=BS.ex cg;refine AW O O O O ty_93.1 O bh .head O λbk X d2=>AU ?_;refine Er (λa w=>∃(ag:Bool) (z:Int) (D:Int),IV B bc bk (88,[]) a w [(12,vP af 0),(7,q1),(0,d),(1,vI b),(2,vI c),(9,I),(11,vI t),(10,.bool ag)] (Bx af 93 [vI k.O,vI k.C,vI z,vI D]::OS BS 93 I s::OS BS 93 d m::L) λ_ _=>AA z∧AA D∧IZ N b c g s t k (Da N m b c g (Db N b c g) n1) ag z D=some r) ?_ ?_
   ·refine AE O E (λcj E=>?_) (λcj E=>?_)
    ·refine AU ?_;refine Ej ?_;have ck:=k6.nw;obtain⟨d3,_,cl⟩:=ck.lv;refine AU ?_;obtain⟨cm,bl,E⟩:=bd E;refine EQ O O O Wn O X (K6 (St.all _) (AC.mk (x:=k.K) ⟨bi,bj⟩) (cl.mono X.ea) bl) λd4 d5 d6 bm d7 d8 p=>?_;obtain⟨rfl,⟨cn,co⟩,cw⟩:=p;refine BZ EA O bm λd9 eb bn ec=>?_;refine AW O O O O ty_51.1 O bn .head O λed bo ee=>AU ?_;refine Ej (AU ?_);obtain⟨ah,bp,E⟩:=bd E;refine EQ O O O Uy O bo (Ik (St.all _) (AC.mk (x:=cm) ⟨cn,co⟩) bp) λef eg eh bq ei ej p=>?_;obtain⟨rfl,⟨cp,cq⟩,cx⟩:=p;refine AU ?_;refine Ic (cs':=[vI k.O,vI k.C,vI ah.B,vI ah.A]) O O O O ty_51.1 O bq (.tail .head) O O λek br el=>AU ?_;refine WF.nil (λu y i j=>?_);have bs:=br.sel [1,1,1] 1 O;exact⟨true,ah.B,ah.A,_,_,i.sub (kp [12,7,0,1,2,9,11,10] O),j,bs,EX,cp,cq,E⟩
    refine AU ?_;refine WF.nil (λu y i j=>?_);exact⟨W,k.K.B,k.K.A,_,_,i.sub (kp [12,7,0,1,2,9,11,10] O),j,X,(Cc.refl bc bk),bi,bj,E⟩
   rintro u y ⟨ag,z,D,bt,bu,i,j,Y,em,cr,ct,E⟩;refine AI ?_ i j;clear i j y u;rw[IZ] at E;refine AU ?_;refine Er (λa w=>∃(Z:Value) (H:List AZ) (U:Bool),IV B bt bu (88,[]) a w [(12,vP af 0),(7,q1),(0,d),(1,vI b),(2,vI c),(11,vI t),(9,Z),(10,.bool U)] (OS BS 93 Z H::Bx af 93 [vI k.O,vI k.C,vI z,vI D]::OS BS 93 d m::L) λ_ _=>IY N t k z D (Da N m b c g (Db N b c g) n1) H U=some r) ?_ ?_
   ·refine AE O E (λbv E=>?_) (λbv E=>?_)
    ·refine AU ?_;refine Ej ?_;have bw:=k6.nw;obtain⟨cy,_,bx⟩:=bw.lv;refine AU ?_;refine Hb E O O O Uy O Y (λo am=>Ik (St.all _) (bx.mono Y.ea) am) λo E cz c0 c1 an c2 c3 p=>?_;obtain⟨rfl,⟨bz,b0⟩,cu⟩:=p;refine AU ?_;refine B6 (cs:=[vI b,vI c,vI o.B,vI o.A]) XC O O O (AU ?_);refine Io (cs:=[vI b,vI c,vI o.B,vI o.A]) Nv O O O O O O O an λc4 c5 ao c6=>?_;obtain⟨ap,E⟩:=RM E;refine J2 (r:=BS) (l:=s) (xs:=([(⟨b,c,o⟩:AZ)]:List AZ)) O O Nv O mh ⟨_,_,O,⟨O,⟨F,G,bz,b0⟩⟩,O⟩ O O ap O ao (λ_=>(.tail (.tail .head))) λb1 c7 aq c8=>?_;have ar:=aq.drop .head;refine AU ?_;refine WF.nil (λu y i j=>?_);have au:=ar.sel [1,0,0] 0 O;exact⟨b1,(s++([(⟨b,c,o⟩:AZ)]:List AZ)),true,_,_,i.sub (kp [12,7,0,1,2,11,9,10] O),j,au,EX,E⟩
    refine AU ?_;refine WF.nil (λu y i j=>?_);have av:=Y.sel [1,0,0] 0 O;exact⟨I,s,ag,_,_,i.sub (kp [12,7,0,1,2,11,9,10] O),j,av,(Cc.refl bt bu),E⟩
   rintro u y ⟨Z,H,U,c9,da,i,j,aw,db,E⟩;refine AI ?_ i j;clear i j y u;rw[IY] at E;refine AU ?_;refine Io (cs:=[vI k.O,vI k.C,vI z,vI D]) Nv O O O O O O O aw λdc dd ax de=>?_;obtain⟨ay,E⟩:=RM E;refine J2 (r:=BS) (l:=H) (xs:=([({ k with K:=(⟨z,D⟩:AB)}:AZ)]:List AZ)) O O Nv O mh ⟨_,_,O,⟨O,⟨ch,ci,cr,ct⟩⟩,O⟩ O O ay O ax (λ_=>(.tail .head)) λb2 df az dg=>?_;have a0:=az.drop .head;refine AU ?_;refine B3 (AU ?_);refine WF.nil (λu y i j=>?_);have a1:=a0.sel [0,1] 1 O;exact⟨b2,(H++([({ k with K:=(⟨z,D⟩:AB)}:AZ)]:List AZ)),U,(BR (t+1)),_,_,i.sub (kp [7,0,1,2,9,10,11] O),j,a1,EX,(B1 _),E⟩
  refine WF.exit O (λu y i j=>?_);have a2:=Q.drop (.tail .head);exact⟨I,s,W,_,_,i.sub (kp [7,1,2,9,10] O),j,a2,cb,E⟩
 rintro u y ⟨ae,V,ak,ai,aj,i,j,J,b3,E⟩;refine AI ?_ i j;clear i j y u;rw[Db] at E;refine AU ?_;refine Er (λa w=>∃(ab:Value) (ac:List AZ),IV B ai aj (88,[]) a w [(9,ab)] (OS BS 93 ab ac::L) λ_ _=>GN N ac=some r) ?_ ?_
 ·refine AE O E (λb4 E=>?_) (λb4 E=>?_)
  ·refine Ej ?_;have b5:=k6.mono b3;obtain⟨dh,_,b6⟩:=b5.lv;refine AU ?_;refine Hb E O O O Uy O J (λq a3=>Ik (St.all _) (b6.mono J.ea) a3) λq E di dj dk a4 dl dm p=>?_;obtain⟨rfl,⟨b7,b8⟩,cv⟩:=p;refine AU ?_;refine B6 (cs:=[vI b,vI c,vI q.B,vI q.A]) XC O O O (AU ?_);refine Io (cs:=[vI b,vI c,vI q.B,vI q.A]) Nv O O O O O O O a4 λdn dp a5 dq=>?_;obtain⟨a6,E⟩:=RM E;refine J2 (r:=BS) (l:=V) (xs:=([(⟨b,c,q⟩:AZ)]:List AZ)) O O Nv O mh ⟨_,_,O,⟨O,⟨F,G,b7,b8⟩⟩,O⟩ O O a6 O a5 (λ_=>(.tail .head)) λb9 dr a7 ds=>?_;have a8:=a7.drop .head;refine AU ?_;refine WF.nil (λu y i j=>?_);exact⟨b9,(V++([(⟨b,c,q⟩:AZ)]:List AZ)),_,_,i.sub (kp [9] O),j,a8,EX,E⟩
  refine AU ?_;refine WF.nil (λu y i j=>?_);exact⟨ae,V,_,_,i.sub (kp [9] O),j,J,(Cc.refl ai aj),E⟩
 rintro u y ⟨ab,ac,dt,du,i,j,a9,dv,E⟩;refine AI ?_ i j;clear i j y u;rw[GN] at E;refine AU ?_;cases E;exact Kt a9 O O EX
def Jd (l:St S L h) {c:Int}(i:AA c) {b:Int}(g:AA b) {a:Int}(d:AA a) {r:Int}(E:Gw N c b a=some r):
 CD prog 157 #[vI c,vI b,vI a] S h (λv S' h'=>v=vI r∧AA r∧St S' (L) h'):=by
 refine A7 16 func157 O ntmps157 O λB=>?_;rw[Gw] at E;refine AU ?_;refine AE O E (λj E=>?_) (λj E=>?_)
 ·exact RT
 refine AU ?_;refine AE O E (λk E=>?_) (λk E=>?_)
 ·exact RT
 exact RT
def P3 (hs:St S L h) {g:Value}{s:AO}(k:Rd S h BI g s) {j:Value}{b:Ep}(l:Rd S h JA j b) {c:Int}(d:AA c) {r:Ep}(E:Kc N s b c=some r):
 CD prog 128 #[g,j,vI c] S h (λv S' h'=>v= .agg #[vI r.U,vI r.W,.bool r.Bg,.bool r.R]∧Ep.ok r∧St S' (L) h'):=by
 refine A7 16 func128 O ntmps128 O λB=>?_;rw[Kc] at E;refine AU ?_;refine AT O k CE O hs λq1 S2 h3 Q e5 k6=>?_;have k7:=l.mono e5;obtain⟨rfl,⟨r9,V⟩⟩:=JA.ex k7;refine NF O O O Q λy af z ag=>BZ VL O z λA C t ah=>?_;have X:=k6.nw;refine AU ?_;refine Er (λa w=>∃(m:Int),IV B S2 C (16,[]) a w [(6,vP A 0),(4,vP y 0)] (Bx A 81 [vI 0,vI 0,.bool false,.bool false]::Bx y 81 [vI b.U,vI m,.bool b.Bg,.bool b.R]::L) λ_ _=>AA m∧Jq N b m=some r) ?_ ?_
 ·refine AE O E (λY E=>?_) (λY E=>?_)
  ·refine Ej ?_;have Z:=X.fl Cv;have ab:=Z.i;refine AU ?_;refine Hb E O O O Uv O t (λx D=>Jd (St.all _) d (iq (n:=0) O) ab D) λx E ai aj ak F am an p=>?_;obtain⟨rfl,ac,ae⟩:=p;refine AU ?_;refine Ic (cs':=[vI b.U,vI x,.bool b.Bg,.bool b.R]) O O O O ty_3.1 O F (.tail .head) O O λao G ap=>AU ?_;refine WF.nil (λK M o q=>?_);exact⟨x,_,_,o.sub (kp [6,4] O),q,G,EX,ac,E⟩
  refine AU ?_;refine WF.nil (λK M o q=>?_);exact⟨b.W,_,_,o.sub (kp [6,4] O),q,t,(Cc.refl S2 C),V,E⟩
 rintro K M ⟨m,aq,ar,o,q,H,au,ad,E⟩;refine AI ?_ o q;clear o q M K;rw[Jq] at E;refine AU ?_;refine AW O O O O ty_81.1 O H .head O λav I aw=>AU ?_;refine WF.ret (λK M o q=>?_);have u:=I.drop (.tail .head);have J:=u.drop .head;cases E;exact IS o O q (GB (K5 o q u O mh ty_81.1 O) ID) O EX ⟨O,⟨r9,ad⟩,J⟩
def Lm (u:St S L h) {g:Int}(d:AA g) {a:Int}(i:AA a) {b:Int}(c:AA b) {r:Int}(E:HX N g a b=some r):
 CD prog 158 #[vI g,vI a,vI b] S h (λv S' h'=>v=vI r∧AA r∧St S' (L) h'):=by
 refine A7 18 func158 O ntmps158 O λB=>?_;rw[HX] at E;refine AU ?_;refine WF.rc (.inl O) u (AU ?_);refine BB E O O O Nh O (λw l h' o=>EO (St.all h') i d l) λw E x=>?_;have y:=x;refine AU ?_;refine BB E O O O Nh O (λz m h' o=>EO (St.all h') (iq (n:=0) O) c m) λz E A=>?_;have C:=A;refine AU ?_;refine BB E O O O Uv O (λD p h' o=>Jd (St.all h') y C c p) λD E F=>?_;have G:=F;refine AU ?_;refine BD (kp [7,0] O) λH j I=>AU ?_;refine WF.rc (.inl O) j (AU ?_);refine BB E O O O R7 O (λq k h' o=>Fm (St.all h') d G k) λq E s=>?_;have J:=s;refine AU ?_;exact BD (kp [6] O) λK t M=>RT
def On (hs:St S L h) {c:Value}{l:AO}(g:Rd S h BI c l) {d:Value}{a:AH}(j:Rd S h AM d a) {b:Bool}{r:AH}(E:It N l a b=some r):
 CD prog 129 #[c,d,.bool b] S h (λv S' h'=>v= .agg #[vI r.U.B,vI r.U.A,vI r.W,vI r.R.B,vI r.R.A]∧AH.ok r∧St S' (L) h'):=by
 refine A7 52 func129 O ntmps129 O λB=>?_;rw[It] at E;refine AU ?_;refine AT O g CE O hs λq1 S2 h3 ai e5 k6=>?_;have k7:=j.mono e5;obtain⟨rfl,⟨r9,y,k,z,C⟩⟩:=AM.ex k7;refine NF O O O ai λbf bg D bh=>BZ Tw O D λbi bj m bk=>AU ?_;refine AE O E (λaj E=>?_) (λaj E=>?_)
 ·refine AU ?_;refine Gs 18 mo (by kernel_rfl) O m ?_;have F:=k6.nw;have ak:=F.fl HB;have am:=ak.i;refine AU ?_;refine BB E O O O aV O (λs G h' o=>Lm (St.all h') r9 k am G) λs E an=>?_;have ao:=an;have ap:=F.fl HB;have aq:=ap.i;refine AU ?_;refine BB E O O O aV O (λt H h' o=>Lm (St.all h') y k aq H) λt E ar=>?_;have au:=ar;refine B6 (cs:=[vI s,vI t]) Fv O O O (AU ?_);refine Em λbl I bm=>?_;refine Ic (cs':=[vI s,vI t,vI a.W,vI a.R.B,vI a.R.A]) O O O O ty_51.1 O I (.tail .head) O O λbn J bo=>AU ?_;refine AW O O O O ty_97.1 O J .head O λbp K bq=>AU ?_;refine WF.ret (λaa ww M Q=>?_);have p:=K.drop (.tail .head);have V:=p.drop .head;cases E;exact IS M O Q (GB (K5 M Q p O mh ty_97.1 O) ID) O EX ⟨O,⟨ao,au,k,z,C⟩,V⟩
 refine AU ?_;refine WF.rc (.inr ⟨mo,by kernel_rfl⟩) m ?_;have u:=k6.nw;have av:=u.fl HB;have aw:=av.i;refine AU ?_;refine BB E O O O Nh O (λax X h' o=>EO (St.all h') r9 aw X) λax E ay=>?_;have az:=ay;have a0:=u.fl Cv;have a1:=a0.i;refine AU ?_;refine BB E O O O Uv O (λw Y h' o=>Jd (St.all h') az (iq (n:=0) O) a1 Y) λw E a2=>?_;have a3:=a2;refine AU ?_;refine BD (kp [7,6,4,3] O) λbr Z a4=>AU ?_;refine WF.rc (.inr ⟨mo,by kernel_rfl⟩) Z ?_;have ab:=u.mono a4;have a5:=ab.fl HB;have a6:=a5.i;refine AU ?_;refine BB E O O O R7 O (λa7 ac h' o=>Fm (St.all h') y a6 ac) λa7 E a8=>?_;have a9:=a8;have ba:=ab.fl Cv;have bb:=ba.i;refine AU ?_;refine BB E O O O Uv O (λx ad h' o=>Jd (St.all h') a9 (iq (n:=0) O) bb ad) λx E bc=>?_;have be:=bc;refine AU ?_;refine BD (kp [8,7,6,4] O) λbs ae bt=>AU ?_;refine B6 (cs:=[vI w,vI x]) Fv O O O (AU ?_);refine Ic (cs':=[vI w,vI x,vI a.W,vI a.R.B,vI a.R.A]) O O O O ty_51.1 O ae (.tail .head) O O λbu af bv=>AU ?_;refine AW O O O O ty_97.1 O af .head O λbw ag bx=>AU ?_;refine WF.ret (λaa ww M Q=>?_);have q:=ag.drop (.tail .head);have ah:=q.drop .head;cases E;exact IS M O Q (GB (K5 M Q q O mh ty_97.1 O) ID) O EX ⟨O,⟨a3,be,k,z,C⟩,ah⟩
def M9 {j:Nat}{p0_w:AJ}{s:Value}{t:Value}{u:Value}{y:Value}{z:Value}{A:Value}{C:Value}{H:Value}{d:Value}{k:Value}{c:Value}{g:Value}(hs:St S (Bx j 141 [.string p0_w.G.M,s,vI p0_w.G.S,t,u,y,z,A,C,H,vI p0_w.G.T,vI p0_w.J.I,d,k,c,g]::OS AC 51 d p0_w.J.K::OS AM 97 c p0_w.J.D::OS AC 51 g p0_w.Aj::L) h) (c4:p0_w.G.M.size≤maxLen) (c5:Sl S h BU.str s p0_w.G.Aq) (c6:AA p0_w.G.S) (c7:Sl S h B4 t p0_w.G.E) (ab:Sl S h BI u p0_w.G.D) (c8:Sl S h Dn y p0_w.G.Ad) (c9:Sl S h De z p0_w.G.Ab) (da:Sl S h GQ A p0_w.G.Ar) (db:Sl S h DB C p0_w.G.At) (dc:Sl S h AY H p0_w.G.As) (bw:AA p0_w.G.T) (bx:AA p0_w.J.I) (bz:Sl S h BS k p0_w.J.N) {au:Value}{V:BT}(a5:Rd S h D2 au V) {q:Value}{Q:(List Bool)}(am:Sl S h BU.bool q Q) {r:(List AH)}(E:G8 N p0_w V Q=some r):
 CD prog 78 #[vP j 0,au,q] S h (λv S' h'=>∃ay:Value,v= .tuple #[]∧St S' (Bx j 141 [.string p0_w.G.M,s,vI p0_w.G.S,t,u,y,z,A,C,H,vI p0_w.G.T,vI p0_w.J.I,d,k,ay,g]::OS AC 51 d p0_w.J.K::OS AM 97 ay r::OS AC 51 g p0_w.Aj::L) h'):=by
 refine A7 182 func78 O ntmps78 O λB=>?_;rw[G8] at E;refine AU ?_;refine AT O a5 CE O hs λq1 S2 h3 fu e5 k6=>?_;have k7:=ab.mono' e5;have b8:=k7.le;refine AU ?_;refine AQ (λa w=>∃(l9:List AH),IV B S2 h3 (182,[]) a w [(6,vI (↑p0_w.G.D.length:Int)),(4,q1),(0,vP j 0),(2,q)] (Bx j 141 [.string p0_w.G.M,s,vI p0_w.G.S,t,u,y,z,A,C,H,vI p0_w.G.T,vI p0_w.J.I,d,k,c,g]::OS AC 51 d p0_w.J.K::OS AM 97 c l9::OS AC 51 g p0_w.Aj::L) λ_ _=>Dw N p0_w V Q l9=some r) ?_ ?_
 ·refine BJ (λn1=>λa w=>∃(ap:Int) (av:List AH),IV B S2 h3 (182,[]) a w [(6,vI (↑p0_w.G.D.length:Int)),(4,q1),(0,vP j 0),(2,q),(7,vI ap)] (Bx j 141 [.string p0_w.G.M,s,vI p0_w.G.S,t,u,y,z,A,C,H,vI p0_w.G.T,vI p0_w.J.I,d,k,c,g]::OS AC 51 d p0_w.J.K::OS AM 97 c av::OS AC 51 g p0_w.Aj::L) λ_ _=>AA ap∧CP N p0_w V (Dw N p0_w V Q) n1 ap av=some r) N ?_ ?_ ?_
  ·intro aa ww Y hw;exact⟨0,p0_w.J.D,_,_,Y.sub (kp [6,4,0,2,7] O),hw,fu,(Cc.refl S2 h3),(iq (n:=0) O),E⟩
  ·rintro aa ww ⟨_,_,_,_,_,_,_,_,_,E⟩;rw[CP] at E;cases E
  rintro n1 aa ww ⟨ap,av,b0,fv,Y,hw,bo,dd,i7,E⟩;refine AI ?_ Y hw;clear Y hw ww aa;rw[CP] at E;have b1:=k6.mono dd;refine AU ?_;refine AE O E (λfw E=>?_) (λfw E=>?_)
  ·refine AU ?_;refine AQ (λa w=>∃(bn:List AH),IV B b0 fv (182,[]) a w [(6,vI (↑p0_w.G.D.length:Int)),(4,q1),(0,vP j 0),(2,q),(7,vI ap)] (Bx j 141 [.string p0_w.G.M,s,vI p0_w.G.S,t,u,y,z,A,C,H,vI p0_w.G.T,vI p0_w.J.I,d,k,c,g]::OS AC 51 d p0_w.J.K::OS AM 97 c bn::OS AC 51 g p0_w.Aj::L) λ_ _=>Dv N ap (CP N p0_w V (Dw N p0_w V Q) n1) bn=some r) ?_ ?_
   ·have fx:=b1.fl KW;obtain⟨i8,_,fy⟩:=fx.ll;refine AU ?_;refine AN E O O fy sl_37.1 O λa3 E i9 fz=>?_;have f0:=fz.fl KF.f_Link;have f1:=f0.i;refine AU ?_;refine WF.rc (.inl O) bo (AU ?_);refine BC E O O O aH O (λf2 de h' o=>LR (St.all h') f1 (M0 b8) de) λf2 E=>AU ?_;refine BD (kp [36,8,6,4,0,2,7] O) λdf az dg=>AE O E (λf3 E=>?_) (λf3 E=>?_)
    ·refine WF.exit O (λaa ww Y hw=>?_);exact⟨av,_,_,Y.sub (kp [6,4,0,2,7] O),hw,az,dg,E⟩
    refine AU ?_;have f4:=ab.nw;refine AN E O O f4 sl_24.1 O λf5 E ja jb=>AU ?_;obtain⟨f6,ai,E⟩:=bd E;refine A6 8 55 (.bool f6) ?_ ?_
    ·cases dh:(decide (f5.F=5))
     ·have ai:=H8 dh ai;cases ai;exact BO O O
     have ai:=H7 dh ai;have f7:=b1.mono dg;have f8:=f7.fl KW;obtain⟨jc,_,f9⟩:=f8.ll;refine AU ?_;refine AN ai O O f9 sl_37.1 O λjd ai je jf=>AU ?_;cases ai;exact A5 O
    refine AU ?_;refine Er (λa w=>∃(a4:List AH),IV B b0 df (182,[]) a w [(8,vI a3.Z),(6,vI (↑p0_w.G.D.length:Int)),(4,q1),(0,vP j 0),(2,q),(7,vI ap)] (Bx j 141 [.string p0_w.G.M,s,vI p0_w.G.S,t,u,y,z,A,C,H,vI p0_w.G.T,vI p0_w.J.I,d,k,c,g]::OS AC 51 d p0_w.J.K::OS AM 97 c a4::OS AC 51 g p0_w.Aj::L) λ_ _=>F5 N p0_w V ap a3 (Dv N ap (CP N p0_w V (Dw N p0_w V Q) n1)) a4=some r) ?_ ?_
    ·refine AE O E (λga E=>?_) (λga E=>?_)
     ·refine Gs 9 mo (by kernel_rfl) O az (AU ?_);refine BB E O O O UK O (λb2 di h' o=>H3 (St.all h') (iq (n:=1) O) di) λb2 E gb=>?_;obtain⟨gc,ge⟩:=gb;obtain⟨jg,dj,E⟩:=bd E;refine CS az (mt (mt mh)) O O sl_34.1 dj O λjh dk=>LU O dk fa_97_2.1 O λji dl=>Em λjj dm jk=>?_;obtain⟨dn,dp,E⟩:=bd E;refine JD (r:=AM) (l:=av) (i:=a3.Z) (x:=dn) O O (AC.mk (x:=b2) ⟨gc,ge⟩) dl dp AH.u_Open ty_51.1 CE dm (.tail (.tail .head)) λjl dq jm=>AU ?_;refine WF.nil (λaa ww Y hw=>?_);exact⟨(upd av a3.Z ({ dn with R:=b2})),_,_,Y.sub (kp [8,6,4,0,2,7] O),hw,dq,EX,E⟩
     refine AU ?_;refine WF.nil (λaa ww Y hw=>?_);exact⟨av,_,_,Y.sub (kp [8,6,4,0,2,7] O),hw,az,(Cc.refl b0 df),E⟩
    rintro aa ww ⟨a4,jn,jo,Y,hw,a6,jp,E⟩;refine AI ?_ Y hw;clear Y hw ww aa;rw[F5] at E;refine AU ?_;have gf:=ab.nw;refine AN E O O gf sl_24.1 O λgg E jq jr=>AU ?_;obtain⟨gh,aj,E⟩:=bd E;refine A6 8 83 (.bool gh) ?_ ?_
    ·cases dr:(decide (gg.F=5))
     ·have aj:=H8 dr aj;cases aj;exact BO O O
     have aj:=H7 dr aj;have gi:=b1.nw;have gj:=gi.fl KW;obtain⟨gm,_,ds⟩:=gj.ll;refine AU ?_;refine AN aj O O ds sl_37.1 O λgn aj gp gq=>AU ?_;cases aj;exact A5 O
    refine AU ?_;refine AE O E (λdt E=>?_) (λdt E=>?_)
    ·refine Gs 9 mo (by kernel_rfl) O a6 (AU ?_);refine BB E O O O UK O (λa7 b3 h' o=>H3 (St.all h') (iq (n:=0) O) b3) λa7 E du=>?_;obtain⟨dv,dw⟩:=du;obtain⟨gr,b4,E⟩:=bd E;refine CS a6 (mt (mt mh)) O O sl_34.1 b4 O λgs b5=>LU O b5 fa_97_2.1 O λgu b6=>Em λgv b7 gw=>?_;obtain⟨bp,b9,E⟩:=bd E;refine JD (r:=AM) (l:=a4) (i:=a3.Z) (x:=bp) O O (AC.mk (x:=a7) ⟨dv,dw⟩) b6 b9 AH.u_Open ty_51.1 CE b7 (.tail (.tail .head)) λgx ca gy=>AU ?_;refine WF.nil (λaa ww Y hw=>?_);exact⟨(upd a4 a3.Z ({ bp with R:=a7})),_,_,Y.sub (kp [6,4,0,2,7] O),hw,ca,EX,E⟩
    refine AU ?_;refine WF.nil (λaa ww Y hw=>?_);exact⟨a4,_,_,Y.sub (kp [6,4,0,2,7] O),hw,a6,EX,E⟩
   rintro aa ww ⟨bn,gz,g0,Y,hw,cb,g1,E⟩;refine AI ?_ Y hw;clear Y hw ww aa;rw[Dv] at E;refine AU ?_;refine WF.nil (λaa ww Y hw=>?_);exact⟨(BR (ap+1)),bn,_,_,Y.sub (kp [6,4,0,2,7] O),hw,cb,EX,(B1 _),E⟩
  refine WF.exit O (λaa ww Y hw=>?_);exact⟨av,_,_,Y.sub (kp [6,4,0,2] O),hw,bo,dd,E⟩
 rintro aa ww ⟨l9,a8,a9,Y,hw,cc,g2,E⟩;refine AI ?_ Y hw;clear Y hw ww aa;rw[Dw] at E;refine AU ?_;refine AQ (λa w=>∃(a0:List AH),IV B a8 a9 (182,[]) a w [(6,vI (↑p0_w.G.D.length:Int)),(0,vP j 0),(2,q)] (Bx j 141 [.string p0_w.G.M,s,vI p0_w.G.S,t,u,y,z,A,C,H,vI p0_w.G.T,vI p0_w.J.I,d,k,c,g]::OS AC 51 d p0_w.J.K::OS AM 97 c a0::OS AC 51 g p0_w.Aj::L) λ_ _=>Ek N p0_w Q a0=some r) ?_ ?_
 ·refine BJ (λn5=>λa w=>∃(ad:Int) (an:List AH),IV B a8 a9 (182,[]) a w [(6,vI (↑p0_w.G.D.length:Int)),(4,q1),(0,vP j 0),(2,q),(9,vI ad)] (Bx j 141 [.string p0_w.G.M,s,vI p0_w.G.S,t,u,y,z,A,C,H,vI p0_w.G.T,vI p0_w.J.I,d,k,c,g]::OS AC 51 d p0_w.J.K::OS AM 97 c an::OS AC 51 g p0_w.Aj::L) λ_ _=>AA ad∧C4 N p0_w V (Ek N p0_w Q) n5 ad an=some r) N ?_ ?_ ?_
  ·intro aa ww Y hw;exact⟨0,l9,_,_,Y.sub (kp [6,4,0,2,9] O),hw,cc,(Cc.refl a8 a9),(iq (n:=0) O),E⟩
  ·rintro aa ww ⟨_,_,_,_,_,_,_,_,_,E⟩;rw[C4] at E;cases E
  rintro n5 aa ww ⟨ad,an,ak,dx,Y,hw,ba,dy,g3,E⟩;refine AI ?_ Y hw;clear Y hw ww aa;rw[C4] at E;have bq:=k6.nw;refine AU ?_;refine AE O E (λdz E=>?_) (λdz E=>?_)
  ·refine AU ?_;refine AQ (λa w=>∃(a1:List AH),IV B ak dx (182,[]) a w [(6,vI (↑p0_w.G.D.length:Int)),(4,q1),(0,vP j 0),(2,q),(9,vI ad)] (Bx j 141 [.string p0_w.G.M,s,vI p0_w.G.S,t,u,y,z,A,C,H,vI p0_w.G.T,vI p0_w.J.I,d,k,c,g]::OS AC 51 d p0_w.J.K::OS AM 97 c a1::OS AC 51 g p0_w.Aj::L) λ_ _=>F4 N ad (C4 N p0_w V (Ek N p0_w Q) n5) a1=some r) ?_ ?_
   ·have d0:=bq.fl MD;obtain⟨g4,_,d1⟩:=d0.ll;refine AU ?_;refine AN E O O d1 sl_38.1 O λaf E g5 d2=>?_;have d3:=d2.fl Nl.f_Link;have d4:=d3.i;refine AU ?_;refine WF.rc (.inl O) ba (AU ?_);refine BC E O O O aH O (λd5 cd h' o=>LR (St.all h') d4 (M0 b8) cd) λd5 E=>BD (kp [108,10,6,4,0,2,9] O) λbr X d6=>AE O E (λd7 E=>?_) (λd7 E=>?_)
    ·refine AU ?_;obtain⟨a2,ce,E⟩:=bd E;obtain⟨g6,cf,E⟩:=bd E;obtain⟨aq,cg,E⟩:=bd E;obtain⟨ar,ch,E⟩:=bd E;obtain⟨al,ci,E⟩:=bd E;refine QC (m:=[(10,vI af.Z),(6,vI (↑p0_w.G.D.length:Int)),(4,q1),(0,vP j 0),(2,q),(9,vI ad)]) 26 (λi v hh=>match i with|0=>v=vP j 0|1=>v=vP j 0|2=>v=vP j 0|3=>v=vP j 4|4=>Sl ak hh BI v p0_w.G.D|5=>v=vI af.Z∧AA af.Z|6=>Pt ak hh BI v a2|7=>Rd ak hh BI v a2|8=>v=vP j 0|9=>v=vP j 0|10=>v=vP j 11|11=>v=vP j 14|12=>v=c|13=>v=vI af.Z∧AA af.Z|14=>EP c (af.Z.toNat*(AM).sz+0) v|15=>EP c (af.Z.toNat*(AM).sz+2) v|16=>v=vI aq.W∧AA aq.W|17=>v= .agg #[vI 0,vI aq.W,.bool false,.bool false]∧AA 0∧AA aq.W|18=>Pt ak hh (BU.sl KI) v V.Bb|19=>Sl ak hh KI v V.Bb|20=>v=vI ad∧AA ad|21=>Pt ak hh KI v ar|22=>Pt ak hh AY v ar.W|23=>v=vI ar.W∧AA ar.W|24=>v= .agg #[vI al.U,vI al.W,.bool al.Bg,.bool al.R]∧AA al.U∧AA al.W|25=>RP br 81 [vI 0,vI 0,.bool false,.bool false] v hh|_=>False) [[],[(0,109)],[(1,110)],[(2,111)],[(3,112)],[],[(4,113),(5,114)],[(6,115)],[],[(8,117)],[(9,118)],[(10,119)],[(11,120)],[],[(12,121),(13,122)],[(14,123)],[(15,124)],[(16,125)],[],[(18,127)],[],[(19,128),(20,129)],[(21,130)],[(22,131)],[(7,116),(17,126),(23,132)],[]] [(24,133),(25,11)] mo (by kernel_rfl) [10,6,4,0,2,9] O (by kernel_rfl) (by kernel_rfl) (by kernel_rfl) (kp [10,6,4,0,2,9] O) MO ?_ ?_
     ·refine BM.cons O EY (BM.cons O EY (BM.cons O EY (BM.cons O EY (BM.cons O ?_ ?_))))
      ·intro mq hh o;intro g7 d8;have ac:=o.st X;cases d8;refine AU ?_;have d9:=ab.nw;exact B0 d9
      refine BM.cons O EY (BM.cons O ?_ ?_)
      ·intro mq hh o;intro eb bb g8 ec;have ac:=o.st X;have bb:Sl _ _ BI eb p0_w.G.D:=bb;obtain⟨rfl,g9⟩:=ec;refine AU ?_;refine Mc O O bb sl_24.1 ce O λha ed=>AU ?_;exact B0 ed
      refine BM.cons O ?_ ?_
      ·intro mq hh o;intro ee bc;have ac:=o.st X;have bc:Pt _ _ BI ee a2:=bc;obtain⟨hc,_,ef⟩:=bc.lv;refine AU ?_;exact B0 ef
      refine BM.cons O EY (BM.cons O EY (BM.cons O EY (BM.cons O EY (BM.cons O EY (BM.cons O EY (BM.cons O ?_ ?_))))))
      ·intro mq hh o;intro hd eg he eh;have ac:=o.st X;cases eg;obtain⟨rfl,hg⟩:=eh;refine AU ?_;refine CS ac (mt (mt mh)) O O sl_34.1 cf O λhi cj=>AU ?_;exact B0 cj
      refine BM.cons O ?_ ?_
      ·intro mq hh o;intro hj ei;have ac:=o.st X;refine AU ?_;refine LU O ei fa_97_1.1 O λhk ck=>AU ?_;exact B0 ck
      refine BM.cons O ?_ ?_
      ·intro mq hh o;intro hl ej;have ac:=o.st X;refine AU ?_;have ek:=ac.epAt (mt (mt mh)) cg AH.f_Target ej;refine GS KP (λ_ x=>x) O ek ty_3.1 O λel=>AU ?_;exact B0 ⟨O,el⟩
      refine BM.cons O ?_ ?_
      ·intro mq hh o;intro hm em;have ac:=o.st X;obtain⟨rfl,en⟩:=em;refine AU ?_;refine B6 (cs:=[vI 0,vI aq.W,.bool false,.bool false]) XD O O O (AU ?_);exact B0 ⟨O,(iq (n:=0) O),en⟩
      refine BM.cons O ?_ ?_
      ·intro mq hh o;have ac:=o.st X;have eo:=bq.nw;have ep:=eo.fl MD;refine AU ?_;exact B0 ep
      refine BM.cons O ?_ ?_
      ·intro mq hh o;intro eq be;have ac:=o.st X;have be:Pt _ _ (BU.sl KI) eq V.Bb:=be;obtain⟨hn,_,er⟩:=be.ll;refine AU ?_;exact B0 er
      refine BM.cons O EY (BM.cons O ?_ ?_)
      ·intro mq hh o;intro es bf ho eu;have ac:=o.st X;have bf:Sl _ _ KI es V.Bb:=bf;obtain⟨rfl,hp⟩:=eu;refine AU ?_;refine Mc O O bf sl_38.1 ch O λhq ev=>AU ?_;exact B0 ev
      refine BM.cons O ?_ ?_
      ·intro mq hh o;intro ew bg;have ac:=o.st X;have bg:Pt _ _ KI ew ar:=bg;have ex:=bg.fl Nl.f_Target;refine AU ?_;exact B0 ex
      refine BM.cons O ?_ ?_
      ·intro mq hh o;intro ey bh;have ac:=o.st X;have bh:Pt _ _ AY ey ar.W:=bh;have ez:=bh.i;refine AU ?_;exact B0 ⟨O,ez⟩
      refine BM.cons O ?_ ?_
      ·intro mq hh o;intro e0 aw hr e1 ht e2;have ac:=SN.st X o;have aw:=Rd.sn br aw;have aw:Rd _ _ BI e0 a2:=aw;obtain⟨rfl,e3,e4⟩:=e1;obtain⟨rfl,e6⟩:=e2;refine EQ O O O lM O ac (P3 (St.all _) (aw.mono ac.ea) (JA.mk (x:=(⟨0,aq.W,false,false⟩:Ep)) ⟨e3,e4⟩) e6 ci) λhu hv hx gk hy bs p=>?_;obtain⟨rfl,⟨e7,e8⟩,gl⟩:=p;exact EB ⟨bs.siz,λb hb=>bs.same b hb⟩ ⟨O,e7,e8⟩
      exact BM.cons O (λ_ _ o=>Nk o VL O λ_ h' o' r'=>EB o' r') trivial
     intro hz e9 h0 fa h1 fb;obtain⟨h2,rfl,cl⟩:=fb.st X e9;obtain⟨rfl,h4,fc⟩:=fa;refine AW O O O O ty_81.1 O cl .head O λh5 bi h6=>AU ?_;refine Pa 10 mo (by kernel_rfl) O (AU ?_);obtain⟨h7,cm,E⟩:=bd E;refine CS bi (mt (mt (mt mh))) O O sl_34.1 cm O λh8 cn=>LU O cn fa_97_1.1 O λh9 co=>AU ?_;obtain⟨bt,cp,E⟩:=bd E;refine JD (r:=AM) (l:=an) (i:=af.Z) (x:=bt) O O (⟨_,O,O,fc⟩:Rd _ _ AY _ al.W) co cp AH.u_Target ty_3.1 (λ_=>rfl) bi (.tail (.tail (.tail .head))) λia cq ib=>AU ?_;refine WF.nil (λaa ww Y hw=>?_);have cr:=cq.sel [1,1,1,1] 1 O;exact⟨(upd an af.Z ({ bt with W:=al.W})),_,_,Y.sub (kp [6,4,0,2,9] O),hw,cr,EX,E⟩
    refine AU ?_;refine WF.nil (λaa ww Y hw=>?_);exact⟨an,_,_,Y.sub (kp [6,4,0,2,9] O),hw,X,d6,E⟩
   rintro aa ww ⟨a1,ic,ie,Y,hw,ct,ig,E⟩;refine AI ?_ Y hw;clear Y hw ww aa;rw[F4] at E;refine AU ?_;refine WF.nil (λaa ww Y hw=>?_);exact⟨(BR (ad+1)),a1,_,_,Y.sub (kp [6,4,0,2,9] O),hw,ct,EX,(B1 _),E⟩
  refine WF.exit O (λaa ww Y hw=>?_);exact⟨an,_,_,Y.sub (kp [6,0,2] O),hw,ba,dy,E⟩
 rintro aa ww ⟨a0,bu,bv,Y,hw,cu,ih,E⟩;refine AI ?_ Y hw;clear Y hw ww aa;rw[Ek] at E;refine AU ?_;refine BQ (BJ (λn7=>λa w=>∃(ag:Int) (ao:List AH),IV B bu bv (182,[]) a w [(6,vI (↑p0_w.G.D.length:Int)),(0,vP j 0),(2,q),(12,vI ag)] (Bx j 141 [.string p0_w.G.M,s,vI p0_w.G.S,t,u,y,z,A,C,H,vI p0_w.G.T,vI p0_w.J.I,d,k,c,g]::OS AC 51 d p0_w.J.K::OS AM 97 c ao::OS AC 51 g p0_w.Aj::L) λ_ _=>AA ag∧C3 N p0_w Q n7 ag ao=some r) N ?_ ?_ ?_)
 ·intro aa ww Y hw;exact⟨0,a0,_,_,Y.sub (kp [6,0,2,12] O),hw,cu,(Cc.refl bu bv),(iq (n:=0) O),E⟩
 ·rintro aa ww ⟨_,_,_,_,_,_,_,_,_,E⟩;rw[C3] at E;cases E
 rintro n7 aa ww ⟨ag,ao,bj,bk,Y,hw,ax,ii,ij,E⟩;refine AI ?_ Y hw;clear Y hw ww aa;rw[C3] at E;refine AU ?_;refine AE O E (λfd E=>?_) (λfd E=>?_)
 ·refine AU ?_;refine BQ ?_;have ik:=am.nw;refine AU ?_;refine Er (λa w=>∃(bl:Bool),IV B bj bk (182,[]) a w [(6,vI (↑p0_w.G.D.length:Int)),(0,vP j 0),(2,q),(12,vI ag),(13,.bool bl)] (Bx j 141 [.string p0_w.G.M,s,vI p0_w.G.S,t,u,y,z,A,C,H,vI p0_w.G.T,vI p0_w.J.I,d,k,c,g]::OS AC 51 d p0_w.J.K::OS AM 97 c ao::OS AC 51 g p0_w.Aj::L) λ_ _=>F3 N p0_w ag ao (C3 N p0_w Q n7) bl=some r) ?_ ?_
  ·refine AE O E (λfe E=>?_) (λfe E=>?_)
   ·refine AU ?_;have ff:=am.nw;refine AN E O O ff sl_43.1 O λfg E il im=>AU ?_;refine WF.nil (λaa ww Y hw=>?_);exact⟨fg,_,_,Y.sub (kp [6,0,2,12,13] O),hw,ax,(Cc.refl bj bk),E⟩
   refine AU ?_;refine WF.nil (λaa ww Y hw=>?_);exact⟨false,_,_,Y.sub (kp [6,0,2,12,13] O),hw,ax,(Cc.refl bj bk),E⟩
  rintro aa ww ⟨bl,io,ip,Y,hw,ah,ir,E⟩;refine AI ?_ Y hw;clear Y hw ww aa;rw[F3] at E;refine Gs 25 mo (by kernel_rfl) O ah (AU ?_);have fh:=ab.nw;refine AN E O O fh sl_24.1 O λit E iu fi=>?_;obtain⟨iv,_,fj⟩:=fi.lv;refine AU ?_;obtain⟨iw,cv,E⟩:=bd E;refine CS ah (mt (mt mh)) O O sl_34.1 cv O λiy cw=>?_;obtain⟨iz,cx,E⟩:=bd E;have fk:=ah.epAt (mt (mt mh)) cx GC.id cw;refine Il SO (λ_ x=>x) O fk ty_97.1 CE O λi0 fm=>AU ?_;refine BB E O O O lL O (λbm cy h' o=>On (St.all h') (fj.mono (o.all ah.1)) (fm.mono (o.all ah.1)) cy) λbm E fn=>?_;obtain⟨fo,fp,fq,fr,fs⟩:=fn;obtain⟨i1,cz,E⟩:=bd E;refine CS ah (mt (mt mh)) O O sl_34.1 cz O λi2 c0=>Em λi3 c1 i4=>?_;obtain⟨ft,c2,E⟩:=bd E;refine JD (r:=AM) (l:=ao) (i:=ag) (x:=ft) O O (AM.mk (x:=bm) ⟨fo,fp,fq,fr,fs⟩) c0 c2 QD.id ty_97.1 CE c1 (.tail (.tail .head)) λi5 c3 i6=>AU ?_;refine B3 (AU ?_);refine WF.nil (λaa ww Y hw=>?_);exact⟨(BR (ag+1)),(upd ao ag bm),_,_,Y.sub (kp [6,0,2,12] O),hw,c3,EX,(B1 _),E⟩
 refine LG O (WF.nil (λaa ww Y hw=>?_));cases E;exact IS Y O hw ID O EX ⟨_,O,ax⟩
end Go.Proofs.YtibidnaedddfdaaGreat
