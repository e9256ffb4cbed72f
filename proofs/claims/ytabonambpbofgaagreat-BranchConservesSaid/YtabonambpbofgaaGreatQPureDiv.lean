import Derived.Test.YtabonambpbofgaaGreatQInst
import Derived.Test.YtabonambpbofgaaGreatQForms
import Derived.Test.YtabonambpbofgaaGreatQWalk1
import Derived.Test.YtabonambpbofgaaGreatQSortD
import Derived.Test.YtabonambpbofgaaGreatQWalk7
import Derived.Test.YtabonambpbofgaaGreatQWalk16
import Derived.Test.YtabonambpbofgaaGreatQWalk17
import Derived.Lib.Mul64
namespace Go.Proofs.YtabonambpbofgaaGreat
set_option linter.all false
open Go.RowKit
open Go.Proofs.Tryz
set_option maxRecDepth 10000
set_option maxHeartbeats 20000000
variable {F a0 a1 b c d k s t:Value}{c1_ j:xq}{N g:Nat}{I U p:AF}{l:AM}{a den n num y:Int}{xj:AJ}{m o r:List (AA×AJ)}{V u:AH}{bt:List BT}
variable{N:Nat}{S:Nat->Prop}{L:List HP}{h:AV}
def Q8(hs:St S L h){g:Value}{q:AF}(p:Rd S h Bz g q){i:List BT}(c:Sl S h C2 d i){r:Bool}(E:Jy N q i=some r):
 CG prog 9 #[g,d] S h (λv S' h'=>v= .bool r/\St S' (L) h'):=by
 refine CG.go 70 func9 O ntmps9 O λB=>?_;rw[Jy]at E;refine AU ?_;refine CC O p CE O hs λq1 S2 C D e5 k6=>?_;have ai:=c.mono' e5;refine AU ?_;refine AK O E (λF E=>?_) (λF E=>?_)
 ·exact RT
 refine AU ?_;refine AT (λa w=>IV B S2 C (70,[]) a w [] (L) λ_ _=>Hh N=some r) ?_ ?_
 ·refine A0 (λn1=>λa w=>∃(j:Int),IV B S2 C (70,[]) a w [(1,d),(5,vI j)] (L) λ_ _=>AB j/\FH N i (Hh N) n1 j=some r) N ?_ ?_ ?_
  ·intro t u k l;exact⟨0,_,_,k.sub (kp [1,5] O),l,D,(CO.refl S2 C),(iq (n:=0) O),E⟩
  ·rintro t u⟨_,_,_,_,_,_,_,_,E⟩;rw[FH]at E;cases E
  rintro n1 t u⟨j,aj,ak,k,l,s,G,am,E⟩;refine AL ?_ k l;clear k l u t;rw[FH]at E;have an:=c.nw;refine AU ?_;refine AK O E (λH E=>?_) (λH E=>?_)
  ·refine AU ?_;refine AW (AU ?_);have I:=c.nw;refine BE E O O I R5.1 O λm E ao J=>?_;have M:=J.fl BT.f_In;obtain⟨ap,_,Q⟩:=M.lv;refine AU ?_;refine DT Zi O s λaq ar x W=>?_;have X:=Q.mono W;obtain⟨au,av,aw,ax,ay,rfl,Y,Z,ab,ac,ad⟩:=BJ.ex X;refine H5 O O O ON PT.1 O x .head O λaz y o=>?_;have a0:=Y.mono' o;have a1:=Z.mono' o;have a2:=ab.mono' o;have a3:=ac.mono' o;have a4:=ad.mono' o;refine AU ?_;obtain⟨ae,b,E⟩:=bd E;refine A3 8 69 (.bool ae) ?_ ?_
   ·cases z:(((((decide (8<(↑m.K.U.length:Int)))||(decide (6<(↑m.K.Ab.length:Int))))||(decide (6<(↑m.K.Ac.length:Int))))||(decide (6<(↑m.K.V.length:Int))))||(decide (6<(↑m.K.Ad.length:Int))))
    ·have b:=Hl z b;refine AU ?_;have af:=c.nw;refine BE b O O af R5.1 O λa5 b a6 a7=>AU ?_;cases b;exact A4 O
    have b:=Hk z b;cases b;exact BK O O
   refine AU ?_;refine AK O E (λag E=>?_) (λag E=>?_)
   ·exact RT
   refine AU ?_;refine BF (AU ?_);refine WF.nil (λt u k l=>?_);have A:=y.drop .head;exact⟨(BO (j+1)),_,_,k.sub (kp [1,5] O),l,A,EX,(BQ _),E⟩
  refine BL O (λt u k l=>?_);exact⟨_,_,k.sub Ts,l,s,G,E⟩
 rintro t u⟨a8,a9,k,l,ah,ba,E⟩;refine AL ?_ k l;clear k l u t;rw[Hh]at E;exact RT
def Pe(W:St S L h){j:AF}(g:Rd S h Bz b j){k:AH}(i:Rd S h BP c k){r:Option F8}(E:Il N j k=some r):
 CG prog 10 #[b,c] S h (λv S' h'=>St S' (Pm 91 93 3 v r::L) h'):=by
 refine CG.go 17 func10 O ntmps10 O λB=>?_;rw[Il]at E;refine AU ?_;refine CC O g CE O W λq1 S2 h3 A X Y=>?_;have Z:=i.mono X;refine CC O Z CE O A λq8 S9 ab d C n=>AU ?_;refine CP (.inl O) d ?_;have m:=Y.mono C;obtain⟨ac,_,D⟩:=m.lv;refine AU ?_;refine BD E O O O tW O (λq s h' o=>PW (St.all h') (D.mono (o.all d.1)) s) λq E=>AU ?_;obtain⟨F,a,E⟩:=bd E;refine A3 5 13 (.bool F) ?_ ?_
 ·cases t:(!q)
  ·have a:=Hl t a;obtain⟨ad,_,G⟩:=m.lv;obtain⟨ae,_,H⟩:=n.lv;refine AU ?_;refine BD a O O O tV O (λI u h' o=>Py (St.all h') (G.mono (o.all d.1)) (H.mono (o.all d.1)) u) λI a=>AU ?_;cases a;exact A4 O
  have a:=Hk t a;cases a;exact BK O O
 refine BW (kp [13,3,2] O) λaf l w=>AK O E (λJ E=>?_) (λJ E=>?_)
 ·refine AU ?_;refine CM (λaa ww hf hw=>?_);have x:=mV (TT:=91) (T:=93) (E:=3) l;cases E;exact T0 hf hw O O EX x
 refine AU ?_;refine Cj ?_;have K:=m.mono w;obtain⟨ag,_,M⟩:=K.lv;have Q:=n.mono w;obtain⟨ah,_,U⟩:=Q.lv;refine AU ?_;refine DX E O O O tX O (λV y=>gT l M U y) λV E ai aj ak al p=>?_;have z:=p;refine AU ?_;cases E;exact GF z O O EX
def Ok(hs:St S (Bx g 29 [c]::OS AC 3 c c1_::L) h){d:xq}(k:Sl S h AC b d){r:xq}(E:KH N c1_ d=some r):
 CG prog 127 #[b,vP g 0] S h (λv S' h'=>∃m:Value,v= .tuple #[]/\St S' (Bx g 29 [m]::OS AC 3 m r::L) h'):=by
 refine CG.go 25 func127 O ntmps127 O λB=>?_;rw[KH]at E;refine AU ?_;refine XE O O O (AU ?_);refine AW (A0 (λn0=>λa w=>∃(s:Int)(u:xq),IV B S h (25,[]) a w [(8,vI (min (↑c1_.length:Int) (↑d.length:Int))),(0,b),(1,vP g 0),(9,vI s)] (Bx g 29 [c]::OS AC 3 c u::L) λ_ _=>AB s/\Gs N d c1_ n0 s u=some r) N ?_ ?_ ?_)
 ·intro y z p q;exact⟨0,c1_,_,_,p.sub (kp [8,0,1,9] O),q,hs,(CO.refl S h),(iq (n:=0) O),E⟩
 ·rintro y z⟨_,_,_,_,_,_,_,_,_,E⟩;rw[Gs]at E;cases E
 rintro n0 y z⟨s,u,S9,ad,p,q,j,A,r7,E⟩;refine AL ?_ p q;clear p q z y;rw[Gs]at E;refine AU ?_;refine AK O E (λQ E=>?_) (λQ E=>?_)
 ·refine AU ?_;refine AW (AU ?_);refine Na 12 mo Γ O j (AU ?_);obtain⟨ae,C,E⟩:=bd E;refine BU j (mt mh) O O CW.1 C O λaf D=>?_;obtain⟨ag,F,E⟩:=bd E;have U:=j.epAt (mt mh) F FB.id D;refine FA OK (λ_ x=>x) O U Fl.1 O λV=>AU ?_;have W:=k.mono' A;refine BE E O O W CW.1 O λah E ai X=>?_;have Y:=X.i;refine AU ?_;refine DO E O O O Ux O (λt G h' o=>KA (St.all h') V Y G) λt E Z=>?_;have ab:=Z;obtain⟨aj,H,E⟩:=bd E;refine BU j (mt mh) O O CW.1 H O λak I=>Lo λal J am=>?_;obtain⟨ac,K,E⟩:=bd E;refine Ei (r:=AC) (l:=u) (i:=s) (x:=ac) O O (⟨_,O,O,ab⟩:Rd _ _ AC _ t) I K NQ.id Fl.1 (λ_=>rfl) J (.tail .head) λan M ao=>AU ?_;refine BF (AU ?_);refine WF.nil (λy z p q=>?_);exact⟨(BO (s+1)),(upd u s t),_,_,p.sub (kp [8,0,1,9] O),q,M,EX,(BQ _),E⟩
 refine IA O (WF.nil (λy z p q=>?_));cases E;exact K0 p O q Kz O A ⟨_,O,j⟩
def UO(hs:St S L h){b:AH}(s:Rd S h BP k b){r:xq}(E:MS N b=some r):
 CG prog 64 #[k] S h (λv S' h'=>St S' (OS AC 3 v r::L) h'):=by
 refine CG.go 38 func64 O ntmps64 O λB=>?_;rw[MS]at E;refine AU ?_;refine CC O s CE O hs λq1 S2 h3 ay e5 k6=>AU ?_;obtain⟨ab,E⟩:=MF E;refine L4 (r:=AC) (zx:=0) JY O ⟨O,by unfold AB;omega⟩ O O ab O O ay λbu bv ac bw=>DT eU O ac λc bx z bz=>?_;obtain⟨ad,H,rfl,b0⟩:=z.oslen (mt mh);refine EM O O O O GC.1 O z .head O λI ae b1=>AU ?_;refine PM O O O ?_;have af:=k6.nw;have az:=af.fl LR;obtain⟨a0,_,a1⟩:=az.ll;refine AU ?_;refine AT (λa w=>∃(t:Value)(u:xq),IV B S2 I (38,[]) a w [(4,.func (.func 127) #[] #[vP c 0]),(3,vP c 0),(1,q1)] (OS AC 3 t u::Bx c 29 [t]::L) λ_ _=>HH N b u=some r) ?_ ?_
 ·refine A0 (λn1=>λa w=>∃(l:Int)(x:Value)(m:xq),IV B S2 I (38,[]) a w [(16,vI (↑b.D.length:Int)),(15,a0),(4,.func (.func 127) #[] #[vP c 0]),(3,vP c 0),(1,q1),(17,vI l)] (OS AC 3 x m::Bx c 29 [x]::L) λ_ _=>AB l/\HG N b (HH N b) n1 l m=some r) N ?_ ?_ ?_
  ·intro i j d g;have ag:=ae.sel [1,0] 0 O;exact⟨0,(.slice ad (List.replicate ((↑b.K.length:Int):Int).toNat (0:Int)).length H),(List.replicate ((↑b.K.length:Int):Int).toNat (0:Int)),_,_,d.sub (kp [16,15,4,3,1,17] O),g,ag,(CO.refl S2 I),(iq (n:=0) O),E⟩
  ·rintro i j⟨_,_,_,_,_,_,_,_,_,_,E⟩;rw[HG]at E;cases E
  rintro n1 i j⟨l,x,m,b2,b3,d,g,A,ah,b4,E⟩;refine AL ?_ d g;clear d g j i;rw[HG]at E;refine AU ?_;refine AK O E (λa2 E=>?_) (λa2 E=>?_)
  ·refine AU ?_;refine AW (AU ?_);have a3:=a1.mono' ah;refine BE E O O a3 Js.1 O λb5 E b6 a4=>?_;obtain⟨b7,_,a5⟩:=a4.ll;refine AU ?_;refine Cj (AU ?_);have ai:=A.sel [1,0] 0 O;refine DX E O O O mL O (λaj ak=>Ok (c1_:=m) ai a5 ak) λaj E b8 b9 ca cb p=>?_;obtain⟨a6,rfl,am⟩:=p;refine AU ?_;refine BF (AU ?_);refine WF.nil (λi j d g=>?_);have an:=am.sel [1,0] 0 O;exact⟨(BO (l+1)),a6,aj,_,_,d.sub (kp [16,15,4,3,1,17] O),g,an,EX,(BQ _),E⟩
  refine BL O (λi j d g=>?_);exact⟨x,m,_,_,d.sub (kp [4,3,1] O),g,A,ah,E⟩
 rintro i j⟨t,u,J,M,d,g,ao,a7,E⟩;refine AL ?_ d g;clear d g j i;rw[HH]at E;have a8:=af.mono a7;have a9:=a8.fl KQ;obtain⟨ba,_,bb⟩:=a9.ll;refine AU ?_;refine AT (λa w=>∃(Q:Value)(U:xq),IV B J M (38,[]) a w [(3,vP c 0)] (OS AC 3 Q U::Bx c 29 [Q]::L) λ_ _=>Jn N U=some r) ?_ ?_
 ·refine A0 (λn3=>λa w=>∃(o:Int)(y:Value)(q:xq),IV B J M (38,[]) a w [(27,vI (↑b.F.length:Int)),(26,ba),(4,.func (.func 127) #[] #[vP c 0]),(3,vP c 0),(28,vI o)] (OS AC 3 y q::Bx c 29 [y]::L) λ_ _=>AB o/\Hx N b (Jn N) n3 o q=some r) N ?_ ?_ ?_
  ·intro i j d g;exact⟨0,t,u,_,_,d.sub (kp [27,26,4,3,28] O),g,ao,(CO.refl J M),(iq (n:=0) O),E⟩
  ·rintro i j⟨_,_,_,_,_,_,_,_,_,_,E⟩;rw[Hx]at E;cases E
  rintro n3 i j⟨o,y,q,cc,cd,d,g,C,ap,ce,E⟩;refine AL ?_ d g;clear d g j i;rw[Hx]at E;refine AU ?_;refine AK O E (λbc E=>?_) (λbc E=>?_)
  ·refine AU ?_;refine AW (AU ?_);have be:=bb.mono' ap;refine BE E O O be On.1 O λcf E cg bf=>?_;obtain⟨ch,_,bg⟩:=bf.lv;refine AU ?_;refine DT RP O C λci cj aq bh=>?_;have ar:=bg.mono bh;obtain⟨bj,rfl,bk,bl,au⟩:=A5.ex ar;refine H5 O O O ON RW.1 O aq .head O λbm V av=>AU ?_;refine Cj (AU ?_);have W:=V.sel [2,1,0] 0 O;have aw:=au.mono' av;refine DX E O O O mL O (λG X=>Ok (c1_:=q) W aw X) λG E bn bo bp bq p=>?_;obtain⟨ax,rfl,Y⟩:=p;refine AU ?_;refine BF (AU ?_);refine WF.nil (λi j d g=>?_);have Z:=Y.sel [1,0] 1 O;exact⟨(BO (o+1)),ax,G,_,_,d.sub (kp [27,26,4,3,28] O),g,Z,EX,(BQ _),E⟩
  refine BL O (λi j d g=>?_);exact⟨y,q,_,_,d.sub (kp [3] O),g,C,ap,E⟩
 rintro i j⟨Q,U,br,bs,d,g,bi,bt,E⟩;refine AL ?_ d g;clear d g j i;rw[Jn]at E;refine AU ?_;cases E;exact GF DR O O EX
def Md(hs:St S L h){g:Value}{c:AH}(q:Rd S h BP g c){r:Int}(E:Hg N c=some r):
 CG prog 30 #[g] S h (λv S' h'=>v=vI r/\AB r/\St S' (L) h'):=by
 refine CG.go 10 func30 O ntmps30 O λB=>?_;rw[Hg]at E;refine AU ?_;refine CC O q CE O hs λq1 S2 V d e5 k6=>AU ?_;refine Rq (kp [1] O) ?_;obtain⟨y9,W,E⟩:=bd E;obtain⟨A,C,E⟩:=bd E;obtain⟨D,F,E⟩:=bd E;obtain⟨s,G,E⟩:=bd E;refine OA (m:=[(1,q1)]) 8 (λi v j=>match i with|0=>Rd S2 j BP v c|1=>Sl (SN S2 V j) j AC v y9|2=>v=vI A/\AB A|3=>Pt S2 j (A9.sl AC) v c.O|4=>Sl S2 j AC v c.O|5=>v=vI D/\AB D|6=>v=vI s/\AB s|7=>v=vI s/\AB s|_=>False) [[],[(0,3)],[(1,4)],[],[(3,6)],[(4,7)],[(2,5),(5,8)],[(6,9)]] [(7,2)] mo Γ [1] O Γ Γ Γ (kp [1] O) MO ?_ ?_
 ·refine A7.cons O ?_ ?_
  ·intro z j o;have a:=o.st d;have X:=k6.mono (o.ext d.1);obtain⟨a3,_,Y⟩:=X.lv;refine AU ?_;exact B1 Y
  refine A7.cons O ?_ ?_
  ·intro z j o;intro Z l;have a:=SN.st d o;have l:=Rd.sn V l;have l:Rd _ _ BP Z c:=l;have w:=a.fz;refine El O O O Adh O w (UO (St.all _) (l.mono w.ea) W) λa4 a5 a6 au a7 aa p=>?_;have H:=p;have t:=w.join aa H ⟨OS.flat (λ{_ _ _ _ _ _} k=>k),trivial⟩;simp only[Ag4,Ag3]at t;obtain⟨a8,I,a9,ab⟩:=t.pubs .head;have u:=Fz.done o EX I;exact BB u.1 (Sl.mono' ab u.2)
  refine A7.cons O ?_ ?_
  ·intro z j o;intro ac x;have a:=SN.st d o;have x:Sl _ _ AC ac y9:=x;refine El O O O OR O a (ES (St.all _) (x.mono a.ea.1 a.ea.2) C) λba bb bc av be J p=>?_;obtain⟨rfl,ad,aw⟩:=p;exact BB ⟨J.siz,λb K=>J.same b K⟩ ⟨O,ad⟩
  refine A7.cons O ?_ ?_
  ·intro z j o;have a:=o.st d;have af:=k6.mono (o.ext d.1);have ag:=af.fl LS;refine AU ?_;exact B1 ag
  refine A7.cons O ?_ ?_
  ·intro z j o;intro ah y;have a:=o.st d;have y:Pt _ _ (A9.sl AC) ah c.O:=y;obtain⟨bf,_,ai⟩:=y.ll;refine AU ?_;exact B1 ai
  refine A7.cons O ?_ ?_
  ·intro z j o;intro aj n;have a:=SN.st d o;have n:=Sl.sn V n;have n:Sl _ _ AC aj c.O:=n;refine El O O O OR O a (ES (St.all _) (n.mono a.ea.1 a.ea.2) F) λbg bh bi ax bj M p=>?_;obtain⟨rfl,ak,ay⟩:=p;exact BB ⟨M.siz,λb K=>M.same b K⟩ ⟨O,ak⟩
  refine A7.cons O ?_ ?_
  ·intro z j o;intro bk al bl am;have a:=SN.st d o;obtain⟨rfl,an⟩:=al;obtain⟨rfl,ao⟩:=am;refine El O O O Ux O a (KA (St.all _) an ao G) λbm bn bo az bp Q p=>?_;obtain⟨rfl,ap,a0⟩:=p;exact BB ⟨Q.siz,λb K=>Q.same b K⟩ ⟨O,ap⟩
  exact A7.cons O F9 (trivial)
 intro bq aq a1 U;have ar:=SN.st d aq;obtain⟨rfl,a2⟩:=U;exact RT
def UZ(hs:St S L h){m:Value}(ag:Rd S h Bz m U){o:Value}{c:AH}(ah:Rd S h BP o c){g:List AX}(A:Sl S h BJ d g){r:(List AH)×(List AM)×(List xq)}(E:MT N U c g=some r):
 CG prog 32 #[m,o,d] S h (λv S' h'=>∃cb cc cd:Value,v= .tuple #[cb,cc,cd]/\St S' (OS BP 36 cb r.1::OS BY 116 cc r.2.1::OS (A9.sl AC) 29 cd r.2.2::L) h'):=by
 refine CG.go 47 func32 O ntmps32 O λB=>?_;rw[MT]at E;refine AU ?_;refine CC O ag CE O hs λq1 S2 h3 dj e5 k6=>?_;have k7:=ah.mono e5;obtain⟨dk,dl,dm,dn,dp,dq,rfl,r9,dr,ds,dt,du,dv,dw⟩:=BP.ex k7;refine OD O O O dj λce bb cf C=>?_;have dx:=A.nw;refine AU ?_;refine AT (λa w=>∃(bc:Value)(be:List AH)(bf:Value)(bg:List AM)(bh:Value)(bi:List xq),IV B S2 bb (47,[]) a w [(9,bc),(10,bf),(11,bh)] (OS BP 36 bc be::OS BY 116 bf bg::OS (A9.sl AC) 29 bh bi::L) λ_ _=>Kh N be bg bi=some r) ?_ ?_
 ·refine A0 (λn1=>λa w=>∃(ai:Value)(G:List AH)(aj:Value)(H:List AM)(ak:Value)(I:List xq)(V:Int)(W:Int)(bj:Value)(am:List xq)(bk:Value)(an:xq)(bl:Value)(ao:List AY)(bm:Value)(ap:List A8)(bn:Value)(aq:xq)(bo:Value)(ar:xq),IV B S2 bb (47,[]) a w [(18,vI (↑g.length:Int)),(17,d),(4,vP ce 0),(3,q1),(9,ai),(10,aj),(11,ak),(19,vI V)] (OS BP 36 ai G::OS BY 116 aj H::OS (A9.sl AC) 29 ak I::Bx ce 36 [vI W,bj,bk,bl,bm,bn,bo]::L) λS' h'=>AB V/\AB W/\Sl S' h' (A9.sl AC) bj am/\Sl S' h' AC bk an/\Sl S' h' A5 bl ao/\Sl S' h' BZ bm ap/\Sl S' h' AC bn aq/\Sl S' h' AC bo ar/\Hz N U g (Kh N) n1 G H I V W am an ao ap aq ar=some r) N ?_ ?_ ?_
  ·intro aa ww k J;have cg:=cf.nil BP 36;have ch:=cg.nil BY 116;have ci:=ch.nil (A9.sl AC) 29;have cj:=ci.sel [2,1,0,0] 0 O;have dy:=dr.mono' C;have dz:=ds.mono' C;have d0:=dt.mono' C;have d1:=du.mono' C;have d2:=dv.mono' C;have d3:=dw.mono' C;exact⟨(vN),([]:List AH),((vN)),([]:List AM),(((vN))),([]:List xq),0,c.B,dk,c.D,dl,c.P,dm,c.F,dn,c.Q,dp,c.K,dq,c.O,_,_,k.sub (kp [18,17,4,3,9,10,11,19] O),J,cj,(CO.refl S2 bb),(iq (n:=0) O),r9,dy,dz,d0,d1,d2,d3,E⟩
  ·rintro aa ww⟨_,_,_,_,_,_,_,_,_,_,_,_,_,_,_,_,_,_,_,_,_,_,_,_,_,_,_,_,_,_,_,_,_,_,E⟩;rw[Hz]at E;cases E
  rintro n1 aa ww⟨ai,G,aj,H,ak,I,V,W,bj,am,bk,an,bl,ao,bm,ap,bn,aq,bo,ar,eb,ec,k,J,X,av,f1,d4,d5,d6,d7,d8,d9,ea,E⟩;refine AL ?_ k J;clear k J ww aa;rw[Hz]at E;refine AU ?_;refine AK O E (λck E=>?_) (λck E=>?_)
  ·refine AU ?_;refine AW (AU ?_);have cl:=dx.mono' av;refine BE E O O cl iH.1 O λed E ee cm=>?_;obtain⟨ef,_,cn⟩:=cm.lv;refine AU ?_;refine DT Zi O X λeg eh bp co=>?_;have aw:=cn.mono co;obtain⟨ei,ej,ek,el,em,rfl,en,eo,ep,eq,er⟩:=BJ.ex aw;refine H5 O O O ON PT.1 O bp .head O λes bq cp=>AU ?_;refine Cj ?_;have cq:=k6.nw;obtain⟨eu,_,cr⟩:=cq.lv;refine AU ?_;have ct:=d5.nw;have cu:=d6.nw;have cv:=d7.nw;have cw:=d8.nw;have cx:=d9.nw;have cy:=ea.nw;have M:=aw.mono cp;obtain⟨b,br,E⟩:=bd E;refine Ch O O O tZ O (RG bq cr (BP.mk (x:=(⟨W,am,an,ao,ap,aq,ar⟩:AH)) d4 ct cu cv cw cx cy) M br) λev ew ey ez p=>?_;obtain⟨e0,e1,e2,rfl,cz,bs⟩:=p;refine AU ?_;refine DT Pn O bs λe3 e4 bt c0=>?_;have c1:=cz.mono c0;obtain⟨e6,e7,e8,e9,fa,fb,rfl,ax,ay,az,a0,a1,a2,a3⟩:=BP.ex c1;refine H5 O O O ON JB.1 O bt .head O λfc bu i=>AU ?_;have a4:=ay.mono' i;obtain⟨Y,q,rfl,fd⟩:=(a4).len;have a5:=az.mono' i;obtain⟨Z,s,rfl,fe⟩:=(a5).len;have a6:=a0.mono' i;obtain⟨ab,t,rfl,ff⟩:=(a6).len;have a7:=a1.mono' i;obtain⟨ac,u,rfl,fg⟩:=(a7).len;have a8:=a2.mono' i;obtain⟨ad,y,rfl,fh⟩:=(a8).len;have a9:=a3.mono' i;obtain⟨ae,z,rfl,fi⟩:=(a9).len;refine IX (cs:=[vI b.1.B,(.slice Y b.1.D.length q),(.slice Z b.1.P.length s),(.slice ab b.1.F.length t),(.slice ac b.1.Q.length u),(.slice ad b.1.K.length y),(.slice ae b.1.O.length z)]) tG O O O O O O O bu λfj fk bv j=>?_;obtain⟨bw,E⟩:=MF E;have c2:=a4.mono' j;have c3:=a5.mono' j;have c4:=a6.mono' j;have c5:=a7.mono' j;have c6:=a8.mono' j;have c7:=a9.mono' j;refine LQ (r:=BP) (l:=G) (xs:=([b.1]:List AH)) O O tG O mh ⟨_,_,O,⟨_,_,_,_,_,_,O,ax,c2,c3,c4,c5,c6,c7⟩,O⟩ O O bw O bv (λ_=>(.tail (.tail (.tail (.tail (.tail .head)))))) λc8 fl bx fm=>?_;have af:=bx.drop .head;refine AU ?_;obtain⟨bz,E⟩:=MF E;refine Eg (r:=BY) (l:=H) (xs:=b.2.1) O O YS O (St.src af (mt mh)) O bz O af (λ_=>(.tail (.tail (.tail (.tail (.tail .head)))))) λc9 fn b0 fo=>AU ?_;obtain⟨fp,b1,fq,ba⟩:=b0.pubs (.tail (.tail .head));obtain⟨b2,au,rfl,fr⟩:=(ba).len;refine IX (cs:=[(.slice b2 b.2.2.length au)]) Uv O O O O O O O b1 λfs ft b3 da=>?_;obtain⟨b4,E⟩:=MF E;have db:=ba.mono' da;refine LQ (r:=(A9.sl AC)) (l:=I) (xs:=([b.2.2]:List xq)) O O Uv O mh ⟨_,_,O,⟨_,O,db⟩,O⟩ O O b4 O b3 (λ_=>(.tail (.tail (.tail (.tail (.tail (.tail .head))))))) λdc fu b5 fv=>?_;have b6:=b5.drop .head;refine AU ?_;refine EM O O O O JB.1 O b6 (.tail (.tail (.tail (.tail (.tail (.tail .head)))))) O λfw b7 fx=>AU ?_;refine BF (AU ?_);refine WF.nil (λaa ww k J=>?_);have b8:=b7.sel [3,3,3,3] 3 O;have dd:=ay.nw;have de:=az.nw
   have df:=a0.nw;have dg:=a1.nw;have dh:=a2.nw;have di:=a3.nw;exact⟨c8,(G++([b.1]:List AH)),c9,(H++b.2.1),dc,(I++([b.2.2]:List xq)),(BO (V+1)),b.1.B,(.slice Y b.1.D.length q),b.1.D,(.slice Z b.1.P.length s),b.1.P,(.slice ab b.1.F.length t),b.1.F,(.slice ac b.1.Q.length u),b.1.Q,(.slice ad b.1.K.length y),b.1.K,(.slice ae b.1.O.length z),b.1.O,_,_,k.sub (kp [18,17,4,3,9,10,11,19] O),J,b8,EX,(BQ _),ax,dd,de,df,dg,dh,di,E⟩
  refine BL O (λaa ww k J=>?_);have b9:=X.drop (.tail (.tail (.tail .head)));exact⟨ai,G,aj,H,ak,I,_,_,k.sub (kp [9,10,11] O),J,b9,av,E⟩
 rintro aa ww⟨bc,be,bf,bg,bh,bi,fy,fz,k,J,ca,f0,E⟩;refine AL ?_ k J;clear k J ww aa;rw[Kh]at E;refine AU ?_;refine CM (λaa ww k J=>?_);cases E;exact K0 k O J (Iv (KR k (v:=_) O) (Iv (KR k (v:=_) O) (Iv (KR k (v:=_) O) Kz))) O EX ⟨_,_,_,O,ca⟩
def MQ(H:St S L h){m:AF}(l:Rd S h Bz c m){d:xq}(g:Sl S h AC b d){r:Bool}(E:Ka N m d=some r):
 CG prog 128 #[c,b] S h (λv S' h'=>v= .bool r/\St S' (L) h'):=by
 refine CG.go 26 func128 O ntmps128 O λB=>?_;rw[Ka]at E;refine AU ?_;refine CC O l CE O H λY S2 t u D Z=>?_;have k7:=g.mono' D;refine AU ?_;refine AK O E (λx E=>?_) (λx E=>?_)
 ·exact RT
 have y:=g.mono' D;refine AU ?_;refine AT (λa w=>IV B S2 t (26,[]) a w [] (L) λ_ _=>Kn N=some r) ?_ ?_
 ·refine A0 (λF=>λa w=>∃(i:Int),IV B S2 t (26,[]) a w [(14,vI (↑d.length:Int)),(13,b),(15,vI i)] (L) λ_ _=>AB i/\Ix N d (Kn N) F i=some r) N ?_ ?_ ?_
  ·intro p q j k;exact⟨0,_,_,j.sub (kp [14,13,15] O),k,u,(CO.refl S2 t),(iq (n:=0) O),E⟩
  ·rintro p q⟨_,_,_,_,_,_,_,_,E⟩;rw[Ix]at E;cases E
  rintro F p q⟨i,I,J,j,k,o,s,K,E⟩;refine AL ?_ j k;clear j k q p;rw[Ix]at E;refine AU ?_;refine AK O E (λz E=>?_) (λz E=>?_)
  ·refine AU ?_;refine AW (AU ?_);have A:=y.mono' s;refine BE E O O A CW.1 O λM E Q U=>AU ?_;refine AK O E (λC E=>?_) (λC E=>?_)
   ·exact RT
   refine AU ?_;refine BF (AU ?_);refine WF.nil (λp q j k=>?_);exact⟨(BO (i+1)),_,_,j.sub (kp [14,13,15] O),k,o,s,(BQ _),E⟩
  refine BL O (λp q j k=>?_);exact⟨_,_,j.sub Ts,k,o,s,E⟩
 rintro p q⟨V,W,j,k,G,X,E⟩;refine AL ?_ j k;clear j k q p;rw[Kn]at E;exact RT
def NX(i:St S L h){a:Value}{d:AF}(c:Rd S h Bz a d){b:Int}(g:AB b){r:Bool}(E:Iw N d b=some r):
 CG prog 129 #[a,vI b] S h (λv S' h'=>v= .bool r/\St S' (L) h'):=by
 refine CG.go 14 func129 O ntmps129 O λB=>?_;rw[Iw]at E;refine AU ?_;exact CC O c CE O i λk S2 l j m n=>RT
def OP(hs:St S L h){i:AF}(z:Rd S h Bz s i){c:AH}(C:Rd S h BP t c){r:Bool}(E:Jo N i c=some r):
 CG prog 65 #[s,t] S h (λv S' h'=>v= .bool r/\St S' (L) h'):=by
 refine CG.go 62 func65 O ntmps65 O λB=>?_;rw[Jo]at E;refine AU ?_;refine CC O z CE O hs λq1 S2 h3 a5 e5 k6=>?_;have k7:=C.mono e5;refine CC O k7 CE O a5 λq8 S9 ch m a6 M=>AU ?_;refine CP (.inl O) m ?_;have G:=k6.mono a6;refine AU ?_;obtain⟨ac,d,E⟩:=bd E;refine A3 6 22 (.bool ac) ?_ ?_
 ·cases ad:(decide ((↑c.D.length:Int)≠(↑i.A.length:Int)))
  ·have d:=Hl ad d;obtain⟨ci,_,a7⟩:=G.lv;have a8:=M.fl AH.f_In;obtain⟨cj,_,a9⟩:=a8.ll;refine AU ?_;refine BD d O O O U2 O (λba ae h' o=>MQ (St.all h') (a7.mono (o.all m.1)) (a9.mono' (o.all m.1)) ae) λba d=>AU ?_;cases d;exact A4 O
  have d:=Hk ad d;cases d;exact BK O O
 refine AU ?_;obtain⟨bb,g,E⟩:=bd E;refine A3 6 29 (.bool bb) ?_ ?_
 ·cases af:ac
  ·have g:=Hl af g;obtain⟨ck,_,bc⟩:=G.lv;have be:=M.fl LS;obtain⟨cl,_,bf⟩:=be.ll;refine AU ?_;refine BD g O O O U2 O (λbg ag h' o=>MQ (St.all h') (bc.mono (o.all m.1)) (bf.mono' (o.all m.1)) ag) λbg g=>AU ?_;cases g;exact A4 O
  have g:=Hk af g;cases g;exact BK O O
 refine BW (kp [29,3,2] O) λQ ah bh=>AK O E (λbi E=>?_) (λbi E=>?_)
 ·exact RT
 have ai:=M.mono bh;have bj:=ai.fl LR;obtain⟨bk,_,bl⟩:=bj.ll;refine AU ?_;refine AT (λa w=>IV B S9 Q (62,[]) a w [(3,q8),(2,q1)] (L) λ_ _=>GM N i c=some r) ?_ ?_
 ·refine A0 (λn1=>λa w=>∃(x:Int),IV B S9 Q (62,[]) a w [(32,vI (↑c.D.length:Int)),(31,bk),(3,q8),(2,q1),(33,vI x)] (L) λ_ _=>AB x/\FT N i c (GM N i c) n1 x=some r) N ?_ ?_ ?_
  ·intro p q j k;exact⟨0,_,_,j.sub (kp [32,31,3,2,33] O),k,ah,(CO.refl S9 Q),(iq (n:=0) O),E⟩
  ·rintro p q⟨_,_,_,_,_,_,_,_,E⟩;rw[FT]at E;cases E
  rintro n1 p q⟨x,cm,cn,j,k,u,aj,co,E⟩;refine AL ?_ j k;clear j k q p;rw[FT]at E;refine AU ?_;refine AK O E (λbm E=>?_) (λbm E=>?_)
  ·refine AU ?_;refine AW (AU ?_);have bn:=bl.mono' aj;refine BE E O O bn Js.1 O λcp E cq bo=>?_;obtain⟨cr,_,bp⟩:=bo.ll;refine AU ?_;refine CP (.inl O) u ?_;have bq:=G.nw;obtain⟨cs,_,br⟩:=bq.lv;refine AU ?_;refine BD E O O O U2 O (λbs ak h' o=>MQ (St.all h') (br.mono (o.all u.1)) (bp.mono' (o.all u.1)) ak) λbs E=>AU ?_;refine BW (kp [40,32,31,3,2,33] O) λct am cu=>AK O E (λbt E=>?_) (λbt E=>?_)
   ·exact RT
   refine AU ?_;refine BF (AU ?_);refine WF.nil (λp q j k=>?_);exact⟨(BO (x+1)),_,_,j.sub (kp [32,31,3,2,33] O),k,am,EX,(BQ _),E⟩
  refine BL O (λp q j k=>?_);exact⟨_,_,j.sub (kp [3,2] O),k,u,aj,E⟩
 rintro p q⟨U,V,j,k,an,bu,E⟩;refine AL ?_ j k;clear j k q p;rw[GM]at E;have bv:=ai.mono bu;have bw:=bv.fl KQ;obtain⟨bx,_,bz⟩:=bw.ll;refine AU ?_;refine AT (λa w=>IV B U V (62,[]) a w [] (L) λ_ _=>JG N=some r) ?_ ?_
 ·refine A0 (λn3=>λa w=>∃(y:Int),IV B U V (62,[]) a w [(44,vI (↑c.F.length:Int)),(43,bx),(2,q1),(45,vI y)] (L) λ_ _=>AB y/\GL N i c (JG N) n3 y=some r) N ?_ ?_ ?_
  ·intro p q j k;exact⟨0,_,_,j.sub (kp [44,43,2,45] O),k,an,(CO.refl U V),(iq (n:=0) O),E⟩
  ·rintro p q⟨_,_,_,_,_,_,_,_,E⟩;rw[GL]at E;cases E
  rintro n3 p q⟨y,cv,cw,j,k,H,ao,cx,E⟩;refine AL ?_ j k;clear j k q p;rw[GL]at E;refine AU ?_;refine AK O E (λb0 E=>?_) (λb0 E=>?_)
  ·refine AU ?_;refine AW (AU ?_);have ap:=bz.mono' ao;refine BE E O O ap On.1 O λb2 E b3 aq=>?_;obtain⟨b4,_,ar⟩:=aq.lv;refine AU ?_;refine DT RP O H λb5 b6 W au=>?_;have av:=ar.mono au;obtain⟨b7,rfl,b8,aw,ax⟩:=A5.ex av;refine H5 O O O ON RW.1 O W .head O λb9 l ay=>AU ?_;refine CP (.inl O) l ?_;have I:=G.nw;obtain⟨ca,_,az⟩:=I.lv;refine AU ?_;refine BD E O O O ZS O (λJ X h' o=>NX (St.all h') (az.mono (o.all l.1)) aw X) λJ E=>AU ?_;obtain⟨a0,b,E⟩:=bd E;refine A3 6 60 (.bool a0) ?_ ?_
   ·cases K:(!J)
    ·have b:=Hl K b;obtain⟨cb,_,a1⟩:=I.lv;refine AU ?_;have a2:=ax.mono' ay;refine BD b O O O U2 O (λa3 Y h' o=>MQ (St.all h') (a1.mono (o.all l.1)) (a2.mono' (o.all l.1)) Y) λa3 b=>AU ?_;cases b;exact A4 O
    have b:=Hk K b;cases b;exact BK O O
   refine BW (kp [60,44,43,2,45] O) λcc Z cd=>AK O E (λa4 E=>?_) (λa4 E=>?_)
   ·exact RT
   refine AU ?_;refine BF (AU ?_);refine WF.nil (λp q j k=>?_);have ab:=Z.drop .head;exact⟨(BO (y+1)),_,_,j.sub (kp [44,43,2,45] O),k,ab,EX,(BQ _),E⟩
  refine BL O (λp q j k=>?_);exact⟨_,_,j.sub Ts,k,H,ao,E⟩
 rintro p q⟨ce,cf,j,k,b1,cg,E⟩;refine AL ?_ j k;clear j k q p;rw[JG]at E;exact RT
def Sv(hs:St S L h){j:Value}(m:Rd S h Bz j p)(n:Rd S h BY k l){r:Bool}(E:K4 N p l=some r):
 CG prog 66 #[j,k] S h (λv S' h'=>v= .bool r/\St S' (L) h'):=by
 refine CG.go 31 func66 O ntmps66 O λB=>?_;rw[K4]at E;refine AU ?_;refine CC O m CE O hs λq1 S2 h3 G e5 k6=>?_;have k7:=n.mono e5;refine CC O k7 CE O G λq8 S9 af g H q=>AU ?_;refine CP (.inl O) g ?_;have s:=k6.mono H;obtain⟨ag,_,I⟩:=s.lv;have K:=q.fl AM.f_Part;obtain⟨ah,_,M⟩:=K.ll;refine AU ?_;refine BD E O O O U2 O (λt u h' o=>MQ (St.all h') (I.mono (o.all g.1)) (M.mono' (o.all g.1)) u) λt E=>AU ?_;obtain⟨w,a,E⟩:=bd E;refine A3 10 19 (.bool w) ?_ ?_
 ·cases x:t
  ·have a:=Hl x a;cases a;exact BK O O
  have a:=Hk x a;refine AU ?_;obtain⟨Q,b,a⟩:=bd a;refine A3 5 18 (.bool Q) ?_ ?_
  ·cases y:(decide (l.J=(-1)))
   ·have b:=Hl y b;obtain⟨ai,_,U⟩:=s.lv;have V:=q.fl AM.f_From;have W:=V.i;refine AU ?_;refine BD b O O O ZS O (λX z h' o=>NX (St.all h') (U.mono (o.all g.1)) W z) λX b=>AU ?_;cases b;exact A4 O
   have b:=Hk y b;cases b;exact BK O O
  refine AU ?_;cases a;exact A4 O
 refine AU ?_;obtain⟨Y,c,E⟩:=bd E;refine A3 10 30 (.bool Y) ?_ ?_
 ·cases A:w
  ·have c:=Hl A c;cases c;exact BK O O
  have c:=Hk A c;refine AU ?_;obtain⟨Z,d,c⟩:=bd c;refine A3 5 29 (.bool Z) ?_ ?_
  ·cases D:(decide (l.C=(-1)))
   ·have d:=Hl D d;obtain⟨aj,_,aa⟩:=s.lv;have ab:=q.fl AM.f_To;have ac:=ab.i;refine AU ?_;refine BD d O O O ZS O (λad F h' o=>NX (St.all h') (aa.mono (o.all g.1)) ac F) λad d=>AU ?_;cases d;exact A4 O
   have d:=Hk D d;cases d;exact BK O O
  refine AU ?_;cases c;exact A4 O
 refine AU ?_;exact BW (kp [4] O) λak ae al=>RT
def Ss(D:St S L h)(g:Rd S h Ih b xj)(p:AB a){r:AJ}(E:K3 N xj a=some r):
 CG prog 130 #[b,vI a] S h (λv S' h'=>v= .agg #[vI r.hi,.int .u64 r.lo]/\AJ.ok r/\St S' (L) h'):=by
 refine CG.go 22 func130 O ntmps130 O λB=>?_;rw[K3]at E;refine AU ?_;refine CC O g CE O D λK S2 M q Q F=>DT Ys O q λU V j s=>AU ?_;refine CP (.inl O) j ?_;have k:=F.mono s;have t:=k.fl OF;refine AU ?_;refine nF OK j.1 O t gN.1 O λl=>AU ?_;refine IB O Ps MK O ?_;have u:=fE (x:=xj.lo) (y:=(IntKind.wrap .u64 a)) (c:=0) l (D8 _ _) Aeo;refine uG O O (uV _ _ _ l (D8 _ _) Aeo) O (AU ?_);refine BW (kp [6,5,4,2] O) λG m w=>?_;have H:=k.mono w;refine AU ?_;refine IB O MK Ps O ?_;obtain⟨n,d,E⟩:=bd E;have d:=Ags d;have z:AB n:=d▸BQ _;refine rS O O O d (AU ?_);refine GP (cs:=[vI n,.int .u64 ((MH xj.lo (IntKind.wrap .u64 a) 0).1)]) Y1 O O O (AU ?_);refine EM O O O O UK.1 O m .head O λI i J=>AU ?_;refine CM (λW X A C=>?_);have o:=i.drop .head;cases E;exact K0 A O C (Iv (Xu A C i O mh UK.1 O) Kz) O EX ⟨O,⟨z,u.1⟩,o⟩
def IQ(hs:St S (MP (λk:AA=>Value.agg (AA.v k).toArray) (λk:AJ=>Value.agg #[vI (BO k.hi),.int .u64 (IntKind.wrap .u64 k.lo)]) g m::L) h){c:Int}(A:AB c){b:Int}(q:AB b)(l:Sl S h AC d j)(E:FU N m c b j=some r):
 CG prog 68 #[.map (some g),vI c,vI b,d] S h (λv S' h'=>v= .tuple #[]/\St S' (MP (λk:AA=>Value.agg (AA.v k).toArray) (λk:AJ=>Value.agg #[vI (BO k.hi),.int .u64 (IntKind.wrap .u64 k.lo)]) g r::L) h'):=by
 refine CG.go 30 func68 O ntmps68 O λB=>?_;rw[FU]at E;refine AU ?_;refine AW (A0 (λn0=>λa w=>∃(p:Int)(D:(List (AA×AJ))),IV B S h (30,[]) a w [(12,vI (↑j.length:Int)),(11,d),(0,.map (some g)),(1,vI c),(2,vI b),(13,vI p)] (MP (λk:AA=>Value.agg (AA.v k).toArray) (λk:AJ=>Value.agg #[vI (BO k.hi),.int .u64 (IntKind.wrap .u64 k.lo)]) g D::L) λ_ _=>AB p/\Em N c b j n0 p D=some r) N ?_ ?_ ?_)
 ·intro F G s t;exact⟨0,m,_,_,s.sub (kp [12,11,0,1,2,13] O),t,hs,(CO.refl S h),(iq (n:=0) O),E⟩
 ·rintro F G⟨_,_,_,_,_,_,_,_,_,E⟩;rw[Em]at E;cases E
 rintro n0 F G⟨p,D,S8,h9,s,t,u,H,r6,E⟩;refine AL ?_ s t;clear s t G F;rw[Em]at E;refine AU ?_;refine AK O E (λU E=>?_) (λU E=>?_)
 ·refine AU ?_;refine AW (AU ?_);have V:=l.mono' H;refine BE E O O V CW.1 O λac E ad W=>?_;have X:=W.i;refine AU ?_;refine GP (cs:=[vI c,vI b,vI p]) iE O O O (AU ?_);refine DT fA O u λae af I ag=>?_;refine EM O O O O gO.1 O I .head O λah y ai=>AU ?_;refine Na 7 mo Γ O y (AU ?_);refine Nd (k0:=(⟨c,b,p⟩:AA)) (z:=(⟨0,0⟩:AJ)) OK y (mt mh) O O UJ T5 eR O O (AU ?_);obtain⟨C,J,E⟩:=bd E;refine Od O O O zO O (λh' o=>Ss (St.all h') (Ih.mk (x:=(⟨(BO (((KT (λk:AA=>Value.agg (AA.v k).toArray) D (⟨c,b,p⟩:AA)).getD (⟨0,0⟩:AJ)).hi)),(IntKind.wrap .u64 (((KT (λk:AA=>Value.agg (AA.v k).toArray) D (⟨c,b,p⟩:AA)).getD (⟨0,0⟩:AJ)).lo))⟩:AJ)) ⟨(BQ _),(D8 _ _)⟩) X J) λY=>?_;obtain⟨Z,ab⟩:=Y;refine Lo λaj K ak=>TM (k0:=(⟨c,b,p⟩:AA)) (x:=C) K (.tail .head) O O (Agt some (jM C ⟨Z,ab⟩)).symm UJ T5 λam M an=>AU ?_;refine BF (AU ?_);refine WF.nil (λF G s t=>?_);have Q:=M.sel [1] 1 O;exact⟨(BO (p+1)),(Mj (λk:AA=>Value.agg (AA.v k).toArray) D (⟨c,b,p⟩:AA) C),_,_,s.sub (kp [12,11,0,1,2,13] O),t,Q,EX,(BQ _),E⟩
 refine IA O (WF.nil (λF G s t=>?_));cases E;exact K0 s O t Kz O H ⟨O,u⟩
def Nz{b:Nat}(hs:St S (MP (λk:AA=>Value.agg (AA.v k).toArray) (λk:AJ=>Value.agg #[vI (BO k.hi),.int .u64 (IntKind.wrap .u64 k.lo)]) b o::L) h){i:Value}{c:AH}(t:Rd S h BP i c)(E:G5 N o c=some r):
 CG prog 67 #[.map (some b),i,.func (.func 68) #[.map (some b)] #[]] S h (λv S' h'=>v= .tuple #[]/\St S' (MP (λk:AA=>Value.agg (AA.v k).toArray) (λk:AJ=>Value.agg #[vI (BO k.hi),.int .u64 (IntKind.wrap .u64 k.lo)]) b r::L) h'):=by
 refine CG.go (l:=[.map (some b),i,.func (.func 68) #[.map (some b)] #[]]) 45 func67 O ntmps67 O λB=>?_;rw[G5]at E;refine AU ?_;refine CC O t CE O hs λq1 S2 h3 aq e5 k6=>?_;have k8:=k6.fl LR;obtain⟨v9,_,ar⟩:=k8.ll;refine AU ?_;refine AT (λa w=>∃(u:(List (AA×AJ))),IV B S2 h3 (45,[]) a w [(4,q1),(2,.func (.func 68) #[.map (some b)] #[])] (MP (λk:AA=>Value.agg (AA.v k).toArray) (λk:AJ=>Value.agg #[vI (BO k.hi),.int .u64 (IntKind.wrap .u64 k.lo)]) b u::L) λ_ _=>DF N c u=some r) ?_ ?_
 ·refine A0 (λn1=>λa w=>∃(q:Int)(x:(List (AA×AJ))),IV B S2 h3 (45,[]) a w [(12,vI (↑c.D.length:Int)),(11,v9),(4,q1),(2,.func (.func 68) #[.map (some b)] #[]),(13,vI q)] (MP (λk:AA=>Value.agg (AA.v k).toArray) (λk:AJ=>Value.agg #[vI (BO k.hi),.int .u64 (IntKind.wrap .u64 k.lo)]) b x::L) λ_ _=>AB q/\DD N c (DF N c) n1 q x=some r) N ?_ ?_ ?_
  ·intro j m d g;exact⟨0,o,_,_,d.sub (kp [12,11,4,2,13] O),g,aq,(CO.refl S2 h3),(iq (n:=0) O),E⟩
  ·rintro j m⟨_,_,_,_,_,_,_,_,_,E⟩;rw[DD]at E;cases E
  rintro n1 j m⟨q,x,bn,bo,d,g,z,M,au,E⟩;refine AL ?_ d g;clear d g m j;rw[DD]at E;refine AU ?_;refine AK O E (λav E=>?_) (λav E=>?_)
  ·refine AU ?_;refine AW (AU ?_);have aw:=ar.mono' M;refine BE E O O aw Js.1 O λbp E bq ax=>?_;obtain⟨br,_,ay⟩:=ax.ll;refine AU ?_;refine Cj (AU ?_);refine DX E O O O YZ O (λQ U=>IQ z (iq (n:=0) O) au ay U) λQ E bs bt bu bv p=>?_;obtain⟨rfl,V⟩:=p;refine AU ?_;refine BF (AU ?_);refine WF.nil (λj m d g=>?_);exact⟨(BO (q+1)),Q,_,_,d.sub (kp [12,11,4,2,13] O),g,V,EX,(BQ _),E⟩
  refine BL O (λj m d g=>?_);exact⟨x,_,_,d.sub (kp [4,2] O),g,z,M,E⟩
 rintro j m⟨u,C,G,d,g,W,az,E⟩;refine AL ?_ d g;clear d g m j;rw[DF]at E;have X:=k6.mono az;have a0:=X.fl KQ;obtain⟨a1,_,a2⟩:=a0.ll;refine AU ?_;refine AT (λa w=>∃(H:(List (AA×AJ))),IV B C G (45,[]) a w [(4,q1),(2,.func (.func 68) #[.map (some b)] #[])] (MP (λk:AA=>Value.agg (AA.v k).toArray) (λk:AJ=>Value.agg #[vI (BO k.hi),.int .u64 (IntKind.wrap .u64 k.lo)]) b H::L) λ_ _=>DE N c H=some r) ?_ ?_
 ·refine A0 (λn3=>λa w=>∃(s:Int)(y:(List (AA×AJ))),IV B C G (45,[]) a w [(25,vI (↑c.F.length:Int)),(24,a1),(4,q1),(2,.func (.func 68) #[.map (some b)] #[]),(26,vI s)] (MP (λk:AA=>Value.agg (AA.v k).toArray) (λk:AJ=>Value.agg #[vI (BO k.hi),.int .u64 (IntKind.wrap .u64 k.lo)]) b y::L) λ_ _=>AB s/\DC N c (DE N c) n3 s y=some r) N ?_ ?_ ?_
  ·intro j m d g;exact⟨0,u,_,_,d.sub (kp [25,24,4,2,26] O),g,W,(CO.refl C G),(iq (n:=0) O),E⟩
  ·rintro j m⟨_,_,_,_,_,_,_,_,_,E⟩;rw[DC]at E;cases E
  rintro n3 j m⟨s,y,bw,bx,d,g,A,Y,bz,E⟩;refine AL ?_ d g;clear d g m j;rw[DC]at E;refine AU ?_;refine AK O E (λa3 E=>?_) (λa3 E=>?_)
  ·refine AU ?_;refine AW (AU ?_);have a4:=a2.mono' Y;refine BE E O O a4 On.1 O λb0 E b1 a5=>?_;obtain⟨b2,_,a6⟩:=a5.lv;refine AU ?_;refine DT RP O A λb3 b4 Z a7=>?_;have a8:=a6.mono a7;obtain⟨b5,rfl,b6,a9,ba⟩:=A5.ex a8;refine H5 O O O ON RW.1 O Z .head O λb7 ab bb=>AU ?_;refine Cj (AU ?_);have ac:=ab.pick (.tail .head);have bc:=ba.mono' bb;refine DX E O O O YZ O (λad ae=>IQ ac (iq (n:=0) O) a9 bc ae) λad E b8 b9 ca cb p=>?_;obtain⟨rfl,af⟩:=p;refine AU ?_;refine BF (AU ?_);refine WF.nil (λj m d g=>?_);have ag:=af.drop (.tail .head);exact⟨(BO (s+1)),ad,_,_,d.sub (kp [25,24,4,2,26] O),g,ag,EX,(BQ _),E⟩
  refine BL O (λj m d g=>?_);exact⟨y,_,_,d.sub (kp [4,2] O),g,A,Y,E⟩
 rintro j m⟨H,cc,cd,d,g,ah,be,E⟩;refine AL ?_ d g;clear d g m j;rw[DE]at E;refine AU ?_;refine Cj ?_;have ai:=X.mono be;have bf:=ai.fl AH.f_In;obtain⟨ce,_,bg⟩:=bf.ll;refine AU ?_;refine DX E O O O YZ O (λbh aj=>IQ ah (iq (n:=1) O) (iq (n:=(-1)) O) bg aj) λbh E cf cg ch ak p=>?_;obtain⟨rfl,I⟩:=p;refine AU ?_;refine Cj ?_;have am:=ai.mono ak;have an:=am.fl LS;obtain⟨bi,_,ao⟩:=an.ll;refine AU ?_;refine DX E O O O YZ O (λap J=>IQ I (iq (n:=2) O) (iq (n:=(-1)) O) ao J) λap E bj bk bl bm p=>?_;obtain⟨rfl,K⟩:=p;refine AU ?_;refine WF.nil (λj m d g=>?_);cases E;exact K0 d O g Kz O EX ⟨O,K⟩
def Sr(D:St S L h)(g:Rd S h Ih b xj)(p:AB a){r:AJ}(E:K2 N xj a=some r):
 CG prog 131 #[b,vI a] S h (λv S' h'=>v= .agg #[vI r.hi,.int .u64 r.lo]/\AJ.ok r/\St S' (L) h'):=by
 refine CG.go 22 func131 O ntmps131 O λB=>?_;rw[K2]at E;refine AU ?_;refine CC O g CE O D λK S2 M q Q F=>DT Ys O q λU V j s=>AU ?_;refine CP (.inl O) j ?_;have k:=F.mono s;have t:=k.fl OF;refine AU ?_;refine nF OK j.1 O t gN.1 O λl=>AU ?_;refine IB O Ps MK O ?_;have u:=fD (x:=xj.lo) (y:=(IntKind.wrap .u64 a)) (c:=0) l (D8 _ _) Aeo;refine uG O O (uU _ _ _ l (D8 _ _) Aeo) O (AU ?_);refine BW (kp [6,5,4,2] O) λG m w=>?_;have H:=k.mono w;refine AU ?_;refine IB O MK Ps O ?_;obtain⟨n,d,E⟩:=bd E;have d:=Ags d;have z:AB n:=d▸BQ _;refine rC O O O d (AU ?_);refine GP (cs:=[vI n,.int .u64 ((MG xj.lo (IntKind.wrap .u64 a) 0).1)]) Y1 O O O (AU ?_);refine EM O O O O UK.1 O m .head O λI i J=>AU ?_;refine CM (λW X A C=>?_);have o:=i.drop .head;cases E;exact K0 A O C (Iv (Xu A C i O mh UK.1 O) Kz) O EX ⟨O,⟨z,u.1⟩,o⟩
def GG(hs:St S (MP (λk:AA=>Value.agg (AA.v k).toArray) (λk:AJ=>Value.agg #[vI (BO k.hi),.int .u64 (IntKind.wrap .u64 k.lo)]) g m::L) h){c:Int}(A:AB c){b:Int}(q:AB b)(l:Sl S h AC d j)(E:D9 N m c b j=some r):
 CG prog 69 #[.map (some g),vI c,vI b,d] S h (λv S' h'=>v= .tuple #[]/\St S' (MP (λk:AA=>Value.agg (AA.v k).toArray) (λk:AJ=>Value.agg #[vI (BO k.hi),.int .u64 (IntKind.wrap .u64 k.lo)]) g r::L) h'):=by
 refine CG.go 30 func69 O ntmps69 O λB=>?_;rw[D9]at E;refine AU ?_;refine AW (A0 (λn0=>λa w=>∃(p:Int)(D:(List (AA×AJ))),IV B S h (30,[]) a w [(12,vI (↑j.length:Int)),(11,d),(0,.map (some g)),(1,vI c),(2,vI b),(13,vI p)] (MP (λk:AA=>Value.agg (AA.v k).toArray) (λk:AJ=>Value.agg #[vI (BO k.hi),.int .u64 (IntKind.wrap .u64 k.lo)]) g D::L) λ_ _=>AB p/\En N c b j n0 p D=some r) N ?_ ?_ ?_)
 ·intro F G s t;exact⟨0,m,_,_,s.sub (kp [12,11,0,1,2,13] O),t,hs,(CO.refl S h),(iq (n:=0) O),E⟩
 ·rintro F G⟨_,_,_,_,_,_,_,_,_,E⟩;rw[En]at E;cases E
 rintro n0 F G⟨p,D,S8,h9,s,t,u,H,r6,E⟩;refine AL ?_ s t;clear s t G F;rw[En]at E;refine AU ?_;refine AK O E (λU E=>?_) (λU E=>?_)
 ·refine AU ?_;refine AW (AU ?_);have V:=l.mono' H;refine BE E O O V CW.1 O λac E ad W=>?_;have X:=W.i;refine AU ?_;refine GP (cs:=[vI c,vI b,vI p]) iE O O O (AU ?_);refine DT fA O u λae af I ag=>?_;refine EM O O O O gO.1 O I .head O λah y ai=>AU ?_;refine Na 7 mo Γ O y (AU ?_);refine Nd (k0:=(⟨c,b,p⟩:AA)) (z:=(⟨0,0⟩:AJ)) OK y (mt mh) O O UJ T5 eR O O (AU ?_);obtain⟨C,J,E⟩:=bd E;refine Od O O O zN O (λh' o=>Sr (St.all h') (Ih.mk (x:=(⟨(BO (((KT (λk:AA=>Value.agg (AA.v k).toArray) D (⟨c,b,p⟩:AA)).getD (⟨0,0⟩:AJ)).hi)),(IntKind.wrap .u64 (((KT (λk:AA=>Value.agg (AA.v k).toArray) D (⟨c,b,p⟩:AA)).getD (⟨0,0⟩:AJ)).lo))⟩:AJ)) ⟨(BQ _),(D8 _ _)⟩) X J) λY=>?_;obtain⟨Z,ab⟩:=Y;refine Lo λaj K ak=>TM (k0:=(⟨c,b,p⟩:AA)) (x:=C) K (.tail .head) O O (Agt some (jM C ⟨Z,ab⟩)).symm UJ T5 λam M an=>AU ?_;refine BF (AU ?_);refine WF.nil (λF G s t=>?_);have Q:=M.sel [1] 1 O;exact⟨(BO (p+1)),(Mj (λk:AA=>Value.agg (AA.v k).toArray) D (⟨c,b,p⟩:AA) C),_,_,s.sub (kp [12,11,0,1,2,13] O),t,Q,EX,(BQ _),E⟩
 refine IA O (WF.nil (λF G s t=>?_));cases E;exact K0 s O t Kz O H ⟨O,u⟩
def Ny{b:Nat}(hs:St S (MP (λk:AA=>Value.agg (AA.v k).toArray) (λk:AJ=>Value.agg #[vI (BO k.hi),.int .u64 (IntKind.wrap .u64 k.lo)]) b o::L) h){i:Value}{c:AH}(t:Rd S h BP i c)(E:G4 N o c=some r):
 CG prog 67 #[.map (some b),i,.func (.func 69) #[.map (some b)] #[]] S h (λv S' h'=>v= .tuple #[]/\St S' (MP (λk:AA=>Value.agg (AA.v k).toArray) (λk:AJ=>Value.agg #[vI (BO k.hi),.int .u64 (IntKind.wrap .u64 k.lo)]) b r::L) h'):=by
 refine CG.go (l:=[.map (some b),i,.func (.func 69) #[.map (some b)] #[]]) 45 func67 O ntmps67 O λB=>?_;rw[G4]at E;refine AU ?_;refine CC O t CE O hs λq1 S2 h3 aq e5 k6=>?_;have k8:=k6.fl LR;obtain⟨v9,_,ar⟩:=k8.ll;refine AU ?_;refine AT (λa w=>∃(u:(List (AA×AJ))),IV B S2 h3 (45,[]) a w [(4,q1),(2,.func (.func 69) #[.map (some b)] #[])] (MP (λk:AA=>Value.agg (AA.v k).toArray) (λk:AJ=>Value.agg #[vI (BO k.hi),.int .u64 (IntKind.wrap .u64 k.lo)]) b u::L) λ_ _=>DB N c u=some r) ?_ ?_
 ·refine A0 (λn1=>λa w=>∃(q:Int)(x:(List (AA×AJ))),IV B S2 h3 (45,[]) a w [(12,vI (↑c.D.length:Int)),(11,v9),(4,q1),(2,.func (.func 69) #[.map (some b)] #[]),(13,vI q)] (MP (λk:AA=>Value.agg (AA.v k).toArray) (λk:AJ=>Value.agg #[vI (BO k.hi),.int .u64 (IntKind.wrap .u64 k.lo)]) b x::L) λ_ _=>AB q/\C9 N c (DB N c) n1 q x=some r) N ?_ ?_ ?_
  ·intro j m d g;exact⟨0,o,_,_,d.sub (kp [12,11,4,2,13] O),g,aq,(CO.refl S2 h3),(iq (n:=0) O),E⟩
  ·rintro j m⟨_,_,_,_,_,_,_,_,_,E⟩;rw[C9]at E;cases E
  rintro n1 j m⟨q,x,bn,bo,d,g,z,M,au,E⟩;refine AL ?_ d g;clear d g m j;rw[C9]at E;refine AU ?_;refine AK O E (λav E=>?_) (λav E=>?_)
  ·refine AU ?_;refine AW (AU ?_);have aw:=ar.mono' M;refine BE E O O aw Js.1 O λbp E bq ax=>?_;obtain⟨br,_,ay⟩:=ax.ll;refine AU ?_;refine Cj (AU ?_);refine DX E O O O Uw O (λQ U=>GG z (iq (n:=0) O) au ay U) λQ E bs bt bu bv p=>?_;obtain⟨rfl,V⟩:=p;refine AU ?_;refine BF (AU ?_);refine WF.nil (λj m d g=>?_);exact⟨(BO (q+1)),Q,_,_,d.sub (kp [12,11,4,2,13] O),g,V,EX,(BQ _),E⟩
  refine BL O (λj m d g=>?_);exact⟨x,_,_,d.sub (kp [4,2] O),g,z,M,E⟩
 rintro j m⟨u,C,G,d,g,W,az,E⟩;refine AL ?_ d g;clear d g m j;rw[DB]at E;have X:=k6.mono az;have a0:=X.fl KQ;obtain⟨a1,_,a2⟩:=a0.ll;refine AU ?_;refine AT (λa w=>∃(H:(List (AA×AJ))),IV B C G (45,[]) a w [(4,q1),(2,.func (.func 69) #[.map (some b)] #[])] (MP (λk:AA=>Value.agg (AA.v k).toArray) (λk:AJ=>Value.agg #[vI (BO k.hi),.int .u64 (IntKind.wrap .u64 k.lo)]) b H::L) λ_ _=>DA N c H=some r) ?_ ?_
 ·refine A0 (λn3=>λa w=>∃(s:Int)(y:(List (AA×AJ))),IV B C G (45,[]) a w [(25,vI (↑c.F.length:Int)),(24,a1),(4,q1),(2,.func (.func 69) #[.map (some b)] #[]),(26,vI s)] (MP (λk:AA=>Value.agg (AA.v k).toArray) (λk:AJ=>Value.agg #[vI (BO k.hi),.int .u64 (IntKind.wrap .u64 k.lo)]) b y::L) λ_ _=>AB s/\C8 N c (DA N c) n3 s y=some r) N ?_ ?_ ?_
  ·intro j m d g;exact⟨0,u,_,_,d.sub (kp [25,24,4,2,26] O),g,W,(CO.refl C G),(iq (n:=0) O),E⟩
  ·rintro j m⟨_,_,_,_,_,_,_,_,_,E⟩;rw[C8]at E;cases E
  rintro n3 j m⟨s,y,bw,bx,d,g,A,Y,bz,E⟩;refine AL ?_ d g;clear d g m j;rw[C8]at E;refine AU ?_;refine AK O E (λa3 E=>?_) (λa3 E=>?_)
  ·refine AU ?_;refine AW (AU ?_);have a4:=a2.mono' Y;refine BE E O O a4 On.1 O λb0 E b1 a5=>?_;obtain⟨b2,_,a6⟩:=a5.lv;refine AU ?_;refine DT RP O A λb3 b4 Z a7=>?_;have a8:=a6.mono a7;obtain⟨b5,rfl,b6,a9,ba⟩:=A5.ex a8;refine H5 O O O ON RW.1 O Z .head O λb7 ab bb=>AU ?_;refine Cj (AU ?_);have ac:=ab.pick (.tail .head);have bc:=ba.mono' bb;refine DX E O O O Uw O (λad ae=>GG ac (iq (n:=0) O) a9 bc ae) λad E b8 b9 ca cb p=>?_;obtain⟨rfl,af⟩:=p;refine AU ?_;refine BF (AU ?_);refine WF.nil (λj m d g=>?_);have ag:=af.drop (.tail .head);exact⟨(BO (s+1)),ad,_,_,d.sub (kp [25,24,4,2,26] O),g,ag,EX,(BQ _),E⟩
  refine BL O (λj m d g=>?_);exact⟨y,_,_,d.sub (kp [4,2] O),g,A,Y,E⟩
 rintro j m⟨H,cc,cd,d,g,ah,be,E⟩;refine AL ?_ d g;clear d g m j;rw[DA]at E;refine AU ?_;refine Cj ?_;have ai:=X.mono be;have bf:=ai.fl AH.f_In;obtain⟨ce,_,bg⟩:=bf.ll;refine AU ?_;refine DX E O O O Uw O (λbh aj=>GG ah (iq (n:=1) O) (iq (n:=(-1)) O) bg aj) λbh E cf cg ch ak p=>?_;obtain⟨rfl,I⟩:=p;refine AU ?_;refine Cj ?_;have am:=ai.mono ak;have an:=am.fl LS;obtain⟨bi,_,ao⟩:=an.ll;refine AU ?_;refine DX E O O O Uw O (λap J=>GG I (iq (n:=2) O) (iq (n:=(-1)) O) ao J) λap E bj bk bl bm p=>?_;obtain⟨rfl,K⟩:=p;refine AU ?_;refine WF.nil (λj m d g=>?_);cases E;exact K0 d O g Kz O EX ⟨O,K⟩
def P1{b:Nat}(hs:St S (MP (λk:AA=>Value.agg (AA.v k).toArray) (λk:AJ=>Value.agg #[vI (BO k.hi),.int .u64 (IntKind.wrap .u64 k.lo)]) b m::L) h){d:AM}(l:Rd S h BY c d)(E:JH N m d=some r):
 CG prog 70 #[.map (some b),c] S h (λv S' h'=>v= .tuple #[]/\St S' (MP (λk:AA=>Value.agg (AA.v k).toArray) (λk:AJ=>Value.agg #[vI (BO k.hi),.int .u64 (IntKind.wrap .u64 k.lo)]) b r::L) h'):=by
 refine CG.go 30 func70 O ntmps70 O λB=>?_;rw[JH]at E;refine AU ?_;refine CC O l CE O hs λq1 S2 h3 t e5 K=>AU ?_;refine It (λa w=>∃(q:(List (AA×AJ))),IV B S2 h3 (30,[]) a w [(3,q1),(0,.map (some b))] (MP (λk:AA=>Value.agg (AA.v k).toArray) (λk:AJ=>Value.agg #[vI (BO k.hi),.int .u64 (IntKind.wrap .u64 k.lo)]) b q::L) λ_ _=>G0 N d q=some r) ?_ ?_
 ·refine AK O E (λM E=>?_) (λM E=>?_)
  ·refine Cj ?_;have Q:=K.fl AM.f_Part;obtain⟨am,_,U⟩:=Q.ll;refine AU ?_;refine DX E O O O Uw O (λu x=>GG t (iq (n:=2) O) (iq (n:=(-1)) O) U x) λu E an ao ap V p=>?_;obtain⟨rfl,y⟩:=p;refine AU ?_;refine WF.nil (λz A g j=>?_);exact⟨u,_,_,g.sub (kp [3,0] O),j,y,V,E⟩
  refine Cj ?_;have W:=K.fl AM.f_To;have X:=W.i;have Y:=K.fl AM.f_Part;obtain⟨aq,_,Z⟩:=Y.ll;refine AU ?_;refine DX E O O O Uw O (λC D=>GG t (iq (n:=0) O) X Z D) λC E ar au av ab p=>?_;obtain⟨rfl,F⟩:=p;refine AU ?_;refine WF.nil (λz A g j=>?_);exact⟨C,_,_,g.sub (kp [3,0] O),j,F,ab,E⟩
 rintro z A⟨q,aw,ax,g,j,o,ac,E⟩;refine AL ?_ g j;clear g j A z;rw[G0]at E;have s:=K.mono ac;refine AU ?_;refine AK O E (λad E=>?_) (λad E=>?_)
 ·refine Cj ?_;have ae:=s.fl AM.f_Part;obtain⟨ay,_,af⟩:=ae.ll;refine AU ?_;refine DX E O O O Uw O (λag G=>GG o (iq (n:=1) O) (iq (n:=(-1)) O) af G) λag E az a0 a1 a2 p=>?_;obtain⟨rfl,H⟩:=p;refine AU ?_;refine WF.nil (λz A g j=>?_);cases E;exact K0 g O j Kz O EX ⟨O,H⟩
 refine Cj ?_;have ah:=s.fl AM.f_From;have ai:=ah.i;have aj:=s.fl AM.f_Part;obtain⟨a3,_,ak⟩:=aj.ll;refine AU ?_;refine DX E O O O YZ O (λal I=>IQ o (iq (n:=0) O) ai ak I) λal E a4 a5 a6 a7 p=>?_;obtain⟨rfl,J⟩:=p;refine AU ?_;refine WF.nil (λz A g j=>?_);cases E;exact K0 g O j Kz O EX ⟨O,J⟩
def Tt(hs:St S L h)(ad:Rd S h Bz F I){y:Value}(J:Rd S h BP y u){z:Value}{x:AH}(M:Rd S h BP z x){c:List AM}(i:Sl S h BY b c){r:Bool}(E:Ko N I u x c=some r):
 CG prog 33 #[F,y,z,b] S h (λv S' h'=>v= .bool r/\St S' (L) h'):=by
 refine CG.go 67 func33 O ntmps33 O λB=>?_;rw[Ko]at E;refine AU ?_;refine CC O ad CE O hs λq1 S2 h3 b4 e5 k6=>?_;have k7:=J.mono e5;refine CC O k7 CE O b4 λq8 S9 d1 a7 d2 b5=>?_;have b6:=M.nw;refine CC O b6 CE O a7 λa8 ak d3 A b7 a9=>AU ?_;refine CP (.inl O) A ?_;have am:=k6.nw;obtain⟨d4,_,b8⟩:=am.lv;have ba:=b5.mono b7;obtain⟨d5,_,b9⟩:=ba.lv;refine AU ?_;refine BD E O O O tT O (λbb bc h' o=>OP (St.all h') (b8.mono (o.all A.1)) (b9.mono (o.all A.1)) bc) λbb E=>AU ?_;obtain⟨ca,j,E⟩:=bd E;refine A3 5 25 (.bool ca) ?_ ?_
 ·cases be:(!bb)
  ·have j:=Hl be j;obtain⟨d6,_,cb⟩:=am.lv;obtain⟨d7,_,cc⟩:=a9.lv;refine AU ?_;refine BD j O O O tT O (λcd bf h' o=>OP (St.all h') (cb.mono (o.all A.1)) (cc.mono (o.all A.1)) bf) λcd j=>AU ?_;cases j;exact A4 O
  have j:=Hk be j;cases j;exact BK O O
 refine BW (kp [25,6,5,4,3] O) λan bg ce=>AK O E (λcf E=>?_) (λcf E=>?_)
 ·exact RT
 have cg:=i.nw;refine AU ?_;refine AT (λa w=>IV B ak an (67,[]) a w [(6,a8),(5,q8),(3,b)] (L) λ_ _=>HX N u x c=some r) ?_ ?_
 ·refine A0 (λn1=>λa w=>∃(Q:Int),IV B ak an (67,[]) a w [(27,vI (↑c.length:Int)),(26,b),(6,a8),(5,q8),(4,q1),(3,b),(28,vI Q)] (L) λ_ _=>AB Q/\GX N I c (HX N u x c) n1 Q=some r) N ?_ ?_ ?_
  ·intro m s d g;exact⟨0,_,_,d.sub (kp [27,26,6,5,4,3,28] O),g,bg,(CO.refl ak an),(iq (n:=0) O),E⟩
  ·rintro m s⟨_,_,_,_,_,_,_,_,E⟩;rw[GX]at E;cases E
  rintro n1 m s⟨Q,d8,d9,d,g,ae,bh,ea,E⟩;refine AL ?_ d g;clear d g s m;rw[GX]at E;refine AU ?_;refine AK O E (λch E=>?_) (λch E=>?_)
  ·refine AU ?_;refine AW (AU ?_);have ci:=cg.mono' bh;refine BE E O O ci sV.1 O λeb E ec cj=>?_;obtain⟨ed,_,ck⟩:=cj.lv;refine AU ?_;refine DT fC O ae λee ef bi cl=>?_;have bj:=ck.mono cl;obtain⟨eg,rfl,eh,ei,ej,ek,el⟩:=BY.ex bj;refine H5 O O O ON gP.1 O bi .head O λem U cm=>AU ?_;refine CP (.inl O) U ?_;have cn:=am.nw;obtain⟨en,_,co⟩:=cn.lv;refine AU ?_;have V:=bj.mono cm;obtain⟨eo,bk,E⟩:=bd E;refine Jk O O O Adg O (λh' o=>Sv (St.all h') (co.mono (o.all U.1)) (V.mono (o.all U.1)) bk) (AU ?_);refine BW (kp [35,27,26,6,5,4,3,28] O) λep bl eq=>AK O E (λcp E=>?_) (λcp E=>?_)
   ·exact RT
   refine AU ?_;refine BF (AU ?_);refine WF.nil (λm s d g=>?_);have bm:=bl.drop .head;exact⟨(BO (Q+1)),_,_,d.sub (kp [27,26,6,5,4,3,28] O),g,bm,EX,(BQ _),E⟩
  refine BL O (λm s d g=>?_);exact⟨_,_,d.sub (kp [6,5,3] O),g,ae,bh,E⟩
 rintro m s⟨er,es,d,g,bn,eu,E⟩;refine AL ?_ d g;clear d g s m;rw[HX]at E;refine AU ?_;refine XK (K:=0) (E:=0) O bn (λk:AA=>Value.agg (AA.v k).toArray) (λk:AJ=>Value.agg #[vI (BO k.hi),.int .u64 (IntKind.wrap .u64 k.lo)]) λW ev bo ew=>AU ?_;refine Cj ?_;have cq:=a9.nw;obtain⟨cu,_,bp⟩:=cq.lv;refine AU ?_;refine PM O O O (AU ?_);refine DX E O O O tS O (λbq ao=>Nz bo bp ao) λbq E cv cw cx br p=>?_;obtain⟨rfl,ap⟩:=p;refine AU ?_;refine Cj ?_;have bs:=ba.mono ((ce.trans EX).trans br);obtain⟨cy,_,bt⟩:=bs.lv;refine AU ?_;refine PM O O O (AU ?_);refine DX E O O O tS O (λaf aq=>Ny ap bt aq) λaf E cz X Y c0 p=>?_;obtain⟨rfl,ar⟩:=p;have bu:=i.nw;refine AU ?_;refine AT (λa w=>∃(t:(List (AA×AJ))),IV B X Y (67,[]) a w [(11,.map (some W))] (MP (λk:AA=>Value.agg (AA.v k).toArray) (λk:AJ=>Value.agg #[vI (BO k.hi),.int .u64 (IntKind.wrap .u64 k.lo)]) W t::L) λ_ _=>GY N t=some r) ?_ ?_
 ·refine A0 (λn3=>λa w=>∃(C:Int)(G:(List (AA×AJ))),IV B X Y (67,[]) a w [(49,vI (↑c.length:Int)),(48,b),(11,.map (some W)),(50,vI C)] (MP (λk:AA=>Value.agg (AA.v k).toArray) (λk:AJ=>Value.agg #[vI (BO k.hi),.int .u64 (IntKind.wrap .u64 k.lo)]) W G::L) λ_ _=>AB C/\GW N c (GY N) n3 C G=some r) N ?_ ?_ ?_
  ·intro m s d g;exact⟨0,af,_,_,d.sub (kp [49,48,11,50] O),g,ar,(CO.refl X Y),(iq (n:=0) O),E⟩
  ·rintro m s⟨_,_,_,_,_,_,_,_,_,E⟩;rw[GW]at E;cases E
  rintro n3 m s⟨C,G,c1,c2,d,g,Z,ag,c3,E⟩;refine AL ?_ d g;clear d g s m;rw[GW]at E;refine AU ?_;refine AK O E (λbv E=>?_) (λbv E=>?_)
  ·refine AU ?_;refine AW (AU ?_);have bw:=bu.mono' ag;refine BE E O O bw sV.1 O λc4 E c5 bx=>?_;obtain⟨c6,_,bz⟩:=bx.lv;refine AU ?_;refine DT fC O Z λc7 c8 au b0=>?_;have ah:=bz.mono b0;obtain⟨c9,rfl,da,db,dc,dd,de⟩:=BY.ex ah;refine H5 O O O ON gP.1 O au .head O λdf av b1=>AU ?_;refine Cj (AU ?_);have aw:=av.pick (.tail .head);have H:=ah.mono b1;obtain⟨b2,ax,E⟩:=bd E;refine Ch O O O Adf O (P1 aw H ax) λdg dh di dj p=>?_;obtain⟨rfl,ay⟩:=p;refine AU ?_;refine BF (AU ?_);refine WF.nil (λm s d g=>?_);have az:=ay.drop (.tail .head);exact⟨(BO (C+1)),b2,_,_,d.sub (kp [49,48,11,50] O),g,az,EX,(BQ _),E⟩
  refine BL O (λm s d g=>?_);exact⟨G,_,_,d.sub (kp [11] O),g,Z,ag,E⟩
 rintro m s⟨t,ai,dk,d,g,a0,dl,E⟩;refine AL ?_ d g;clear d g s m;rw[GY]at E;refine AU ?_;refine WM a0 O UJ O λab aj a1 dm=>AU ?_;refine AW (A0 (λn1=>λa w=>∃(l:List (AA×AJ))(S':Nat->Prop)(h':AV),Fr (67,[]) a [(59,(vP ab 0))]/\Wd B h' w/\St S' (MI (λk:AA=>Value.agg (AA.v k).toArray) (λk:AJ=>Value.agg #[vI (BO k.hi),.int .u64 (IntKind.wrap .u64 k.lo)]) W ab t l::L) h'/\CO ai aj S' h'/\l.length<n1/\cond (List.all l (λe=>(HW N e).isNone)) (LG N) (some false)=some r) (t.length+1) ?_ ?_ ?_)
 ·intro m s d g;exact⟨t,_,_,d.sub (kp [59] O),g,a1,(CO.refl ai aj),Nat.lt_succ_self _,E⟩
 ·rintro m s⟨_,_,_,_,_,_,_,a2,_⟩;exact absurd a2 (Nat.not_lt_zero _)
 rintro n1 m s⟨l,dn,dp,d,g,ac,dq,a2,E⟩;refine AL ?_ d g;clear d g s m;refine AU ?_;refine Yl ac O O (λD=>?_) (λdr ds dt du D a3 dv cr=>?_)
 ·subst D;have E:LG N=some r:=E;rw[LG]at E;have ct:=ac.miMP;refine AU ?_;exact Ks O (IA O (RT))
 subst D;have E:=dG (f:=HW N) (λ_ _ hy=>lU hy) E;rw[HW]at E;simp only[oW,Option.some_or,Option.none_or]at E;refine AU ?_;refine Kr O (AU ?_);refine AW (AU ?_);refine AN 2 (WL O cr O (AU ?_));refine DT Ys O a3 λdw dx a4 dy=>?_;refine EM O O O O UK.1 O a4 .head O λdz a5 d0=>AU ?_;refine GP (cs:=[vI 0,.int .u64 0]) Y1 O O O (U9 O O xQ O O O O (AU ?_));refine AK O E (λb3 E=>?_) (λb3 E=>?_)
 ·exact RT
 refine AU ?_;refine BF (WF.nil (λm s d g=>?_));have a6:=a5.sel [1] 1 O;exact⟨_,_,_,d.sub (kp [59] O),g,a6,EX,(by simp only[Ahh,Ain]at a2 ⊢;omega),E⟩
def Mn(hs:St S L h)(cz:Rd S h Bz a0 U)(c0:Rd S h BP a1 V)(j:Sl S h C2 s bt)(jh:Fp N=some true)(E:FJ N U V bt=some true):
 CG prog 7 #[a0,a1,s] S h (λv S' h'=>v= .bool true/\St S' (L) h'):=by
 refine CG.go (l:=[a0,a1,s]) 169 func7 O ntmps7 O λB=>?_;rw[FJ]at E;refine WF.sl (CC O cz (λe=>by cases e) O hs λq1 S2 h3 ji e5 k6=>?_);have k7:=c0.mono e5;refine CC O k7 (λe=>by cases e) O ji λq8 S9 ow f9 ap jj=>AN 1 (DV O (AG (LF.nil (kp [4,3,2] O) (CU (CP (.inl O) f9 ?_)))));obtain⟨k,ga,E⟩:=bd E;refine Jk O O O Afm O (λh' o=>QM (St.all h') jh ga) (DV O (BW (kp [7,4,3,2] O) λox bu af=>CU (CP (.inl O) bu ?_)));have gb:=k6.mono (ap.trans af);refine Lh OK bu.1 O gb Ns.1 (λe=>by cases e) O λoy jk=>AE O ?_;have gc:=e5.trans (ap.trans af);have jl:=j.mono' gc;obtain⟨ge,gf,E⟩:=bd E;refine Jk O O O Afl O (λh' o=>Q8 (St.all h') (jk.mono (o.all bu.1)) (jl.mono' (o.all bu.1)) gf) (DV O (BW (kp [8,7,4,3,2] O) λoz b5 aq=>WF.sl (AN 2 ?_)));have gg:=gb.mono aq;refine Lh H4 b5.1 O gg Ns.1 (λe=>by cases e) O λo0 jm=>?_;have dt:=jj.mono (af.trans aq);refine Lh H4 b5.1 O dt JB.1 (λe=>by cases e) O λo1 jn=>AG ?_;obtain⟨gh,gi,E⟩:=bd E;refine Ch O O O Ad0 O (Pe b5 jm jn gi) λJ du o2 ar p=>?_;have b6:=p;refine AN 1 (DV O (AG (LF.nil (kp [9,8,7,4,3,2] O) (CU (Cr (AE O (Lp O (AE O (A3 3 33 (.bool ((!ge)||((gh).isNone))) ?_ ?_)))))))))
 ·cases o3:(!ge)
  ·exact AO O (AE O (AO O (Yj b6 mh O O sH kM O (AZ O (A4 O)))))
  exact BK O O
 refine E9 (kp [33,9,7,4,3,2] O) (AK O E (λjo E=>?_) (λjo E=>?_))
 ·refine Cr (AE O (Cm O (kp [6] O) (CM (λM Q i c=>?_))));have gj:=b6.drop .head
  first|cases E|rw[Ags E]at i
  have gl:=e5.trans (ap.trans (af.trans (aq.trans ar)));exact T0 i c O O gl ⟨O,gj⟩
 refine D7 (WF.sl (IX (cs:=[vN]) lG O O O O O O O b6 λjp dv gm a2=>AN 1 (DV O (AG (LF.nil (kp [10,9,7,4,3,2] O) (CU (Cr (Cm O (kp [11,10,9,7,4,3,2] O) ?_))))))));have gn:=gm.bxos (r:=(A9.sl BJ)) (l:=([[]]:List (List AX))) .head ⟨_,_,O,⟨_,O,(.inl ⟨O,O⟩)⟩,O⟩ (by simp[maxLen]);refine AT (λa w=>∃(a3:Value)(ab:List (List AX))(a4:(Option F8)),IV B du dv (169,[]) a w [(9,J),(7,.bool k),(4,q8),(3,q1),(10,a3)] (OS (A9.sl BJ) 76 a3 ab::Pm 91 93 3 J a4::L) λ_ _=>DL N U V k ab a4=some true) ?_ ?_
 ·refine A0 (λn1=>λa w=>∃(a9:Value)(ae:List (List AX))(a5:Int)(c1:(Option F8)),IV B du dv (169,[]) a w [(9,J),(7,.bool k),(4,q8),(3,q1),(2,s),(10,a9),(11,vI a5)] (OS (A9.sl BJ) 76 a9 ae::Pm 91 93 3 J c1::L) λ_ _=>AB a5/\B6 N bt (DL N U V k) n1 ae a5 c1=some true) N ?_ ?_ ?_
  ·intro M Q i c;exact⟨(.slice (some ⟨jp,0,none⟩) 1 1),([[]]:List (List AX)),0,gh,_,_,i.sub (kp [9,7,4,3,2,10,11] O),c,gn,(CO.refl du dv),(iq (n:=0) O),E⟩
  ·rintro M Q⟨_,_,_,_,_,_,_,_,_,_,_,E⟩;rw[B6]at E;cases E
  rintro n1 M Q⟨a9,ae,a5,c1,ac,ad,i,c,c6,bh,o4,E⟩;refine AL ?_ i c;clear i c Q M;rw[B6]at E;refine CU (Cr (AE O (AE O ?_)));have gp:=e5.trans (ap.trans (af.trans (aq.trans (ar.trans (a2.trans bh)))));have jq:=j.mono' gp;refine LX O jq R5.1 O λo5=>J1 O (E9 (kp [39,9,7,4,3,2,10,11] O) (AK O E (λjr E=>?_) (λjr E=>?_)))
  ·refine D7 (CU (AT (λa w=>∃(c2:Value)(c3:List (List AX))(c4:(Option F8)),IV B ac ad (169,[]) a w [(9,J),(7,.bool k),(4,q8),(3,q1),(2,s),(11,vI a5),(10,c2)] (OS (A9.sl BJ) 76 c2 c3::Pm 91 93 3 J c4::L) λ_ _=>EY N a5 (B6 N bt (DL N U V k) n1) c3 c4=some true) ?_ ?_))
   ·refine CU (WI (SK ac ad) mo (L6 0 O Γ O (λ_=>SK.of (CO.refl ac ad)) O O (L6 1 O Γ O (λ_=>SK.of (CO.refl ac ad)) O O (L6 2 O Γ O (λ_=>SK.of (CO.refl ac ad)) O O ?_))));have c7:=e5.trans (ap.trans (af.trans (aq.trans (ar.trans (a2.trans bh)))));have js:=j.mono' c7;obtain⟨o6,gq,E⟩:=bd E;refine XO 3 O Γ O (λ_=>SK.of (CO.refl ac ad)) O O js R5.1 gq O λo7 ju=>XQ 4 O Γ O (λ_=>SK.of (CO.refl ac ad)) O ju Ht T9.1 O λo8 jv=>TN 5 O Γ O (λ_=>SK.of (CO.refl ac ad)) (λ_ c=>c) O jv Fl.1 (λe=>by first|rfl|cases e) O λo9 jw=>?_;obtain⟨_,rfl,rfl,jx⟩:=jw;refine L6 6 O Γ O (λ_=>SK.of (CO.refl ac ad)) O O (L6 7 O Γ O (λ_=>SK.of (CO.refl ac ad)) O O ?_);have jy:=j.mono' c7;obtain⟨pa,gr,E⟩:=bd E;refine XO 8 O Γ O (λ_=>SK.of (CO.refl ac ad)) O O jy R5.1 gr O λpb jz=>XQ 9 O Γ O (λ_=>SK.of (CO.refl ac ad)) O jz BT.f_In aW.1 O λpc j0=>TN 10 O Γ O (λ_=>SK.of (CO.refl ac ad)) (λ_ c=>c) O j0 PT.1 (λe=>by first|rfl|cases e) O λpd j1=>Kk 11 O O Γ ?_;have gs:=c6.pick (.tail .head);obtain⟨a6,gu,E⟩:=bd E;refine Ch O O O WG O (Sj gs jx j1 gu) λpe t A ag p=>?_;obtain⟨rfl,j9,ka,W⟩:=p;refine Gy (λ_=>SK.of ag) (L6 12 O Γ O (λ_=>SK.of ag) O O (Sg 13 O Γ O (λ_=>SK.of ag) O O O (Sg 14 O Γ O (λ_=>SK.of ag) O O O (TO 15 O Γ O (λ_=>SK.of ag) O O (TO 16 O Γ O (λ_=>SK.of ag) O O (Qv Γ (kp [13,12,9,7,4,3,2,10,11] O) (Cr (AE O (DG O (AE O (A3 5 64 (.bool ((decide (a6.2.1=0))&&(decide (a6.1=(↑ae.length:Int))))) ?_ ?_)))))))))))
    ·cases kb:(decide (a6.2.1=0))
     ·exact BK O O
     exact AO O (AE O (AO O (AE O (AO O (Qt W (mt mh) O Vj.1 O λkc=>AO O (DG O (AZ O (A4 O))))))))
    refine AE O ?_;obtain⟨c8,C,E⟩:=bd E;refine A3 7 72 (.bool c8) ?_ ?_
    ·cases c9:((decide (a6.2.1=0))&&(decide (a6.1=(↑ae.length:Int))))
     ·have C:=Hl c9 C;cases C;exact BK O O
     have C:=Hk c9 C;refine AO O (AE O (AO O (AE O (AO O ?_))));have dw:=e5.trans (ap.trans (af.trans (aq.trans (ar.trans (a2.trans (bh.trans ag))))));have gv:=j.mono' dw;obtain⟨kd,dx,C⟩:=bd C;refine Oc O O gv R5.1 dx O λke gw=>AO O (Mq O gw Ht T9.1 O λkf gx=>AO O (FA H4 W.1 O gx Fl.1 O λkg=>AO O (bZ O (AZ O ?_))));cases C;exact A4 O
    refine AE O ?_;obtain⟨gy,D,E⟩:=bd E;refine A3 8 81 (.bool gy) ?_ ?_
    ·cases da:c8
     ·have D:=Hl da D;cases D;exact BK O O
     have D:=Hk da D;refine AO O (AE O (AO O (AE O (AO O ?_))));have dy:=e5.trans (ap.trans (af.trans (aq.trans (ar.trans (a2.trans (bh.trans ag))))));have gz:=j.mono' dy;obtain⟨kh,dz,D⟩:=bd D;refine Oc O O gz R5.1 dz O λki g0=>AO O (Mq O g0 Ht T9.1 O λkj g1=>AO O (FA H4 W.1 O g1 Fl.1 O λkk=>AO O (AE O (AO O (J1 O (AZ O ?_))))));cases D;exact A4 O
    refine E9 (kp [81,9,7,4,3,2,10,11] O) (AK O E (λg2 E=>?_) (λg2 E=>?_))
    ·obtain ⟨kl,d0,E⟩:=bd E;obtain⟨km,d1,E⟩:=bd E;obtain⟨d,ah,E⟩:=bd E;obtain⟨F,E⟩:=MF E;obtain⟨m,d2,E⟩:=bd E;obtain⟨G,E⟩:=MF E;obtain⟨d3,E⟩:=MF E;refine It (λa w=>∃bv,IV B t A (169,[]) a w [(10,bv),(9,J),(7,.bool k),(4,q8),(3,q1),(2,s),(11,vI a5)] (Pm 91 93 3 J a6.2.2::OS (A9.sl BJ) 76 bv (ae++([((([]:List AX)++d)++([m.K]:List AX))]:List (List AX)))::L) λ_ _=>True) ?_ ?_
     ·refine WI (SK t A) mo (Aa5 (fuel2:=3) (listed2:= #[true,true,true,true,true,true,true,true,true,true,true,true,true,true,true,true,true,true,false,false,false]) (mk:=λbw=>[(99,bw),(82,a9),(9,J),(7,.bool k),(4,q8),(3,q1),(2,s),(10,a9),(11,vI a5)]) (R:=λbw h'=>St t (OS BJ 50 bw ((([]:List AX)++d)++([m.K]:List AX))::Pm 91 93 3 J a6.2.2::OS (A9.sl BJ) 76 a9 ae::L) h'/\CO t A t h') (λbw kn ⟨d4,g3⟩=>?_) λjt=>?_)
      ·refine Kk 18 O O Γ ?_;obtain⟨ko,d5,g4,db⟩:=d4.pubs .head;obtain⟨d6,c5,rfl,kr⟩:=(db).len;refine IX (cs:=[(.slice d6 ((([]:List AX)++d)++([m.K]:List AX)).length c5)]) lG O O O O O O O d5 λks kt d7 dc=>?_;have a7:=g3.trans (g4.trans dc);refine Gy (λ_=>SK.of a7) (Kk 19 O O Γ ?_);have g5:=db.mono' dc;refine LQ (r:=(A9.sl BJ)) (l:=ae) (xs:=([((([]:List AX)++d)++([m.K]:List AX))]:List (List AX))) O O lG O mh ⟨_,_,O,⟨_,O,g5⟩,O⟩ O O d3 O d7 (λ_=>(.tail (.tail .head))) λg6 ku d8 b7=>?_;have d9:=d8.drop .head;exact Gy (λ_=>SK.of (a7.trans b7)) (TO 20 O Γ O (λ_=>SK.of (a7.trans b7)) O O (Qv Γ (kp [10,9,7,4,3,2,11] O) (WF.nil (λM Q i c=>⟨g6,_,_,i.sub (kp [10,9,7,4,3,2,11] O),c,d9,(a7.trans b7),trivial⟩))))
      refine L6 0 O Γ O (λ_=>SK.of (CO.refl t A)) O O (L6 2 O Γ O (λ_=>SK.of (CO.refl t A)) O O (L6 3 O Γ O (λ_=>SK.of (CO.refl t A)) O O (L6 4 O Γ O (λ_=>SK.of (CO.refl t A)) O O ?_)));have b8:=e5.trans (ap.trans (af.trans (aq.trans (ar.trans (a2.trans (bh.trans ag))))));have g7:=j.mono' b8;refine XO 5 O Γ O (λ_=>SK.of (CO.refl t A)) O O g7 R5.1 d0 O λkv g8=>XQ 6 O Γ O (λ_=>SK.of (CO.refl t A)) O g8 Ht T9.1 O λkw g9=>TN 7 O Γ O (λ_=>SK.of (CO.refl t A)) (λ_ c=>c) O g9 Fl.1 (λe=>by first|rfl|cases e) O λkx ha=>?_;obtain⟨_,rfl,rfl,ky⟩:=ha;refine VE 8 (r:=(A9.sl BJ)) (xs:=ae) O Γ (λ_=>SK.of (CO.refl t A)) W (mt mh) O O Vj.1 d1 O λkz ai=>L6 11 O Γ O (λ_=>SK.of (CO.refl t A)) O O (L6 12 O Γ O (λ_=>SK.of (CO.refl t A)) O O ?_);have hc:=j.mono' b8;refine XO 13 O Γ O (λ_=>SK.of (CO.refl t A)) O O hc R5.1 d2 O λk0 hd=>XQ 14 O Γ O (λ_=>SK.of (CO.refl t A)) O hd BT.f_In aW.1 O λk1 he=>TN 15 O Γ O (λ_=>SK.of (CO.refl t A)) (λ_ c=>c) O he PT.1 (λe=>by first|rfl|cases e) O λk2 aj=>Aee 1 9 16 O O O O O O Γ ?_ ?_ ?_
      ·refine Jl (r:=BJ) KC O O W λk3 k4 a8 y=>Gy (λ_=>SK.of y) (Ym 9 16 O O O O Γ ?_ ?_)
       ·refine AN 1 ?_;have hg:=a8.epAt (mt (mt mh)) ah FB.id ai;refine GB H4 (λ_ x=>x) O hg TR.1 O λk5 dd=>AG (Gy (λ_=>SK.of y) (Ym 10 16 O O O O Γ ?_ ?_))
        ·refine Eg (r:=BJ) (l:=([]:List AX)) (xs:=d) O O KC O (Sl.src dd) O F O a8 (λ_=> .head) λk8 k9 ea b9=>Gy (λ_=>SK.of (y.trans b9)) (Kk 16 O O Γ ?_);have hh:=aj.mono (y.trans b9);refine Ru (r:=BJ) KC O O O hh O O O ea λla j2 lb eb hi hj=>?_;have bi:=y.trans (b9.trans hi);refine Gy (λ_=>SK.of bi) (Kk 17 O O Γ (LQ (r:=BJ) (l:=(([]:List AX)++d)) (xs:=([m.K]:List AX)) O O KC O mh hj O O G O eb (λ_=>(.tail .head)) λlc le ec de=>?_));have ed:=ec.drop .head;exact Gy (λ_=>SK.of (bi.trans de)) (Tg Γ (kp [99,82,9,7,4,3,2,10,11] O) (jt _ _ ⟨ed,(bi.trans de)⟩))
        have hk:=aj.mono y;refine Ru (r:=BJ) KC O O O hk O O O a8 λlf j3 lg ee ca hl=>Gy (λ_=>SK.of (y.trans ca)) (Kk 10 O O Γ ?_);have hm:=dd.mono' ca;refine Eg (r:=BJ) (l:=([]:List AX)) (xs:=d) O O KC O (Sl.src hm) O F O ee (λ_=>(.tail .head)) λlh li ef cb=>?_;have bj:=y.trans (ca.trans cb);refine Gy (λ_=>SK.of bj) (Kk 17 O O Γ (LQ (r:=BJ) (l:=(([]:List AX)++d)) (xs:=([m.K]:List AX)) O O KC O mh (hl.mono cb.sub cb.same) O O G O ef (λ_=>(.tail .head)) λlj ll eg df=>?_));have eh:=eg.drop .head;exact Gy (λ_=>SK.of (bj.trans df)) (Tg Γ (kp [99,82,9,7,4,3,2,10,11] O) (jt _ _ ⟨eh,(bj.trans df)⟩))
       have hn:=aj.mono y;refine Ru (r:=BJ) KC O O O hn O O O a8 λlm j4 lo cc cd ho=>Gy (λ_=>SK.of (y.trans cd)) (Kk 9 O O Γ (AN 1 ?_));have hp:=cc.epAt (mt (mt (mt mh))) ah FB.id ai;refine GB H4 (λ_ x=>x) O hp TR.1 O λlp hq=>AG (Gy (λ_=>SK.of (y.trans cd)) (Kk 10 O O Γ (Eg (r:=BJ) (l:=([]:List AX)) (xs:=d) O O KC O (Sl.src hq) O F O cc (λ_=>(.tail .head)) λlq lr ei ce=>?_)));have bk:=y.trans (cd.trans ce);refine Gy (λ_=>SK.of bk) (Kk 17 O O Γ (LQ (r:=BJ) (l:=(([]:List AX)++d)) (xs:=([m.K]:List AX)) O O KC O mh (ho.mono ce.sub ce.same) O O G O ei (λ_=>(.tail .head)) λls lt ej dg=>?_));have ek:=ej.drop .head;exact Gy (λ_=>SK.of (bk.trans dg)) (Tg Γ (kp [99,82,9,7,4,3,2,10,11] O) (jt _ _ ⟨ek,(bk.trans dg)⟩))
      ·refine AN 1 ?_;have hr:=W.epAt (mt mh) ah FB.id ai;refine GB H4 (λ_ x=>x) O hr TR.1 O λlu cf=>AG (Gy (λ_=>SK.of (CO.refl t A)) (Ym 1 16 O O O O Γ ?_ ?_))
       ·refine Jl (r:=BJ) KC O O W λlv lw cg Y=>Gy (λ_=>SK.of Y) (Ym 10 16 O O O O Γ ?_ ?_)
        ·have ht:=cf.mono' Y;refine Eg (r:=BJ) (l:=([]:List AX)) (xs:=d) O O KC O (Sl.src ht) O F O cg (λ_=> .head) λlx ly el ch=>Gy (λ_=>SK.of (Y.trans ch)) (Kk 16 O O Γ ?_);have hu:=aj.mono (Y.trans ch);refine Ru (r:=BJ) KC O O O hu O O O el λlz j5 l0 em hv hx=>?_;have bl:=Y.trans (ch.trans hv);refine Gy (λ_=>SK.of bl) (Kk 17 O O Γ (LQ (r:=BJ) (l:=(([]:List AX)++d)) (xs:=([m.K]:List AX)) O O KC O mh hx O O G O em (λ_=>(.tail .head)) λl1 l2 en dh=>?_));have eo:=en.drop .head;exact Gy (λ_=>SK.of (bl.trans dh)) (Tg Γ (kp [99,82,9,7,4,3,2,10,11] O) (jt _ _ ⟨eo,(bl.trans dh)⟩))
        have hy:=aj.mono Y;refine Ru (r:=BJ) KC O O O hy O O O cg λl3 j6 l4 ep ci hz=>Gy (λ_=>SK.of (Y.trans ci)) (Kk 10 O O Γ ?_);have h0:=cf.mono' (Y.trans ci);refine Eg (r:=BJ) (l:=([]:List AX)) (xs:=d) O O KC O (Sl.src h0) O F O ep (λ_=>(.tail .head)) λl5 l6 eq cj=>?_;have bm:=Y.trans (ci.trans cj);refine Gy (λ_=>SK.of bm) (Kk 17 O O Γ (LQ (r:=BJ) (l:=(([]:List AX)++d)) (xs:=([m.K]:List AX)) O O KC O mh (hz.mono cj.sub cj.same) O O G O eq (λ_=>(.tail .head)) λl7 l8 er di=>?_));have es:=er.drop .head;exact Gy (λ_=>SK.of (bm.trans di)) (Tg Γ (kp [99,82,9,7,4,3,2,10,11] O) (jt _ _ ⟨es,(bm.trans di)⟩))
       refine Ru (r:=BJ) KC O O O aj O O O W λl9 j7 ma eu bx h1=>Gy (λ_=>SK.of bx) (Kk 1 O O Γ (Jl (r:=BJ) KC O O eu λmb mc ev ba=>Gy (λ_=>SK.of (bx.trans ba)) (Kk 10 O O Γ ?_)));have h2:=cf.mono' (bx.trans ba);refine Eg (r:=BJ) (l:=([]:List AX)) (xs:=d) O O KC O (Sl.src h2) O F O ev (λ_=> .head) λmd me ew ck=>?_;have bn:=bx.trans (ba.trans ck);refine Gy (λ_=>SK.of bn) (Kk 17 O O Γ (LQ (r:=BJ) (l:=(([]:List AX)++d)) (xs:=([m.K]:List AX)) O O KC O (mt mh) (h1.mono (ba.trans ck).sub (ba.trans ck).same) O O G O ew (λ_=> .head) λmf mg ey dj=>?_));have ez:=ey.drop (.tail .head);exact Gy (λ_=>SK.of (bn.trans dj)) (Tg Γ (kp [99,82,9,7,4,3,2,10,11] O) (jt _ _ ⟨ez,(bn.trans dj)⟩))
      refine Ru (r:=BJ) KC O O O aj O O O W λmi j8 mj bo ak dk=>Gy (λ_=>SK.of ak) (Ym 1 9 O O O O Γ ?_ ?_)
      ·refine Jl (r:=BJ) KC O O bo λml mm cl bb=>Gy (λ_=>SK.of (ak.trans bb)) (Kk 9 O O Γ (AN 1 ?_));have h4:=cl.epAt (mt (mt (mt mh))) ah FB.id ai;refine GB H4 (λ_ x=>x) O h4 TR.1 O λmn h5=>AG (Gy (λ_=>SK.of (ak.trans bb)) (Kk 10 O O Γ (Eg (r:=BJ) (l:=([]:List AX)) (xs:=d) O O KC O (Sl.src h5) O F O cl (λ_=> .head) λmp mq e0 cm=>?_)));have bp:=ak.trans (bb.trans cm);refine Gy (λ_=>SK.of bp) (Kk 17 O O Γ (LQ (r:=BJ) (l:=(([]:List AX)++d)) (xs:=([m.K]:List AX)) O O KC O (mt mh) (dk.mono (bb.trans cm).sub (bb.trans cm).same) O O G O e0 (λ_=> .head) λmr ms e1 dl=>?_));have e2:=e1.drop (.tail .head);exact Gy (λ_=>SK.of (bp.trans dl)) (Tg Γ (kp [99,82,9,7,4,3,2,10,11] O) (jt _ _ ⟨e2,(bp.trans dl)⟩))
      refine AN 1 ?_;have h6:=bo.epAt (mt (mt mh)) ah FB.id ai;refine GB H4 (λ_ x=>x) O h6 TR.1 O λmu h7=>AG (Gy (λ_=>SK.of ak) (Kk 1 O O Γ (Jl (r:=BJ) KC O O bo λmv mw e3 bc=>Gy (λ_=>SK.of (ak.trans bc)) (Kk 10 O O Γ ?_))));have h8:=h7.mono' bc;refine Eg (r:=BJ) (l:=([]:List AX)) (xs:=d) O O KC O (Sl.src h8) O F O e3 (λ_=> .head) λmx my e4 cn=>?_;have bq:=ak.trans (bc.trans cn);refine Gy (λ_=>SK.of bq) (Kk 17 O O Γ (LQ (r:=BJ) (l:=(([]:List AX)++d)) (xs:=([m.K]:List AX)) O O KC O (mt mh) (dk.mono (bc.trans cn).sub (bc.trans cn).same) O O G O e4 (λ_=> .head) λmz m0 e6 dm=>?_));have e7:=e6.drop (.tail .head);exact Gy (λ_=>SK.of (bq.trans dm)) (Tg Γ (kp [99,82,9,7,4,3,2,10,11] O) (jt _ _ ⟨e7,(bq.trans dm)⟩))
     rintro M Q⟨bv,m1,m2,i,c,e8,h9,_⟩;refine AL ?_ i c;clear i c Q M;refine WF.nil (λM Q i c=>?_);have e9:=e8.sel [1,0] 0 O;exact⟨bv,(ae++([((([]:List AX)++d)++([m.K]:List AX))]:List (List AX))),a6.2.2,_,_,i.sub (kp [9,7,4,3,2,11,10] O),c,e9,(ag.trans h9),E⟩
    refine D7 (WF.nil (λM Q i c=>?_));have fb:=W.sel [1,0] 0 O;exact⟨a9,ae,a6.2.2,_,_,i.sub (kp [9,7,4,3,2,11,10] O),c,fb,ag,E⟩
   rintro M Q⟨c2,c3,c4,m3,m4,i,c,fc,ia,E⟩;refine AL ?_ i c;clear i c Q M;rw[EY]at E;refine Ip (.inl O) (AE O (J3 O (Cm O (kp [11,9,7,4,3,2,10] O) (WF.nil (λM Q i c=>?_)))));exact⟨c2,c3,(BO (a5+1)),c4,_,_,i.sub (kp [9,7,4,3,2,10,11] O),c,fc,(bh.trans ia),(BQ _),E⟩
  refine BL O (λM Q i c=>?_);exact⟨a9,ae,c1,_,_,i.sub (kp [9,7,4,3,10] O),c,c6,bh,E⟩
 rintro M Q⟨a3,ab,a4,co,cp,i,c,fd,bz,E⟩;refine AL ?_ i c;clear i c Q M;rw[DL]at E;refine CU (Cr (Cm O (kp [14,9,7,4,3,10] O) (AT (λa w=>IV B co cp (169,[]) a w [(7,.bool k)] (L) λ_ _=>DK N k=some true) ?_ ?_)))
 ·refine A0 (λn4=>λa w=>∃(X:Int),IV B co cp (169,[]) a w [(9,J),(7,.bool k),(4,q8),(3,q1),(10,a3),(14,vI X)] (OS (A9.sl BJ) 76 a3 ab::Pm 91 93 3 J a4::L) λ_ _=>AB X/\B0 N U V k ab a4 (DK N k) n4 X=some true) N ?_ ?_ ?_
  ·intro M Q i c;exact⟨0,_,_,i.sub (kp [9,7,4,3,10,14] O),c,fd,(CO.refl co cp),(iq (n:=0) O),E⟩
  ·rintro M Q⟨_,_,_,_,_,_,_,_,E⟩;rw[B0]at E;cases E
  rintro n4 M Q⟨X,m5,m6,i,c,br,be,ib,E⟩;refine AL ?_ i c;clear i c Q M;rw[B0]at E;refine CU (Cr (AE O (AE O (Qt br mh O Vj.1 O λm7=>J1 O (E9 (kp [105,9,7,4,3,10,14] O) (AK O E (λic E=>?_) (λic E=>?_)))))))
  ·refine D7 (CU (AW (WF.sl (AN 2 (AE O (AE O (AG ?_)))))));have fe:=br.pick (.tail .head);obtain⟨Z,ff,E⟩:=bd E;refine Ch O O O mG O (gV fe ib ff) λm8 cq m9 b0 p=>?_;obtain⟨na,rfl,ie,nb,fg⟩:=p;refine AN 3 (AE O (EQ O (EQ O (AG (DT Pn O fg λb1 nc fh bf=>?_)))));have cr:=ie.mono bf;obtain⟨au,av,aw,ax,ay,az,rfl,nd,ig,ih,ii,ij,dn,ik⟩:=BP.ex cr;refine NT (vs:=[vI Z.1.B,au,av,aw,ax,ay,az]) (cs':=[vI Z.1.B,au,av,aw,ax,ay,az]) O O O (BH O (BH ig.one (BH ih.one (BH ii.one (BH ij.one (BH dn.one (BH ik.one KY))))))) JB.1 O fh .head O O λne u am=>AN 1 (DV O (AG (LF.nil (kp [16,15,9,7,4,3,10,14] O) (CU (CU (CP (.inr ⟨mo,Γ⟩) u (AE O (LO O (AE O ?_)))))))));obtain⟨il,g,E⟩:=bd E;refine A3 14 130 (.bool il) ?_ ?_
   ·cases dp:(decide (Z.2≠0))
    ·have g:=Hl dp g;refine AO O (Fk (vs:=[vI Z.1.B,au,av,aw,ax,ay,az]) OK u O mh O O JB.1 O O (AO O ?_));have b3:=cr.mono am;obtain⟨nf,fi,g⟩:=bd g;refine Od O O O tY O (λh' o=>Md (St.all h') (b3.mono (o.all u.1)) fi) λim=>?_;have ng:=im;refine AO O (Gg O aX.1 O (AO O (TL OK u O mh O GC.1 O (AO O ?_))));have io:=dn.mono' am;obtain⟨nh,fj,g⟩:=bd g;refine Od O O O OR O (λh' o=>ES (St.all h') (io.mono' (o.all u.1)) fj) λip=>?_;have ni:=ip;refine AO O (QV O (AO O ?_));have fk:=ar.trans (a2.trans (bz.trans (be.trans (b0.trans (bf.trans am)))));have dq:=dt.mono fk;refine Lh OK u.1 O dq JB.1 (λe=>by cases e) O λnj ir=>AO O ?_;obtain⟨nk,fl,g⟩:=bd g;refine Od O O O tY O (λh' o=>Md (St.all h') (ir.mono (o.all u.1)) fl) λit=>?_;have nl:=it;refine AO O (Mq O dq AH.f_In aX.1 O λnm iu=>AO O (GB OK u.1 O iu GC.1 O λnn iv=>AO O ?_));obtain⟨no,fm,g⟩:=bd g;refine Od O O O OR O (λh' o=>ES (St.all h') (iv.mono' (o.all u.1)) fm) λiw=>?_;have np:=iw;refine AO O (QV O (AO O (LO O (AZ O ?_))));cases g;exact A4 O
    have g:=Hk dp g;cases g;exact BK O O
   refine BW (kp [130,15,9,7,4,3,10,14] O) λct fn b2=>Is O (λcu=>?_) (λcu=>?_)
   ·cases Hk cu E
   have E:=Hl cu E;refine D7 (CU (Cr (Cm O (kp [17,15,9,7,4,3,10,14] O) (AT (λa w=>IV B cq ct (169,[]) a w [(15,vP b1 0),(9,J),(7,.bool k),(4,q8),(3,q1),(10,a3),(14,vI X)] (Bx b1 36 [vI Z.1.B,au,av,aw,ax,ay,az]::Pm 91 93 3 J a4::OS (A9.sl BJ) 76 a3 ab::L) λ_ _=>Du N U V ab X Z (B0 N U V k ab a4 (DK N k) n4)=some true) ?_ ?_))))
   ·refine A0 (λn6=>λa w=>∃(bg:Int),IV B cq ct (169,[]) a w [(15,vP b1 0),(9,J),(7,.bool k),(4,q8),(3,q1),(10,a3),(14,vI X),(17,vI bg)] (Bx b1 36 [vI Z.1.B,au,av,aw,ax,ay,az]::Pm 91 93 3 J a4::OS (A9.sl BJ) 76 a3 ab::L) λ_ _=>AB bg/\CI N k ab X (Du N U V ab X Z (B0 N U V k ab a4 (DK N k) n4)) n6 bg=some true) N ?_ ?_ ?_
    ·intro M Q i c;exact⟨0,_,_,i.sub (kp [15,9,7,4,3,10,14,17] O),c,fn,(CO.refl cq ct),(iq (n:=0) O),E⟩
    ·rintro M Q⟨_,_,_,_,_,_,_,_,E⟩;rw[CI]at E;cases E
    rintro n6 M Q⟨bg,nq,nr,i,c,H,cv,ns,E⟩;refine AL ?_ i c;clear i c Q M;rw[CI]at E;refine CU (Cr (AE O (AE O (AE O ?_))));obtain⟨nt,fo,E⟩:=bd E;refine BU H (mt (mt mh)) O O Vj.1 fo O λnu fp=>?_;obtain⟨nv,fq,E⟩:=bd E;have iy:=H.epAt (mt (mt mh)) fq FB.id fp;refine GB H4 (λ_ x=>x) O iy TR.1 O λnw iz=>LX O iz iH.1 O λnx=>J1 O (E9 (kp [137,15,9,7,4,3,10,14,17] O) (AK O E (λi0 E=>?_) (λi0 E=>?_)))
    ·refine D7 (CU (AW (Cr (AE O (AE O ?_)))));obtain⟨ny,fr,E⟩:=bd E;refine BU H (mt (mt mh)) O O Vj.1 fr O λnz fs=>?_;obtain⟨n0,ft,E⟩:=bd E;have i1:=H.epAt (mt (mt mh)) ft FB.id fs;refine GB H4 (λ_ x=>x) O i1 TR.1 O λn2 i2=>AE O ?_;obtain⟨n3,fu,E⟩:=bd E;refine Oc O O i2 iH.1 fu O λn5 i3=>Mq O i3 LB pO.1 O λn7 i4=>GB H4 H.1 O i4 Abq.1 O λn8 i5=>LX O i5 Z2.1 O λn9=>LP O (E9 (kp [149,15,9,7,4,3,10,14,17] O) (AK O E (λi6 E=>?_) (λi6 E=>?_)))
     ·refine Cr (AE O (Cm O (kp [6] O) (CM (λM Q i c=>?_))));have fv:=H.sel [] 3 O
      first|cases E|rw[Ags E]at i
      have fw:=e5.trans (ap.trans (af.trans (aq.trans (ar.trans (a2.trans (bz.trans (be.trans (b0.trans (bf.trans (am.trans (b2.trans cv)))))))))));exact T0 i c O O fw ⟨O,fv⟩
     refine D7 (BF (Ip (.inl O) (AE O (J3 O (Cm O (kp [17,15,9,7,4,3,10,14] O) (WF.nil (λM Q i c=>?_)))))));exact⟨(BO (bg+1)),_,_,i.sub (kp [15,9,7,4,3,10,14,17] O),c,H,cv,(BQ _),E⟩
    refine BL O (λM Q i c=>?_);exact⟨_,_,i.sub (kp [15,9,7,4,3,10,14] O),c,H,cv,E⟩
   rintro M Q⟨an,ao,i,c,bs,cw,E⟩;refine AL ?_ i c;clear i c Q M;rw[Du]at E;refine CU (WI (SK an ao) mo ?_);have cx:=ar.trans (a2.trans (bz.trans (be.trans (b0.trans (bf.trans (am.trans (b2.trans cw)))))));have dr:=gg.mono cx;refine TN 0 O Γ O (λ_=>SK.of (CO.refl an ao)) (λ_ c=>c) O dr Ns.1 (λe=>by first|rfl|cases e) O λoa i7=>?_;have ds:=dt.mono cx;refine TN 1 O Γ O (λ_=>SK.of (CO.refl an ao)) (λ_ c=>c) O ds JB.1 (λe=>by first|rfl|cases e) O λob i8=>L6 2 O Γ O (λ_=>SK.of (CO.refl an ao)) O O (L6 3 O Γ O (λ_=>SK.of (CO.refl an ao)) O O ?_);obtain⟨oc,fx,E⟩:=bd E;refine VE 4 (r:=(A9.sl BJ)) (xs:=ab) O Γ (λ_=>SK.of (CO.refl an ao)) bs (mt (mt mh)) O O Vj.1 fx O λod fy=>Kk 5 O O Γ (AN 1 ?_);obtain⟨oe,fz,E⟩:=bd E;have i9:=bs.epAt (mt (mt mh)) fz FB.id fy;refine GB H4 (λ_ x=>x) O i9 TR.1 O λog ja=>AG (Gy (λ_=>SK.of (CO.refl an ao)) (Kk 6 O O Γ ?_));obtain⟨oh,f0,E⟩:=bd E;refine Ch O O O Adx O (UZ bs i7 i8 ja f0) λoi oj ok z p=>?_;obtain⟨ol,om,oo,rfl,I⟩:=p;refine Gy (λ_=>SK.of z) (L6 7 O Γ O (λ_=>SK.of z) O O (Sg 8 O Γ O (λ_=>SK.of z) O O O (Sg 9 O Γ O (λ_=>SK.of z) O O O (Sg 10 O Γ O (λ_=>SK.of z) O O O (TO 11 O Γ O (λ_=>SK.of z) O O (TO 12 O Γ O (λ_=>SK.of z) O O (TO 13 O Γ O (λ_=>SK.of z) O O (Qv Γ (kp [19,15,9,7,4,3,10,14] O) (CU (CP (.inl O) I ?_))))))))));have jb:=dr.mono z;refine Lh OK I.1 O jb Ns.1 (λe=>by cases e) O λop jc=>?_;have jd:=ds.mono z;refine Lh OK I.1 O jd JB.1 (λe=>by cases e) O λoq je=>Fk (vs:=[vI Z.1.B,au,av,aw,ax,ay,az]) OK I O (mt (mt (mt mh))) O O JB.1 O O (AE O ?_);have f1:=am.trans (b2.trans (cw.trans z));have b4:=cr.mono f1;obtain⟨os,f2,E⟩:=bd E;refine Jk O O O Adw O (λh' o=>Tt (St.all h') (jc.mono (o.all I.1)) (je.mono (o.all I.1)) (b4.mono (o.all I.1)) ((I.oslAll (mt mh)).mono (λb hb=>Ag6 hb o.siz) (λb hb=>o.same b hb)) f2) (Lp O (BW (kp [167,9,7,4,3,10,14] O) λot f3 jf=>Is O (λcy=>?_) (λcy=>?_)))
   ·cases Hk cy E
   have E:=Hl cy E;refine D7 (BF (Ip (.inl O) (AE O (J3 O (Cm O (kp [14,9,7,4,3,10] O) (WF.nil (λM Q i c=>?_)))))));have f4:=f3.sel [5,4] 4 O;have f5:=be.trans (b0.trans (bf.trans (am.trans (b2.trans (cw.trans (z.trans jf))))));exact⟨(BO (X+1)),_,_,i.sub (kp [9,7,4,3,10,14] O),c,f4,f5,(BQ _),E⟩
  refine BL O (λM Q i c=>?_);have f6:=br.sel [] 2 O;exact⟨_,_,i.sub (kp [7] O),c,f6,be,E⟩
 rintro M Q⟨ou,ov,i,c,f7,jg,E⟩;refine AL ?_ i c;clear i c Q M;rw[DK]at E;refine Cr (AE O (Cm O (kp [6] O) (CM (λM Q i c=>?_))))
 first|cases E|rw[Ags E]at i
 have f8:=e5.trans (ap.trans (af.trans (aq.trans (ar.trans (a2.trans (bz.trans jg))))));exact T0 i c O O f8 ⟨O,f7⟩
abbrev Df{α}(x:Option α):Prop:=∃v,x=some v
def Oi(n:Int):IntKind.u64.wrap n=n%18446744073709551616:=by simp[IntKind.wrap,IntKind.bits,IntKind.signed]
def GA(a:Nat)(b:a<18446744073709551616):IntKind.u64.wrap (a:Int)=a:=by rw[Oi];omega
def Sh(a:IntKind.u64.has n):IntKind.u64.wrap n=n:=by
 simp[IntKind.has,IntKind.min,IntKind.max,IntKind.bits,IntKind.signed]at a;rw[Oi];omega
def Pa:IntKind.u64.has n↔0<=n/\n<=18446744073709551615:=by simp[IntKind.has,IntKind.min,IntKind.max,IntKind.bits,IntKind.signed]
def kQ(b:IntKind.u64.has n):∃a:Nat,n=a/\a<18446744073709551616:=by
 rw[Pa]at b;exact⟨n.toNat,Ω,Ω⟩
def Y2(a j:Nat)(b:j<=64):F6 .u64 (a:Int) j=((a/2^j:Nat):Int):=by
 unfold F6;have e:min j IntKind.u64.bits=j:=by simp[IntKind.bits];omega
 rw[e,Int.fdiv_eq_ediv_of_nonneg _ (Int.le_of_lt (Int.pow_pos (by decide)))];simp
def Afo(a b:Nat)(g:a<18446744073709551616)(i:b<18446744073709551616):Jz .and .u64 (a:Int) (b:Int)=((a&&&b:Nat):Int):=by
 have c:(BitVec.ofInt 64 (a:Int)).toNat=a:=by rw[BitVec.ofInt_natCast,BitVec.toNat_ofNat];exact Aji Ω
 have d:(BitVec.ofInt 64 (b:Int)).toNat=b:=by rw[BitVec.ofInt_natCast,BitVec.toNat_ofNat];exact Aji Ω
 have j:a&&&b<2^64:=Nat.and_lt_two_pow _ Ω;show IntKind.u64.wrap (((BitVec.ofInt 64 (a:Int))&&&(BitVec.ofInt 64 (b:Int))).toNat:Int)=_
 rw[BitVec.toNat_and,c,d,GA _ Ω]
def Ul(a:Nat)(b:a<18446744073709551616):Jz .and .u64 (a:Int) 4294967295=((a%4294967296:Nat):Int):=by
 have c:=Afo a 4294967295 b Ω;have e:a&&&4294967295=a%4294967296:=Nat.and_two_pow_sub_one_eq_mod a 32;rw[e]at c;exact c
def Pz(a:Nat):F6 .u64 (a:Int) 32=((a/4294967296:Nat):Int):=Y2 a 32 Ω
def SH(a b:Nat):(a:Int)*(b:Int)=((a*b:Nat):Int):=(Int.natCast_mul a b).symm
def WH(a b:Nat):(a:Int)+(b:Int)=((a+b:Nat):Int):=(Int.natCast_add a b).symm
def sF(a:Nat):IntKind.u64.wrap (a:Int)=((a%18446744073709551616:Nat):Int):=by rw[Oi];omega
def Ui(N x y:Nat)(k:x<18446744073709551616)(l:y<18446744073709551616):Ib N (x:Int) (y:Int)=some (((x*y/18446744073709551616:Nat):Int),((x*y%18446744073709551616:Nat):Int)):=by
 obtain⟨bd,m,n,c⟩:=Lib.mul64_hi x y k l;have p:=Lib.half_mul_le (a:=x/4294967296) (b:=y/4294967296) Ω Ω;have q:=Lib.half_mul_le (a:=x/4294967296) (b:=y%4294967296) Ω Ω;have s:=Lib.half_mul_le (a:=x%4294967296) (b:=y/4294967296) Ω Ω;have d:x/4294967296*(y/4294967296)<18446744073709551616:=Ω
 have g:x/4294967296*(y%4294967296)<18446744073709551616:=Ω
 have i:x%4294967296*(y/4294967296)<18446744073709551616:=Ω
 have j:x/4294967296*(y/4294967296)+(x/4294967296*(y%4294967296)+x%4294967296*(y%4294967296)/4294967296)/4294967296<18446744073709551616:=Ω
 have o:x/4294967296*(y/4294967296)+(x/4294967296*(y%4294967296)+x%4294967296*(y%4294967296)/4294967296)/4294967296+((x/4294967296*(y%4294967296)+x%4294967296*(y%4294967296)/4294967296)%4294967296+x%4294967296*(y/4294967296))/4294967296<18446744073709551616:=Ω
 simp only[Ib,Pz,Ul x k,Ul y l,SH,WH,GA _ bd,GA _ g,GA _ m,Ul _ m,GA _ i,GA _ n,GA _ d,GA _ j,GA _ o,sF (x*y)];rw[c]
def Ln(x n:Nat):Prop:=1<=n/\2^(n-1)<=x/\x<2^n
def Ln.shift{x m s:Nat}(g:Ln (x/2^s) m):Ln x (m+s):=by
 obtain⟨d,b,c⟩:=g;have a:0<2^s:=Aj1 s;refine⟨Ω,?_,?_⟩
 ·have:2^(m-1)*2^s<=x:=(Nat.le_div_iff_mul_le a).1 b;rw[show m+s-1=(m-1)+s from Ω,Nat.pow_add];exact this
 ·have:=(Akc a).1 c;rw[Nat.pow_add];exact this
set_option maxRecDepth 20000 in
def Ae3:∀k:Nat,k<256->bE OX (k:Int)=some (((if k=0 then 0 else k.log2+1:Nat)):Int):=by decide +kernel
def oF{k:Nat}(h0:0<k)(a:k<256):∃n:Nat,bE OX (k:Int)=some (n:Int)/\Ln k n/\n<=8:=by
 have e:=Ae3 k a;rw[Agn Ω]at e;refine⟨_,e,⟨Ω,?_,Nat.lt_log2_self⟩,?_⟩
 ·rw[Nat.add_sub_cancel];exact Nat.log2_self_le Ω
 ·have:k.log2<8:=(Nat.log2_lt Ω).2 a;omega
def jZ(N:Nat){x:Nat}(h0:0<x)(u:x<18446744073709551616):∃n:Nat,Jw N (x:Int)=some (n:Int)/\Ln x n/\n<=64:=by
 have c:∀a:Nat,a<9223372036854775808->BO (a:Int)=a:=λa v=>Pr (by unfold AB;omega);have l:∀a:Nat,a<256->IntKind.u8.wrap (a:Int)=a:=λa v=>by simp[IntKind.wrap,IntKind.bits,IntKind.signed];omega
 have o:∀a b:Nat,0<a->a<256->b<=56->∃n:Nat,HY N (a:Int) (b:Int)=some ((n+b:Nat):Int)/\Ln a n/\n<=8:=λa b j k p=>by
  obtain⟨n,d,g,i⟩:=oF j k;refine⟨n,?_,g,i⟩;simp only[HY,l a k,d,Agm,c n Ω,WH,Nat.add_comm b n,c (n+b) Ω]
 have q:∀a b:Nat,0<a->a<65536->b<=48->∃n:Nat,HZ N (a:Int) (b:Int)=some ((n+b:Nat):Int)/\Ln a n/\n<=16:=λa b j k p=>by
  unfold HZ;by_cases s:256<=a
  ·rw[show decide ((256:Int)<=(a:Int))=true by simp;omega,Ago,Y2 a 8 Ω];have m:BO ((b:Int)+8)=((b+8:Nat):Int):=by rw[show((b:Int)+8)=((b+8:Nat):Int)from Ω];exact c _ Ω
   rw[m];obtain⟨n,d,g,i⟩:=o (a/2^8) (b+8) Ω Ω Ω;exact⟨n+8,by rw[d,show n+(b+8)=n+8+b from Ω],g.shift,Ω⟩
  ·rw[show decide ((256:Int)<=(a:Int))=false by simp;omega,Agq];obtain⟨n,d,g,i⟩:=o a b j Ω Ω;exact⟨n,d,g,Ω⟩
 have t:∀a b:Nat,0<a->a<4294967296->b<=32->∃n:Nat,Ha N (a:Int) (b:Int)=some ((n+b:Nat):Int)/\Ln a n/\n<=32:=λa b j k p=>by
  unfold Ha;by_cases s:65536<=a
  ·rw[show decide ((65536:Int)<=(a:Int))=true by simp;omega,Ago,Y2 a 16 Ω];have m:BO ((b:Int)+16)=((b+16:Nat):Int):=by rw[show((b:Int)+16)=((b+16:Nat):Int)from Ω];exact c _ Ω
   rw[m];obtain⟨n,d,g,i⟩:=q (a/2^16) (b+16) Ω Ω Ω;exact⟨n+16,by rw[d,show n+(b+16)=n+16+b from Ω],g.shift,Ω⟩
  ·rw[show decide ((65536:Int)<=(a:Int))=false by simp;omega,Agq];obtain⟨n,d,g,i⟩:=q a b j Ω Ω;exact⟨n,d,g,Ω⟩
 unfold Jw;by_cases s:4294967296<=x
 ·rw[show decide ((4294967296:Int)<=(x:Int))=true by simp;omega,Ago,Y2 x 32 Ω];obtain⟨n,d,g,i⟩:=t (x/2^32) 32 Ω Ω Ω;exact⟨n+32,by rw[show((32:Int))=((32:Nat):Int)from rfl,d],g.shift,Ω⟩
 ·rw[show decide ((4294967296:Int)<=(x:Int))=false by simp;omega,Agq];obtain⟨n,d,g,i⟩:=t x 0 h0 Ω Ω;exact⟨n,d,g,Ω⟩
def tB(N:Nat){y:Nat}(h0:0<y)(a:y<18446744073709551616):∃s:Nat,GN N (y:Int)=some (s:Int)/\s<=63/\9223372036854775808<=y*2^s/\y*2^s<18446744073709551616:=by
 obtain⟨n,b,⟨g,c,d⟩,i⟩:=jZ N h0 a;refine⟨64-n,?_,Ω,?_,?_⟩
 ·simp only[GN,b,Agm];rw[Pr (by unfold AB;omega)];congr 1;omega
 ·have:=Aia (2^(64-n)) c;rw[<-Nat.pow_add,show n-1+(64-n)=63 from Ω]at this;exact this
 ·have:=Nat.mul_lt_mul_of_pos_right d (Aj1 (64-n));rw[<-Nat.pow_add,show n+(64-n)=64 from Ω]at this;exact this
def Df.mk{α}(v:α):Df (some v):=⟨v,rfl⟩
def Df.bind{α β}{a:Option α}{f:α->Option β}(d:Df a)(k:∀v,a=some v->Df (f v)):Df (a.bind f):=by
 obtain⟨v,b⟩:=d;obtain⟨u,c⟩:=k v b;exact⟨u,by rw[b];exact c⟩
def Df.cond{α}{b:Bool}{x y:Option α}(a:b=true->Df x)(c:b=false->Df y):Df (cond b x y):=by
 cases b
 ·exact c rfl
 ·exact a rfl
def HB{α}(b:Bool)(x y:α):cond b (some x) (some y)=some (cond b x y):=by cases b<;>rfl
def BC{α}{l:List α}{i:Nat}(a:i<l.length):ix l (i:Int)=some l[i]:=by simp[ix,a]
def Df.ix{α}{l:List α}{i:Int}(h0:0<=i)(a:i<l.length):Df (ix l i):=by
 obtain⟨j,rfl⟩:∃j:Nat,i=j:=⟨i.toNat,Ω⟩
 exact⟨_,BC Ω⟩
def D6(h0: -9223372036854775808<=n)(a:n<=9223372036854775807):BO n=n:=Pr ⟨h0,a⟩
def yA:∃j,Rj (IntKind.u64.wrap n)=some j/\(j:Int)=IntKind.u64.wrap n:=by
 have:=(Pa.1 (D8 .u64 n)).1;exact⟨(IntKind.u64.wrap n).toNat,by unfold Rj;rw[Agn Ω],Ω⟩
def Y8{k:IntKind}{x:Int}(a:y≠0):Df (Tv k x y):=⟨_,by unfold Tv;rw[Agn a]⟩
def wL{x:Int}(a:y≠0):Df (Wb x y):=⟨_,by unfold Wb;rw[Agn a]⟩
def lP(N:Nat)(c y:Int)(b a:Nat)(kj:Int->Option (Int×Int))(d:∀v,Df (kj v)):∀(n:Nat)(q r:Int),IntKind.u64.has q->q.toNat<n->Df (D5 N c y b a kj n q r)
 |0,q,r,k,g=>Ω
 |n+1,q,r,k,g=>by
  have j:=Pa.1 k;unfold D5;refine Df.cond (λi=>?_) λ_=>d _;have h0:q≠0:=by
   rintro rfl;have:=(Pa.1 (D8 .u64 (IntKind.u64.wrap (4294967296*r)+F6 .u64 (Ej .u64 c a) 32))).1;simp[Oi]at i this;omega
  have e:IntKind.u64.wrap (q-1)=q-1:=Sh (Pa.2 Ω);refine Df.cond (λ_=>d _) λ_=>?_;exact lP N c y b a kj d n _ _ (D8 _ _) (by rw[e];omega)
def lO(N:Nat)(c y:Int)(b a:Nat)(kj:Int->Option (Int×Int))(d:∀v,Df (kj v)):∀(n:Nat)(r q:Int),IntKind.u64.has q->q.toNat<n->Df (EV N c y b a kj n r q)
 |0,r,q,k,g=>Ω
 |n+1,r,q,k,g=>by
  have j:=Pa.1 k;unfold EV;refine Df.cond (λi=>?_) λ_=>d _;have h0:q≠0:=by
   rintro rfl;have:=(Pa.1 (D8 .u64 (IntKind.u64.wrap (4294967296*r)+Jz .and .u64 (Ej .u64 c a) 4294967295))).1;simp[Oi]at i this;omega
  have e:IntKind.u64.wrap (q-1)=q-1:=Sh (Pa.2 Ω);refine Df.cond (λ_=>d _) λ_=>?_;exact lO N c y b a kj d n _ _ (D8 _ _) (by rw[e];omega)
def BN:Nat:=36893488147419103232
def Aeh:18446744073709551616<BN:=by decide
def oX{a s:Nat}(j:s<=63)(c:9223372036854775808<=a*2^s)(b:a*2^s<18446744073709551616):F6 .u64 (Ej .u64 (a:Int) s) 32≠0:=by
 have d:Ej .u64 (a:Int) s=((a*2^s:Nat):Int):=by
  unfold Ej;have g:min s IntKind.u64.bits=s:=by simp[IntKind.bits];omega
  have i:((a:Int)*2^s)=((a*2^s:Nat):Int):=by simp
  rw[g,i];exact GA _ b
 rw[d,Pz];generalize a*2^s=t at c b
 omega
def xX(N:Nat)(i k y g:Int)(a b c d:Nat)(q v:Int):Df (GO N i k y g a b c d q v):=by
 unfold GO;obtain⟨j,l,_⟩:=yA (n:=g);rw[l];exact Df.mk _
def xY(o:18446744073709551616<N)(l k y m:Int)(b g i c:Nat)(q:Int)(hd:F6 .u64 (Ej .u64 y b) 32≠0):Df (EW N l k y m b g i c q):=by
 unfold EW;refine Df.bind (Y8 hd) λj d=>?_;have a:=P4 d;have n:=(Pa.1 a)
 exact lO N k y b c _ (λv=>xX _ _ _ _ _ _ _ _ _ _ _) N _ j a Ω
def YV(A:18446744073709551616<N){o q:Int}(B:IntKind.u64.has o)(h2:IntKind.u64.has q)(C:IntKind.u64.has y)(h:o<y):Df (Gv N o q y):=by
 have g1:=Pa.1 B;have g:y≠0:=Ω
 have t:¬y<=o:=Ω
 unfold Gv;refine Df.cond (λp=>absurd (Aie p) g) λ_=>Df.cond (λp=>absurd (Aie p) t) λ_=>Df.cond (λ_=>?_) λ_=>?_
 ·exact Df.bind (Y8 g) λ_ _=>Df.bind (wL g) λ_ _=>Df.mk _
 ·obtain⟨D,u,F⟩:=kQ C;obtain⟨s,G,H,I,J⟩:=tB N (show 0<D from Ω) F;have hd:∀j:Nat,(j:Int)=IntKind.u64.wrap (s:Int)->F6 .u64 (Ej .u64 y j) 32≠0:=λj K=>by
   rw[GA s Ω]at K;have:j=s:=Ω
   rw[this,u];exact oX H I J
  rw[u,G];rw[<-u];refine Df.bind (Df.mk _) λw x=>?_;have i:w=(s:Int):=(Ags x).symm;obtain⟨k,M,Q⟩:=yA (n:=w);obtain⟨U,V,_⟩:=yA (n:=(64-IntKind.u64.wrap w));have l:=hd k (by rw[Q,i]);rw[M,V];refine Df.bind (Df.mk _) λa W=>Df.bind (Df.mk _) λb hb=>Df.bind (Df.mk _) λc p=>Df.bind (Df.mk _) λd X=>?_;have Y:=Ags W;rw[<-Y];refine Df.bind (Y8 l) λz Z=>?_;have m:=P4 Z;have aa:=Pa.1 m;exact lP N q y k d _ (λv=>xY A _ _ _ _ _ _ _ _ _ l) N z _ m Ω
def iU(g:18446744073709551616<N)(a num den:Int):Df (G8 N a num den):=by
 unfold G8;refine Df.cond (λ_=>Df.mk _) λb=>?_;simp only[Ahk,Ahd]at b;obtain⟨⟨⟨⟨⟨l,m⟩,o⟩,p⟩,q⟩,s⟩:=b;obtain⟨c,i⟩:∃n:Nat,a=n:=⟨a.toNat,Ω⟩
 obtain⟨d,j⟩:∃n:Nat,num=n:=⟨num.toNat,Ω⟩
 subst i;subst j;rw[GA c Ω,GA d Ω,Ui N c d Ω Ω];simp only[Agm];have hd:IntKind.u64.wrap den=den:=Sh (Pa.2 Ω);rw[hd];refine Df.cond (λ_=>Df.mk _) λb=>?_;simp only[Ahd]at b;have k:c*d<18446744073709551616*18446744073709551616:=Nat.mul_lt_mul'' Ω Ω;refine Df.bind (YV g (Pa.2 ⟨Ω,Ω⟩) (Pa.2 ⟨Ω,Ω⟩) (Pa.2 Ω) Ω) λv _=>?_;exact Df.cond (λ_=>Df.mk _) λ_=>Df.mk _
def Ol(c:18446744073709551616<N)(h0:0<=num)(k:0<=den)(l:den<=9223372036854775807):Df (G9 N num den):=by
 unfold G9;refine Df.cond (λ_=>Df.mk _) λd=>?_;simp only[Ahd]at d;refine Df.cond (λ_=>Df.mk _) λa=>?_;simp only[Ahd]at a;obtain⟨b,g⟩:∃n:Nat,num=n:=⟨num.toNat,Ω⟩
 obtain⟨i,j⟩:∃n:Nat,den=n:=⟨den.toNat,Ω⟩
 subst g;subst j;rw[GA b Ω,GA i Ω,show(1099511627776:Int)=((1099511627776:Nat):Int)from rfl,Ui N b 1099511627776 Ω Ω];simp only[Agm];refine Df.bind (YV c (Pa.2 ⟨Ω,Ω⟩) (Pa.2 ⟨Ω,Ω⟩) (Pa.2 Ω) Ω) λv _=>?_;exact Df.cond (λ_=>Df.mk _) λ_=>Df.mk _
def wZ{i j:Nat}(b:i+j<9223372036854775808):BO (F6 .u64 (IntKind.u64.wrap (BO ((i:Int)+(j:Int)))) 1)=(((i+j)/2:Nat):Int):=by
 have a:BO ((i:Int)+(j:Int))=((i+j:Nat):Int):=by rw[D6 Ω Ω];rfl
 rw[a,GA _ Ω,Y2 _ 1 Ω,D6 Ω Ω]
def Sq{N:Nat}(f:Int->Option Bool)(L:Nat)(c:L<4611686018427387904)(a:∀i:Nat,i<L->Df (f i))(kj:Int->Option Int):∀(n i j:Nat),i<=j->j<=L->j-i<n->(0<i->f ((i-1:Nat):Int)=some false)->(j<L->f (j:Int)=some true)->
  ∃r:Nat,HV N f kj n (i:Int) (j:Int)=kj (r:Int)/\r<=L/\(0<r->f ((r-1:Nat):Int)=some false)/\(r<L->f (r:Int)=some true)
 |0,i,j,_,_,p,_,_=>Ω
 |n+1,i,j,m,d,o,g,k=>by
  unfold HV;by_cases l:i<j
  ·rw[show decide ((i:Int)<(j:Int))=true by simp;omega,Ago,wZ Ω];obtain⟨v,b⟩:=a ((i+j)/2) Ω;rw[b];simp only[Agm];cases v
   ·simp only[Bool.not_false,Ago];have e:BO ((((i+j)/2:Nat):Int)+1)=(((i+j)/2+1:Nat):Int):=by rw[D6 Ω Ω];rfl
    rw[e];exact Sq f L c a kj n _ j Ω d Ω (λ_=>by rw[Nat.add_sub_cancel];exact b) k
   ·simp only[Ahm,Agq];exact Sq f L c a kj n i _ Ω Ω Ω g (λ_=>b)
  ·have e:i=j:=Ω
   subst e;rw[show decide ((i:Int)<(i:Int))=false by simp,Agq];exact⟨i,rfl,d,g,k⟩
def cV(f:Int->Option Bool)(L:Nat)(a:L<4611686018427387904)(g:L<N)(b:∀i:Nat,i<L->Df (f i)):∃r:Nat,M4 N (L:Int) f=some (r:Int)/\r<=L/\(0<r->f ((r-1:Nat):Int)=some false)/\(r<L->f (r:Int)=some true):=by
 obtain⟨r,c,d⟩:=Sq (N:=N) f L a b (KI N) N 0 L (Agr _) (Ag5 _) Ω (λj=>absurd j Ω) (λj=>absurd j Ω);exact⟨r,c,d⟩
def KW(n:Int):Prop:=0<=n/\n<=1125899906842624
def JW(c:List B3):Prop:=1<=c.length/\c.length<=32/\∀(k:Nat) p,c[k]? =some p->KW p.R/\KW p.X/\∀q,0<k->c[k-1]? =some q->q.R<p.R/\q.X<=p.X
def YY{N:Nat}(c:List B3)(o:c.length<=32):∀(n k:Nat),c.length<n+k->k<=c.length->∃v,Fm N c (IG N) n (k:Int)=some v/\(v=true->∀(i:Nat) p,k<=i->c[i]? =some p->KW p.R/\KW p.X/\∀q,0<i->c[i-1]? =some q->q.R<p.R/\q.X<=p.X)
 |0,k,A,s=>Ω
 |n+1,k,A,s=>by
  unfold Fm;by_cases g:k<c.length
  ·rw[show decide ((k:Int)<(c.length:Int))=true by simp;omega,Ago,BC g];simp only[Agm];cases t:(decide ((c[k]).R<0)||decide (1125899906842624<(c[k]).R)||decide ((c[k]).X<0)||decide (1125899906842624<(c[k]).X))
   ·simp only[Agq];simp only[Ahk,Ahd]at t;obtain⟨v,u,l⟩:=YY (N:=N) c o n (k+1) Ω Ω;have w:BO ((k:Int)+1)=((k+1:Nat):Int):=by rw[D6 Ω Ω];rfl
    rw[w,u];by_cases h0:0<k
    ·have x:BO ((k:Int)-1)=((k-1:Nat):Int):=by rw[D6 Ω Ω];omega
     rw[show decide ((0:Int)<(k:Int))=true by simp;omega,x,BC (show k-1<c.length from Ω)];simp only[Ago,Agm,HB];cases b:cond (decide ((c[k]).R<=(c[k-1]).R)) true (decide ((c[k]).X<(c[k-1]).X))
     ·simp only[Agq];refine⟨v,rfl,λd i p m a=>?_⟩;by_cases e:i=k
      ·subst e;have:p=c[i]:=by simpa[g]using a.symm
       subst this;refine⟨⟨Ω,Ω⟩,⟨Ω,Ω⟩,λq _ y=>?_⟩;have:q=c[i-1]:=by simpa[show i-1<c.length from Ω]using y.symm
       subst this;cases j:decide ((c[i]).R<=(c[i-1]).R)with
       |true=>rw[j]at b;simp at b
       |false=>
        rw[j]at b;simp only[Agq,Ahd]at b j;omega
      ·exact l d i p Ω a
     ·exact⟨false,rfl,λA=>by cases A⟩
    ·have z:k=0:=Ω
     subst z;rw[show decide ((0:Int)<((0:Nat):Int))=false by simp];simp only[Agq,Agm];refine⟨v,rfl,λd i p m a=>?_⟩;by_cases e:i=0
     ·subst e;have:p=c[0]:=by simpa[g]using a.symm
      subst this;exact⟨⟨Ω,Ω⟩,⟨Ω,Ω⟩,λq A _=>absurd A Ω⟩
     ·exact l d i p Ω a
   ·exact⟨false,rfl,λA=>by cases A⟩
  ·rw[show decide ((k:Int)<(c.length:Int))=false by simp;omega,Agq];refine⟨true,rfl,λ_ i p m a=>?_⟩;have:=(Ag0.1 a).1;omega
def K8(j:33<N)(c:List B3):∃v,Fo N c=some v/\(v=true->JW c):=by
 unfold Fo;cases a:(decide ((c.length:Int)<1)||decide (32<(c.length:Int)))
 ·simp only[Ahk,Ahd]at a;obtain⟨v,b,d⟩:=YY (N:=N) c Ω N 0 Ω Ω;exact⟨v,b,λg=>⟨Ω,Ω,λk p i=>d g k p Ω i⟩⟩
 ·exact⟨false,rfl,λl=>by cases l⟩
def UH(b:18446744073709551616<N){c:List B3}(l:1<=c.length)(m:c.length<=32)(x:Int):Df (J9 N c x):=by
 unfold J9;obtain⟨r,d,n,_⟩:=cV (N:=N) (λy=>Jq N c x y) c.length Ω Ω λi g=>by
  unfold Jq;rw[BC g];exact Df.mk _
 rw[d];simp only[Agm];refine Df.cond (λ_=>Df.bind (Df.ix Ω Ω) λ_ _=>Df.mk _) λj=>?_;simp only[Ahd]at j;have k:BO ((r:Int)-1)=((r-1:Nat):Int):=by rw[D6 Ω Ω];omega
 rw[k];refine Df.bind (Df.ix Ω Ω) λ_ _=>Df.cond (λ_=>Df.mk _) λa=>?_;simp only[Ahd]at a;exact Df.bind (Df.ix Ω Ω) λ_ _=>Df.bind (Df.ix Ω Ω) λ_ _=>Df.bind (iU b _ _ _) λ_ _=>Df.mk _
end Go.Proofs.YtabonambpbofgaaGreat
