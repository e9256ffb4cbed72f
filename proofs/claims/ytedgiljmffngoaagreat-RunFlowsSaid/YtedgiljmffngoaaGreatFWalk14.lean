import Derived.Test.YtedgiljmffngoaaGreatFFacts
import Derived.Test.YtedgiljmffngoaaGreatFForms
import Derived.Test.YtedgiljmffngoaaGreatFInst
import Derived.Test.YtedgiljmffngoaaGreatFSort5
import Derived.Test.YtedgiljmffngoaaGreatFWalk4
import Derived.Test.YtedgiljmffngoaaGreatFWalk12
import Derived.Test.YtedgiljmffngoaaGreatFWalk13
namespace Go.Proofs.YtedgiljmffngoaaGreat
set_option linter.all false
open Go.RowKit
open Go.Proofs.Tryz
set_option maxRecDepth 10000
set_option maxHeartbeats 2000000
variable {N:Nat}{S:Nat→Prop}{L:List HP}{h:AT}
def M6 (l:St S L h) {a:Value}{c:BY}(b:Rd S h Bu a c) {r:Bool}(E:I2 N c=some r):
 B0 prog 237 #[a] S h (λv S' h'=>v= .bool r∧St S' (L) h'):=by
 refine BA 112 func237 O ntmps237 O λB=>?_;rw[I2] at E;refine AU ?_;refine B4 O b CE O l λn S2 o m p q=>AU ?_;refine AF O E (λd E=>?_) (λd E=>?_)
 ·exact RT
 refine AU ?_;refine AF O E (λg E=>?_) (λg E=>?_)
 ·exact RT
 refine AU ?_;refine AF O E (λi E=>?_) (λi E=>?_)
 ·exact RT
 refine AU ?_;refine AF O E (λj E=>?_) (λj E=>?_)
 ·exact RT
 refine AU ?_;refine AF O E (λk E=>?_) (λk E=>?_)
 ·exact RT
 exact RT
def Ng (hs:St S L h) {k:Value}{l:AO}(t:Rd S h BW k l) {r:Bool}(E:Jj N l=some r):
 B0 prog 178 #[k] S h (λv S' h'=>v= .bool r∧St S' (L) h'):=by
 refine BA 51 func178 O ntmps178 O λB=>?_;rw[Jj] at E;refine AU ?_;refine B4 O t CE O hs λq1 S2 h3 a1 e5 k6=>?_;have k8:=k6.fl Ec;obtain⟨v9,_,a2⟩:=k8.ll;refine AU ?_;refine AK (λa w=>IV B S2 h3 (51,[]) a w [] (L) λ_ _=>GX N=some r) ?_ ?_
 ·refine AY (λn1=>λa w=>∃(p:Int),IV B S2 h3 (51,[]) a w [(7,vI (↑l.J.length:Int)),(6,v9),(1,q1),(8,vI p)] (L) λ_ _=>AA p∧Ez N l (GX N) n1 p=some r) N ?_ ?_ ?_
  ·intro z A q s;exact⟨0,_,_,q.sub (kp [7,6,1,8] O),s,a1,(B6.refl S2 h3),(iq (n:=0) O),E⟩
  ·rintro z A ⟨_,_,_,_,_,_,_,_,E⟩;rw[Ez] at E;cases E
  rintro n1 z A ⟨p,bv,bw,q,s,y,H,bx,E⟩;refine AI ?_ q s;clear q s A z;rw[Ez] at E;refine AU ?_;refine AF O E (λa3 E=>?_) (λa3 E=>?_)
  ·refine AU ?_;refine AZ (AU ?_);have a4:=a2.mono' H;refine A9 E O O a4 sl_24.1 O λI E bz a5=>?_;obtain⟨b0,_,a6⟩:=a5.lv;refine AU ?_;refine CG NC O y λb1 b2 K a7=>?_;have a8:=a6.mono a7;obtain⟨b3,b4,b5,rfl,M,C,u,D,Q,U,V,W,X,Y,Z,ab,ac,ad,ae,af,ag,F⟩:=Bu.ex a8;refine Dj O O O ON ty_117.1 O K .head O λb6 b m=>AU ?_;refine BZ (.inl O) b (AU ?_);refine BC E O O O E2 O (λah ai h' o=>B8 (St.all h') C (iq (n:=0) O) (iq (n:=5) O) ai) λah E=>AU ?_;obtain⟨aj,c,E⟩:=bd E;refine AS 8 24 (.bool aj) ?_ ?_
   ·cases ak:(!ah)
    ·have c:=Em ak c;have a9:=k6.nw;have ba:=a9.fl B3;obtain⟨b7,_,bb⟩:=ba.ll;have bc:=bb.le;refine AU ?_;refine BC c O O O Oa O (λbe am h' o=>Fm (St.all h') u (Jb bc) am) λbe c=>AU ?_;cases c;exact AQ O
    have c:=El ak c;cases c;exact A6 O O
   refine AU ?_;obtain⟨an,d,E⟩:=bd E;refine AS 8 33 (.bool an) ?_ ?_
   ·cases ao:aj
    ·have d:=Em ao d;have bf:=k6.nw;obtain⟨b8,_,bg⟩:=bf.lv;refine AU ?_;refine BC d O O O Vz O (λbh ap h' o=>MS (St.all h') (bg.mono (o.all b.1)) u D ap) λbh d=>AU ?_;cases d;exact AQ O
    have d:=El ao d;cases d;exact A6 O O
   refine AU ?_;obtain⟨aq,g,E⟩:=bd E;refine AS 5 39 (.bool aq) ?_ ?_
   ·cases ar:an
    ·have g:=Em ar g;refine AU ?_;refine BC g O O O E2 O (λbi au h' o=>B8 (St.all h') F (iq (n:=0) O) (iq (n:=240) O) au) λbi g=>AU ?_;cases g;exact AQ O
    have g:=El ar g;cases g;exact A6 O O
   refine AU ?_;obtain⟨av,i,E⟩:=bd E;refine AS 4 44 (.bool av) ?_ ?_
   ·cases aw:aq
    ·have i:=Em aw i;refine AU ?_;have bj:=Q.mono' m;have bk:=U.mono' m;have bl:=V.mono' m;obtain⟨b9,ax,i⟩:=bd i;refine Ht O O O ZO O (λh' o=>NA (St.all h') (Bu.mk (x:=I) M C u D (bj.mono' (o.all b.1)) (bk.mono' (o.all b.1)) (bl.mono' (o.all b.1)) W X Y Z ab ac ad ae af ag F) ax) (AU ?_);cases i;exact AQ O
    have i:=El aw i;cases i;exact A6 O O
   refine AU ?_;obtain⟨bm,j,E⟩:=bd E;refine AS 4 49 (.bool bm) ?_ ?_
   ·cases ay:av
    ·have j:=Em ay j;refine AU ?_;have bn:=Q.mono' m;have bo:=U.mono' m;have bp:=V.mono' m;obtain⟨ca,az,j⟩:=bd j;refine Ht O O O ZN O (λh' o=>M6 (St.all h') (Bu.mk (x:=I) M C u D (bn.mono' (o.all b.1)) (bo.mono' (o.all b.1)) (bp.mono' (o.all b.1)) W X Y Z ab ac ad ae af ag F) az) (AU ?_);cases j;exact AQ O
    have j:=El ay j;cases j;exact A6 O O
   refine BL (kp [49,7,6,1,8] O) λcb a0 cc=>AF O E (λbq E=>?_) (λbq E=>?_)
   ·exact RT
   refine AU ?_;refine BD (AU ?_);refine WF.nil (λz A q s=>?_);have G:=a0.drop .head;exact⟨(BG (p+1)),_,_,q.sub (kp [7,6,1,8] O),s,G,EX,(BF _),E⟩
  refine A8 O (λz A q s=>?_);exact⟨_,_,q.sub MC,s,y,H,E⟩
 rintro z A ⟨bs,bt,q,s,br,bu,E⟩;refine AI ?_ q s;clear q s A z;rw[GX] at E;exact RT
def Nh (l:St S L h) {c:Value}{i:AO}(d:Rd S h BW c i) {a:Int}(g:AA a) {b:Int}(j:AA b) {r:Bool}(E:K9 N i a b=some r):
 B0 prog 238 #[c,vI a,vI b] S h (λv S' h'=>v= .bool r∧St S' (L) h'):=by
 refine BA 27 func238 O ntmps238 O λB=>?_;rw[K9] at E;refine AU ?_;refine B4 O d CE O l λw S2 x m y n=>AU ?_;refine AF O E (λo E=>?_) (λo E=>?_)
 ·exact RT
 have p:=n.fl B3;obtain⟨q,_,k⟩:=p.ll;refine AU ?_;exact A9 E O O k sl_23.1 O λs E t u=>RT
def Mp (hs:St S L h) {m:Value}{d:AO}(u:Rd S h BW m d) {r:Bool}(E:Ib N d=some r):
 B0 prog 179 #[m] S h (λv S' h'=>v= .bool r∧St S' (L) h'):=by
 refine BA 60 func179 O ntmps179 O λB=>?_;rw[Ib] at E;refine AU ?_;refine B4 O u CE O hs λq1 S2 h3 ao e5 k6=>?_;have k8:=k6.fl B3;obtain⟨v9,_,ap⟩:=k8.ll;refine AU ?_;refine AK (λa w=>IV B S2 h3 (60,[]) a w [(1,q1)] (L) λ_ _=>Ff N d=some r) ?_ ?_
 ·refine AY (λn1=>λa w=>∃(p:Int),IV B S2 h3 (60,[]) a w [(10,vI (↑d.E.length:Int)),(9,v9),(1,q1),(11,vI p)] (L) λ_ _=>AA p∧EB N d (Ff N d) n1 p=some r) N ?_ ?_ ?_
  ·intro k l g j;exact⟨0,_,_,g.sub (kp [10,9,1,11] O),j,ao,(B6.refl S2 h3),(iq (n:=0) O),E⟩
  ·rintro k l ⟨_,_,_,_,_,_,_,_,E⟩;rw[EB] at E;cases E
  rintro n1 k l ⟨p,cf,cg,g,j,x,M,ch,E⟩;refine AI ?_ g j;clear g j l k;rw[EB] at E;refine AU ?_;refine AF O E (λaq E=>?_) (λaq E=>?_)
  ·refine AU ?_;refine AZ (AU ?_);have ar:=ap.mono' M;refine A9 E O O ar sl_23.1 O λci E cj au=>?_;obtain⟨ck,_,av⟩:=au.lv;refine AU ?_;refine CG Lv O x λcl cm Q aw=>?_;have ax:=av.mono aw;obtain⟨cn,co,cp,rfl,cq,cr,ay,cs,ct,cu,cv,cw,az,cx,cy,cz⟩:=BX.ex ax;refine Dj O O O ON ty_101.1 O Q .head O λc0 y c1=>AU ?_;refine BZ (.inl O) y ?_;have a0:=k6.nw;obtain⟨c2,_,a1⟩:=a0.lv;refine AU ?_;refine BC E O O O Vy O (λa2 U h' o=>Nh (St.all h') (a1.mono (o.all y.1)) ay az U) λa2 E=>AU ?_;refine BL (kp [21,10,9,1,11] O) λc3 V c4=>AF O E (λa3 E=>?_) (λa3 E=>?_)
   ·exact RT
   refine AU ?_;refine BD (AU ?_);refine WF.nil (λk l g j=>?_);have W:=V.drop .head;exact⟨(BG (p+1)),_,_,g.sub (kp [10,9,1,11] O),j,W,EX,(BF _),E⟩
  refine A8 O (λk l g j=>?_);exact⟨_,_,g.sub (kp [1] O),j,x,M,E⟩
 rintro k l ⟨F,G,g,j,X,a4,E⟩;refine AI ?_ g j;clear g j l k;rw[Ff] at E;have Y:=k6.mono a4;have a5:=Y.fl Ec;obtain⟨a6,_,a7⟩:=a5.ll;refine AU ?_;refine AK (λa w=>IV B F G (60,[]) a w [] (L) λ_ _=>Fe N=some r) ?_ ?_
 ·refine AY (λn3=>λa w=>∃(q:Int),IV B F G (60,[]) a w [(25,vI (↑d.J.length:Int)),(24,a6),(1,q1),(26,vI q)] (L) λ_ _=>AA q∧EA N d (Fe N) n3 q=some r) N ?_ ?_ ?_
  ·intro k l g j;exact⟨0,_,_,g.sub (kp [25,24,1,26] O),j,X,(B6.refl F G),(iq (n:=0) O),E⟩
  ·rintro k l ⟨_,_,_,_,_,_,_,_,E⟩;rw[EA] at E;cases E
  rintro n3 k l ⟨q,c5,c6,g,j,z,Z,c7,E⟩;refine AI ?_ g j;clear g j l k;rw[EA] at E;refine AU ?_;refine AF O E (λa8 E=>?_) (λa8 E=>?_)
  ·refine AU ?_;refine AZ (AU ?_);have a9:=a7.mono' Z;refine A9 E O O a9 sl_24.1 O λba E c8 bb=>?_;obtain⟨c9,_,bc⟩:=bb.lv;refine AU ?_;refine CG NC O z λda db ab be=>?_;have bf:=bc.mono be;obtain⟨bi,bj,bk,rfl,dc,dd,de,bg,bl,bm,bn,bo,bp,bq,br,bs,bt,bu,bv,bw,bx,bz⟩:=Bu.ex bf;refine Dj O O O ON ty_117.1 O ab .head O λb0 s b1=>?_;have t:=Y.nw;have ac:=t.fl B3;obtain⟨b2,_,ad⟩:=ac.ll;refine AU ?_;refine A9 E O O ad sl_23.1 O λb3 E b4 ae=>?_;have af:=ae.fl Mz;have ag:=af.i;refine AU ?_;refine BZ (.inl O) s ?_;obtain⟨b5,_,ah⟩:=t.lv;refine AU ?_;refine BC E O O O Vy O (λA H h' o=>Nh (St.all h') (ah.mono (o.all s.1)) ag bg H) λA E=>AU ?_;obtain⟨ai,b,E⟩:=bd E;refine AS 15 58 (.bool ai) ?_ ?_
   ·cases C:(!A)
    ·have b:=Em C b;refine AU ?_;obtain⟨aj,c,b⟩:=bd b;refine AS 10 57 (.bool aj) ?_ ?_
     ·cases D:(decide (ba.L=4))
      ·have c:=Em D c;cases c;exact A6 O O
      have c:=El D c;have ak:=t.fl B3;obtain⟨b6,_,am⟩:=ak.ll;refine AU ?_;refine A9 c O O am sl_23.1 O λb7 c b8 b9=>AU ?_;cases c;exact AQ O
     refine AU ?_;cases b;exact AQ O
    have b:=El C b;cases b;exact A6 O O
   refine BL (kp [58,25,24,1,26] O) λca I cb=>AF O E (λan E=>?_) (λan E=>?_)
   ·exact RT
   refine AU ?_;refine BD (AU ?_);refine WF.nil (λk l g j=>?_);have K:=I.drop .head;exact⟨(BG (q+1)),_,_,g.sub (kp [25,24,1,26] O),j,K,EX,(BF _),E⟩
  refine A8 O (λk l g j=>?_);exact⟨_,_,g.sub MC,j,z,Z,E⟩
 rintro k l ⟨cc,cd,g,j,bh,ce,E⟩;refine AI ?_ g j;clear g j l k;rw[Fe] at E;exact RT
def Gg (F:St S L h) {b:Int}(k:AA b) {c:Int}(l:AA c) {r:Int}(E:GA N b c=some r):
 B0 prog 239 #[vI b,vI c] S h (λv S' h'=>v=vI r∧AA r∧St S' (L) h'):=by
 refine BA 34 func239 O ntmps239 O λB=>?_;rw[GA] at E;refine AU ?_;refine AF O E (λG E=>?_) (λG E=>?_)
 ·exact RT
 refine AU ?_;refine AF O E (λH E=>?_) (λH E=>?_)
 ·exact RT
 refine AU ?_;refine BZ (.inl O) F (AU ?_);refine Ca O Jp Fi O ?_;obtain⟨s,t,E⟩:=bd E;refine G5 (v:= .tuple #[.int .u64 s.1,.int .u64 s.2]) (Ψ:=IntKind.has .u64 s.1∧IntKind.has .u64 s.2) O O O Vv O (λh' o=>(K0 (St.all h') (CT _ _) (show IntKind.has .u64 1099511627776 by first|assumption|exact⟨by decide,by decide⟩) t).mono λ_ _ _ _ p=>⟨p.1,⟨p.2.1,p.2.2.1⟩⟩) λI=>?_;obtain⟨J,K⟩:=I;refine AU ?_;refine BL (kp [6,5,1] O) λY u Z=>AU ?_;refine BZ (.inl O) u (AU ?_);refine Ca O Jp Fi O ?_;obtain⟨d,q,E⟩:=bd E;refine G5 (v:= .tuple #[.int .u64 d.1,.int .u64 d.2]) (Ψ:=IntKind.has .u64 d.1∧IntKind.has .u64 d.2) O O O Vu O (λh' o=>(K1 (St.all h') J K (CT _ _) q).mono λ_ _ _ _ p=>⟨p.1,⟨p.2.1,p.2.2.1⟩⟩) λx=>?_;obtain⟨y,M⟩:=x;refine AU ?_;refine BL (kp [8,7] O) λj i Q=>AU ?_;refine EZ (λa w=>∃(g:Int),IV B S j (34,[]) a w [(7,.int .u64 g)] (L) λ_ _=>IntKind.has .u64 g∧Iw N g=some r) ?_ ?_
 ·refine AF O E (λz E=>?_) (λz E=>?_)
  ·refine AU ?_;refine WF.nil (λA C m n=>?_);exact⟨(IntKind.wrap .u64 (d.1+1)),_,_,m.sub (kp [7] O),n,i,(B6.refl S j),(CT _ _),E⟩
  refine AU ?_;refine WF.nil (λA C m n=>?_);exact⟨d.1,_,_,m.sub (kp [7] O),n,i,(B6.refl S j),y,E⟩
 rintro A C ⟨g,U,V,m,n,D,W,X,E⟩;refine AI ?_ m n;clear m n C A;rw[Iw] at E;refine AU ?_;exact Ca O Fi Jp O (RT)
def Of (hs:St S L h) {c:Value}{b:(List (List CP))}(i:Sl S h (BB.sl B9) c b) {r:Int}(E:KV N b=some r):
 B0 prog 240 #[c] S h (λv S' h'=>v=vI r∧AA r∧St S' (L) h'):=by
 refine BA 48 func240 O ntmps240 O λB=>?_;rw[KV] at E;refine AU ?_;refine AK (λa w=>∃(J:Int),IV B S h (48,[]) a w [(3,vI J)] (L) λ_ _=>AA J∧Ef N J=some r) ?_ ?_
 ·refine AY (λK=>λa w=>∃(A:Int) (j:Int),IV B S h (48,[]) a w [(8,vI (↑b.length:Int)),(7,c),(3,vI A),(9,vI j)] (L) λ_ _=>AA A∧AA j∧Di N b (Ef N) K A j=some r) N ?_ ?_ ?_
  ·intro k l d g;exact⟨0,0,_,_,d.sub (kp [8,7,3,9] O),g,hs,(B6.refl S h),(iq (n:=0) O),(iq (n:=0) O),E⟩
  ·rintro k l ⟨_,_,_,_,_,_,_,_,_,_,E⟩;rw[Di] at E;cases E
  rintro K k l ⟨A,j,y,z,d,g,u,C,r9,ah,E⟩;refine AI ?_ d g;clear d g l k;rw[Di] at E;refine AU ?_;refine AF O E (λM E=>?_) (λM E=>?_)
  ·refine AU ?_;refine AK (λa w=>∃(q:Int),IV B y z (48,[]) a w [(8,vI (↑b.length:Int)),(7,c),(9,vI j),(3,vI q)] (L) λ_ _=>AA q∧HG N j (Di N b (Ef N) K) q=some r) ?_ ?_
   ·refine AU ?_;have Q:=i.mono' C;refine A9 E O O Q sl_354.1 O λU E ai V=>?_;obtain⟨W,_,s⟩:=V.ll;refine AU ?_;refine AZ (AY (λn3=>λa w=>∃(m:Int) (t:Int),IV B y z (48,[]) a w [(5,W),(8,vI (↑b.length:Int)),(7,c),(9,vI j),(3,vI m),(6,vI t)] (L) λ_ _=>AA m∧AA t∧Fu N U (HG N j (Di N b (Ef N) K)) n3 m t=some r) N ?_ ?_ ?_)
    ·intro k l d g;exact⟨A,1,_,_,d.sub (kp [5,8,7,9,3,6] O),g,u,(B6.refl y z),r9,(iq (n:=1) O),E⟩
    ·rintro k l ⟨_,_,_,_,_,_,_,_,_,_,E⟩;rw[Fu] at E;cases E
    rintro n3 k l ⟨m,t,aj,ak,d,g,x,p,D,al,E⟩;refine AI ?_ d g;clear d g l k;rw[Fu] at E;have am:=s.mono' p;refine AU ?_;refine AF O E (λX E=>?_) (λX E=>?_)
    ·refine AU ?_;refine AZ (BZ (.inr ⟨mo,by kernel_rfl⟩) x (AU ?_));have Y:=s.mono' p;refine A9 E O O Y sl_98.1 O λan E ao ap=>AU ?_;have Z:=s.mono' p;refine A9 E O O Z sl_98.1 O λaq E ar au=>AU ?_;have ab:=s.mono' p;refine A9 E O O ab sl_98.1 O λav E aw ax=>AU ?_;have ac:=s.mono' p;refine A9 E O O ac sl_98.1 O λay E az a0=>AU ?_;refine CC E O O O PU O (λF G h' o=>Gg (St.all h') (BF _) (BF _) G) λF E ad=>?_;have ae:=ad;refine Qk O O O (AU ?_);refine BL (kp [3,5,8,7,9,6] O) λa1 H a2=>BD (AU ?_);refine WF.nil (λk l d g=>?_);exact⟨(max m F),(BG (t+1)),_,_,d.sub (kp [5,8,7,9,3,6] O),g,H,EX,(PQ D ae),(BF _),E⟩
    refine JI O (WF.nil (λk l d g=>?_));exact⟨m,_,_,d.sub (kp [8,7,9,3] O),g,x,p,D,E⟩
   rintro k l ⟨q,a3,a4,d,g,I,a5,af,E⟩;refine AI ?_ d g;clear d g l k;rw[HG] at E;refine AU ?_;refine WF.nil (λk l d g=>?_);exact⟨q,(BG (j+1)),_,_,d.sub (kp [8,7,3,9] O),g,I,EX,af,(BF _),E⟩
  refine A8 O (λk l d g=>?_);exact⟨A,_,_,d.sub (kp [3] O),g,u,C,r9,E⟩
 rintro k l ⟨J,a6,a7,d,g,ag,a8,r3,E⟩;refine AI ?_ d g;clear d g l k;rw[Ef] at E;exact RT
end Go.Proofs.YtedgiljmffngoaaGreat
