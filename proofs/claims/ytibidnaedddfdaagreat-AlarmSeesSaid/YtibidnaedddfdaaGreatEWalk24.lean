import Derived.Test.YtibidnaedddfdaaGreatEFacts
import Derived.Test.YtibidnaedddfdaaGreatEForms
import Derived.Test.YtibidnaedddfdaaGreatEInsert
import Derived.Test.YtibidnaedddfdaaGreatEWalk22
namespace Go.Proofs.YtibidnaedddfdaaGreat
set_option linter.all false
open Go.RowKit
open Go.Proofs.Tryz
set_option maxRecDepth 10000
set_option maxHeartbeats 2000000
variable {N:Nat}{S:Nat→Prop}{L:List HP}{h:AX}
def Qb (hs:St S L h) {x:Value}{d:Ci}(H:Rd S h GR x d) {b:Int}(K:AA b) {c:Int}(I:AA c) {r:(List AB)}(E:KB N d b c=some r):
 CD prog 135 #[x,vI b,vI c] S h (λv S' h'=>St S' (OS AC 51 v r::L) h'):=by
 refine A7 65 func135 O ntmps135 O λB=>?_;rw[KB] at E;refine AU ?_;refine AT O H CE O hs λq1 S2 h3 ag e5 k6=>AU ?_;refine AE O E (λc8 E=>?_) (λc8 E=>?_)
 ·refine AU ?_;have ay:=ag.nil AC 51;cases E;exact Kt ay O O EX
 refine AU ?_;refine AQ (λa w=>∃(M:Value) (Q:List AB),IV B S2 h3 (65,[]) a w [(7,M)] (OS AC 51 M Q::L) λ_ _=>DV N Q=some r) ?_ ?_
 ·refine BJ (λn1=>λa w=>∃(o:Value) (m:List AB) (j:Int),IV B S2 h3 (65,[]) a w [(3,q1),(1,vI b),(2,vI c),(7,o),(8,vI j)] (OS AC 51 o m::L) λ_ _=>AA j∧DU N d b c (DV N) n1 m j=some r) N ?_ ?_ ?_
  ·intro p q g i;have ah:=ag.nil AC 51;exact⟨(vN),([]:List AB),0,_,_,g.sub (kp [3,1,2,7,8] O),i,ah,(Cc.refl S2 h3),(iq (n:=0) O),E⟩
  ·rintro p q ⟨_,_,_,_,_,_,_,_,_,_,E⟩;rw[DU] at E;cases E
  rintro n1 p q ⟨o,m,j,U,bx,g,i,J,az,bz,E⟩;refine AI ?_ g i;clear g i q p;rw[DU] at E;refine AU ?_;refine AE O E (λa0 E=>?_) (λa0 E=>?_)
  ·refine AU ?_;refine BQ (AU ?_);refine B6 (cs:=[vI 0,vI 0]) Fv O O O (AU ?_);refine BZ EA O J λy b0 ai b1=>?_;refine AW O O O O ty_51.1 O ai .head O λV aj b2=>AU ?_;refine AQ (λa w=>∃(t:Int) (u:Int),IV B U V (65,[]) a w [(9,vP y 0),(3,q1),(1,vI b),(2,vI c),(7,o),(8,vI j)] (Bx y 51 [vI t,vI u]::OS AC 51 o m::L) λ_ _=>AA t∧AA u∧Hy N m j (DU N d b c (DV N) n1) t u=some r) ?_ ?_
   ·refine BJ (λn3=>λa w=>∃(s:Int) (z:Int) (C:Int),IV B U V (65,[]) a w [(9,vP y 0),(3,q1),(1,vI b),(2,vI c),(7,o),(8,vI j),(10,vI s)] (Bx y 51 [vI z,vI C]::OS AC 51 o m::L) λ_ _=>AA s∧AA z∧AA C∧DT N d b j (Hy N m j (DU N d b c (DV N) n1)) n3 s z C=some r) N ?_ ?_ ?_
    ·intro p q g i;exact⟨0,0,0,_,_,g.sub (kp [9,3,1,2,7,8,10] O),i,aj,(Cc.refl U V),(iq (n:=0) O),(iq (n:=0) O),(iq (n:=0) O),E⟩
    ·rintro p q ⟨_,_,_,_,_,_,_,_,_,_,_,_,E⟩;rw[DT] at E;cases E
    rintro n3 p q ⟨s,z,C,ak,am,g,i,D,a1,b3,an,ao,E⟩;refine AI ?_ g i;clear g i q p;rw[DT] at E;have ap:=k6.nw;refine AU ?_;refine AE O E (λa2 E=>?_) (λa2 E=>?_)
    ·refine AU ?_;refine AQ (λa w=>∃(F:Int) (G:Int),IV B ak am (65,[]) a w [(9,vP y 0),(3,q1),(1,vI b),(2,vI c),(7,o),(8,vI j),(10,vI s)] (Bx y 51 [vI F,vI G]::OS AC 51 o m::L) λ_ _=>AA F∧AA G∧Is N s (DT N d b j (Hy N m j (DU N d b c (DV N) n1)) n3) F G=some r) ?_ ?_
     ·refine AU ?_;obtain⟨a3,k,E⟩:=bd E;refine A6 9 51 (.bool a3) ?_ ?_
      ·cases aq:((decide (d.P≤b))&&(decide ((BR (b-d.P))=s)))
       ·have k:=H8 aq k;cases k;exact BO O O
       have k:=H7 aq k;have a4:=ap.fl Ci.f_Rain;obtain⟨b4,_,a5⟩:=a4.ll;refine AU ?_;refine AN k O O a5 sl_121.1 O λb5 k b6 b7=>AU ?_;cases k;exact A5 O
      refine AU ?_;refine AE O E (λa6 E=>?_) (λa6 E=>?_)
      ·have a7:=ap.fl Ci.f_Rain;obtain⟨b8,_,a8⟩:=a7.ll;refine AU ?_;refine AN E O O a8 sl_121.1 O λb9 E ca a9=>?_;obtain⟨cb,_,ba⟩:=a9.ll;refine AU ?_;refine AN E O O ba sl_32.1 O λar E cc bb=>?_;obtain⟨cd,_,bc⟩:=bb.lv;refine AU ?_;obtain⟨rfl,⟨au,av⟩⟩:=AC.ex bc;refine AW O O O O ty_51.1 O D .head O λbi W aw=>AU ?_;refine WF.nil (λp q g i=>?_);exact⟨ar.B,ar.A,_,_,g.sub (kp [9,3,1,2,7,8,10] O),i,W,aw,au,av,E⟩
      refine AU ?_;refine WF.nil (λp q g i=>?_);exact⟨z,C,_,_,g.sub (kp [9,3,1,2,7,8,10] O),i,D,(Cc.refl ak am),an,ao,E⟩
     rintro p q ⟨F,G,bj,bk,g,i,X,bl,be,bf,E⟩;refine AI ?_ g i;clear g i q p;rw[Is] at E;refine AU ?_;refine WF.nil (λp q g i=>?_);exact⟨(BR (s+1)),F,G,_,_,g.sub (kp [9,3,1,2,7,8,10] O),i,X,EX,(B1 _),be,bf,E⟩
    refine WF.exit O (λp q g i=>?_);exact⟨z,C,_,_,g.sub (kp [9,3,1,2,7,8] O),i,D,a1,an,ao,E⟩
   rintro p q ⟨t,u,bm,bn,g,i,Y,bo,bg,bh,E⟩;refine AI ?_ g i;clear g i q p;rw[Hy] at E;refine AU ?_;refine Io (cs:=[vI t,vI u]) Nw O O O O O O O Y λbp bq Z br=>?_;obtain⟨ab,E⟩:=RM E;refine J2 (r:=AC) (l:=m) (xs:=([(⟨t,u⟩:AB)]:List AB)) O O Nw O mh ⟨_,_,O,⟨O,⟨bg,bh⟩⟩,O⟩ O O ab O Z (λ_=>(.tail (.tail .head))) λax bs ac bt=>?_;have ad:=ac.drop .head;refine AU ?_;refine B3 (AU ?_);refine WF.nil (λp q g i=>?_);have ae:=ad.sel [1] 1 O;exact⟨ax,(m++([(⟨t,u⟩:AB)]:List AB)),(BR (j+1)),_,_,g.sub (kp [3,1,2,7,8] O),i,ae,EX,(B1 _),E⟩
  refine WF.exit O (λp q g i=>?_);exact⟨o,m,_,_,g.sub (kp [7] O),i,J,az,E⟩
 rintro p q ⟨M,Q,bu,bv,g,i,af,bw,E⟩;refine AI ?_ g i;clear g i q p;rw[DV] at E;refine AU ?_;cases E;exact Kt af O O EX
def Ok (hs:St S L h) {ah:Value}{y:AF}(bf:Rd S h B7 ah y) {ai:Value}{Z:Dr}(bg:Rd S h Dn ai Z) {aj:Value}{Q:BV}(bh:Rd S h DL aj Q) {ak:Value}{H:Ci}(bi:Rd S h GR ak H) {z:Value}{G:(List BT)}(U:Sl S h D2 z G) {l:Value}{q:(List Bool)}(ag:Sl S h BU.bool l q) {g:Int}(bt:AA g) {r:Int}(E:Hx N y Z Q H G q g=some r):
 CD prog 81 #[ah,ai,aj,ak,z,l,vI g] S h (λv S' h'=>v=vI r∧AA r∧St S' (L) h'):=by
 refine A7 65 func81 O ntmps81 O λB=>?_;rw[Hx] at E;refine AU ?_;refine AT O bf CE O hs λq1 S2 h3 f2 e5 k6=>?_;have k7:=bg.mono e5;refine AT O k7 CE O f2 λq8 S9 ij cv ik f3=>?_;have f4:=bh.nw;obtain⟨f5,f6,f7,rfl,f8,f9,ga,gb⟩:=DL.ex f4;refine NF O O O cv λan il cw im=>?_;have gc:=bi.nw;refine AT O gc CE O cw λcb cc cd cx io ge=>AU ?_;refine AQ (λa w=>IV B cc cd (65,[]) a w [] (L) λ_ _=>FK N=some r) ?_ ?_
 ·refine BJ (λn1=>λa w=>∃(ab:Int) (J:Int) (ao:Value) (ap:List AB) (aq:Value) (ar:List AZ) (au:Value) (av:List AH),IV B cc cd (65,[]) a w [(10,cb),(9,vP an 0),(8,q8),(7,q1),(4,z),(5,l),(6,vI g),(15,vI ab)] (Bx an 36 [vI J,ao,aq,au]::L) λS' h'=>AA ab∧AA J∧Sl S' h' AC ao ap∧Sl S' h' BS aq ar∧Sl S' h' AM au av∧Cs N y Z H G q g (FK N) n1 ab J ap ar av=some r) N ?_ ?_ ?_
  ·intro aa ww M Y;have gf:=f9.nw;have gg:=ga.nw;have gh:=gb.nw;exact⟨0,Q.I,f5,Q.K,f6,Q.N,f7,Q.D,_,_,M.sub (kp [10,9,8,7,4,5,6,15] O),Y,cx,(Cc.refl cc cd),(iq (n:=0) O),f8,gf,gg,gh,E⟩
  ·rintro aa ww ⟨_,_,_,_,_,_,_,_,_,_,_,_,_,_,_,_,_,_,_,E⟩;rw[Cs] at E;cases E
  rintro n1 aa ww ⟨ab,J,ao,ap,aq,ar,au,av,cy,ip,M,Y,bu,gi,ir,cz,gj,gk,gl,E⟩;refine AI ?_ M Y;clear M Y ww aa;rw[Cs] at E;refine AU ?_;refine AE O E (λgm E=>?_) (λgm E=>?_)
  ·refine AU ?_;refine BQ (AU ?_);refine B6 (cs:=[vN,vN,vN,vN,vN]) fU O O O (AU ?_);refine BZ fQ O bu λce it c0 iu=>?_;refine AW O O O O ty_42.1 O c0 .head O λc1 bv iv=>?_;have iw:=U.nw;refine AU ?_;refine Er (λa w=>∃(bj:Value) (bk:List Int) (bl:Value) (bm:List KF) (bn:Value) (bo:List Nl) (bp:Value) (bq:List IL) (br:Value) (bs:List L3),IV B cy c1 (65,[]) a w [(16,vP ce 0),(10,cb),(9,vP an 0),(8,q8),(7,q1),(4,z),(5,l),(6,vI g),(15,vI ab)] (Bx ce 42 [bj,bl,bn,bp,br]::Bx an 36 [vI J,ao,aq,au]::L) λS' h'=>Sl S' h' AY bj bk∧Sl S' h' JB bl bm∧Sl S' h' KI bn bo∧Sl S' h' FX bp bq∧Sl S' h' KZ br bs∧Gk N y Z H q ab J ap ar av (Cs N y Z H G q g (FK N) n1) bk bm bo bq bs=some r) ?_ ?_
   ·refine AE O E (λgn E=>?_) (λgn E=>?_)
    ·refine AU ?_;have gp:=U.nw;refine AN E O O gp sl_60.1 O λaw E iy c2=>?_;obtain⟨gz,_,c3⟩:=c2.lv;refine AU ?_;obtain⟨c4,c5,c6,c7,c8,rfl,c9,da,db,dc,dd⟩:=D2.ex c3;refine Hv O O O ON ty_42.1 O bv .head O λg0 cf V=>AU ?_;refine WF.nil (λaa ww M Y=>?_);have de:=c9.mono' V;have df:=da.mono' V;have dg:=db.mono' V;have dh:=dc.mono' V;have di:=dd.mono' V;exact⟨c4,aw.Am,c5,aw.Bc,c6,aw.Bb,c7,aw.Ag,c8,aw.Bq,_,_,M.sub (kp [16,10,9,8,7,4,5,6,15] O),Y,cf,V,de,df,dg,dh,di,E⟩
    refine AU ?_;refine WF.nil (λaa ww M Y=>?_);exact⟨vN,[],vN,[],vN,[],vN,[],vN,[],_,_,M.sub (kp [16,10,9,8,7,4,5,6,15] O),Y,bv,(Cc.refl cy c1),(.inl ⟨O,O⟩),(.inl ⟨O,O⟩),(.inl ⟨O,O⟩),(.inl ⟨O,O⟩),(.inl ⟨O,O⟩),E⟩
   rintro aa ww ⟨bj,bk,bl,bm,bn,bo,bp,bq,br,bs,j,u,M,Y,c,g1,gq,gr,gs,gu,gv,E⟩;refine AI ?_ M Y;clear M Y ww aa;rw[Gk] at E;refine AU ?_;obtain⟨bw,cg,E⟩:=bd E;obtain⟨d,ch,E⟩:=bd E;refine Xz (m:=[(16,vP ce 0),(10,cb),(9,vP an 0),(8,q8),(7,q1),(4,z),(5,l),(6,vI g),(15,vI ab)]) [17,18,19] [14,15] [16] (λX i v t=>match i with|0=>Rd j t B7 v y|1=>v= .agg #[vI J,ao,aq,au]∧AA J|2=>v= .agg #[bj,bl,bn,bp,br]|3=>Sl j t BU.bool v q|4=>Rd j t GR v H|5=>v=vP an 0|6=>v=vI J∧AA J|7=>Pt j t (BU.sl B4) v y.E|8=>Sl j t B4 v y.E|9=>v=vI (↑y.E.length:Int)∧AA (↑y.E.length:Int)|10=>Sl (SX j u t X) t AC v bw|11=>∃w0 w1 w2:Value,v= .tuple #[w0,w1,w2]∧(Rd (SX j u t X) t DL w0 d.1)∧(Sl (SX j u t X) t AC w1 d.2.1)∧(Sl (SX j u t X) t AC w2 d.2.2)|12=>∃w0 w1 w2:Value,v= .tuple #[w0,w1,w2]∧(Rd (SX j u t X) t DL w0 d.1)∧(Sl (SX j u t X) t AC w1 d.2.1)∧(Sl (SX j u t X) t AC w2 d.2.2)|13=>Rd (SX j u t X) t DL v d.1|14=>Sl (SX j u t X) t AC v d.2.1|15=>Sl (SX j u t X) t AC v d.2.2|16=>RP u 36 [vI 0,vN,vN,vN] v t|_=>False) [[],[],[],[],[],[],[(5,44)],[],[(7,46)],[(8,47)],[(4,43),(6,45),(9,48)],[(0,39),(1,40),(2,41),(3,42),(10,49)],[(11,50)],[(12,38)],[(12,38)],[(12,38)],[],[],[],[]] [(13,51),(14,52),(15,53),(16,17)] mo (by kernel_rfl) [16,10,9,8,7,4,5,6,15] O (by kernel_rfl) (by kernel_rfl) (by kernel_rfl) O (kp [16,10,9,8,7,4,5,6,15] O) (λi v h1 h2 X X' o1 o2 u1 u2 C=>?_) (by kernel_rfl) (WC (T:=36) (λ_=>rfl) Xw) ?_ ?_ ?_
   ·match i,C with
     |0,C|4,C=>exact(Rd.mono C (o2.ext λb hb=>vB (c.1 b hb) o1.siz))
     |1,C|2,C|5,C|6,C|9,C=>exact C
     |3,C|8,C=>exact(Sl.mono' C (o2.ext λb hb=>vB (c.1 b hb) o1.siz))
     |7,C=>exact(NK.mono C (o2.ext λb hb=>vB (c.1 b hb) o1.siz))
     |10,C|14,C|15,C=>exact(Sl.mono' C (SX.mono c.1 o1 o2 u1 u2))
     |11,C|12,C=>obtain⟨w0,w1,w2,e,k0,k1,k2⟩:=C;exact⟨w0,w1,w2,e,(Rd.mono k0 (SX.mono c.1 o1 o2 u1 u2)),(Sl.mono' k1 (SX.mono c.1 o1 o2 u1 u2)),(Sl.mono' k2 (SX.mono c.1 o1 o2 u1 u2))⟩
     |13,C=>exact(Rd.mono C (SX.mono c.1 o1 o2 u1 u2))
     |16,C=>exact C.mono o2
     |_+17,C=>exact C.elim
   ·refine Oa.cons [(12,38)] (by kernel_rfl) O O (by kernel_rfl) ?_ ?_
    ·intro X mq t o;intro g2 dj;obtain⟨dk,bx,dl,rfl,bz,ax,b0⟩:=dj;have bz:Rd _ _ DL dk d.1:=bz;have ax:Sl _ _ AC bx d.2.1:=ax;have b0:Sl _ _ AC dl d.2.2:=b0;intro a M;exact⟨bx,Mv M O O,ax⟩
    refine Oa.cons [(12,38)] (by kernel_rfl) O O (by kernel_rfl) ?_ ?_
    ·intro X mq t o;intro g3 dm;obtain⟨dn,dp,b1,rfl,b2,b3,ay⟩:=dm;have b2:Rd _ _ DL dn d.1:=b2;have b3:Sl _ _ AC dp d.2.1:=b3;have ay:Sl _ _ AC b1 d.2.2:=ay;intro a M;exact⟨b1,Mv M O O,ay⟩
    exact trivial
   ·refine Eo.cons O O O ?_ ?_
    ·intro X mq t o F;have A:=o.st c;have dq:=k6.nw;obtain⟨g4,_,dr⟩:=dq.lv;refine AU ?_;exact B0 dr
    refine Eo.cons O O O ?_ ?_
    ·intro X mq t o F;have A:=o.st c;refine AU ?_;exact B0 ⟨O,cz⟩
    refine Eo.cons O O O ?_ ?_
    ·intro X mq t o F;have A:=o.st c;refine AU ?_;exact B0 O
    refine Eo.cons O O O ?_ ?_
    ·intro X mq t o F;have A:=o.st c;refine AU ?_;have ds:=ag.nw;exact B0 ds
    refine Eo.cons O O O ?_ ?_
    ·intro X mq t o F;have A:=o.st c;have dt:=ge.nw;obtain⟨g5,_,du⟩:=dt.lv;refine AU ?_;exact B0 du
    refine Eo.cons O O O ?_ ?_
    ·intro X mq t o F;have A:=o.st c;refine AU ?_;exact B0 O
    refine Eo.cons O O O ?_ ?_
    ·intro X mq t o F;intro g6 dv;have A:=o.st c;cases dv;refine AU ?_;exact B0 ⟨O,cz⟩
    refine Eo.cons O O O ?_ ?_
    ·intro X mq t o F;have A:=o.st c;have dw:=k6.nw;have dx:=dw.fl Ck;refine AU ?_;exact B0 dx
    refine Eo.cons O O O ?_ ?_
    ·intro X mq t o F;intro dy az;have A:=o.st c;have az:Pt _ _ (BU.sl B4) dy y.E:=az;obtain⟨g7,_,dz⟩:=az.ll;refine AU ?_;exact B0 dz
    refine Eo.cons O O O ?_ ?_
    ·intro X mq t o F;intro d0 a0;have A:=o.st c;have a0:Sl _ _ B4 d0 y.E:=a0;have d1:=a0.le;refine AU ?_;exact B0 ⟨O,(M0 d1)⟩
    refine Eo.cons O O O ?_ ?_
    ·intro X mq t o F;intro d2 ac g8 d3 g9 d4;have A:=MA (X:=X) c o;have ac:=Rd.mono (S':=(SX j u t X)) ac ⟨λb hb=>(SX.ext c.1 o F).sub b hb,λ_ _=>rfl,uW _⟩;have ac:Rd _ _ GR d2 H:=ac;obtain⟨rfl,d5⟩:=d3;obtain⟨rfl,d6⟩:=d4;have a1:=A.fz;refine EQ O O O lI O a1 (Qb (St.all _) (ac.mono a1.ea) d5 d6 cg) λha hc hd gw he d7 p=>?_;have ci:=p;have a2:=a1.join d7 ci ⟨OS.flat (λ{_ _ _ _ _ _} k=>k),trivial⟩;simp only[wZ,wB] at a2;obtain⟨hg,cj,hi,d8⟩:=a2.pubs .head;have a3:=SX.done o F EX cj;exact EB a3.1 (Sl.mono' d8 a3.2)
    refine Eo.cons O O O ?_ ?_
    ·intro X mq t o F;intro d9 ad hj eb hk ec ed af ee a4;have A:=MA (X:=X) c o;have ad:=Rd.mono (S':=(SX j u t X)) ad ⟨λb hb=>(SX.ext c.1 o F).sub b hb,λ_ _=>rfl,uW _⟩;have ad:Rd _ _ B7 d9 y:=ad;obtain⟨rfl,ef⟩:=eb;cases ec;have af:=Sl.mono' (S':=(SX j u t X)) af ⟨λb hb=>(SX.ext c.1 o F).sub b hb,λ_ _=>rfl,uW _⟩;have af:Sl _ _ BU.bool ed q:=af;have a4:Sl _ _ AC ee bw:=a4;have a1:=A.fz;have eg:=gj.nw;have eh:=gk.nw;have ei:=gl.nw;have ej:=gq.mono' (SX.ext c.1 o F);have ek:=gr.mono' (SX.ext c.1 o F);have el:=gs.mono' (SX.ext c.1 o F);have em:=gu.mono' (SX.ext c.1 o F);have en:=gv.mono' (SX.ext c.1 o F);refine LP O O O rC O (PQ a1 ad (DL.mk (x:=(⟨J,ap,ar,av⟩:BV)) ef eg eh ei) (D2.mk (x:=(⟨bk,bm,bo,bq,bs⟩:BT)) ej ek el em en) af a4 ch) λhl hm hn ho p=>?_;obtain⟨hp,hq,ht,rfl,eo,ck⟩:=p;obtain⟨hu,cl,hv,ep⟩:=ck.pubs .head;obtain⟨hx,cm,eq,er⟩:=cl.pubs .head;have es:=eo.nw;have eu:=ep.mono' eq;have W:=SX.done o F EX cm;exact EB W.1 ⟨_,_,_,O,(Rd.mono es W.2),(Sl.mono' eu W.2),(Sl.mono' er W.2)⟩
    refine Eo.cons O O O ?_ ?_
    ·intro X mq t o F;intro hy ev;have A:=MA (X:=X) c o;obtain⟨ew,ey,ez,rfl,a5,a6,a7⟩:=ev;have a5:Rd _ _ DL ew d.1:=a5;have a6:Sl _ _ AC ey d.2.1:=a6;have a7:Sl _ _ AC ez d.2.2:=a7;refine AU ?_;exact B0 ⟨_,_,_,O,a5,a6,a7⟩
    refine Eo.cons O O O ?_ ?_
    ·intro X mq t o F;intro hz e0;have A:=MA (X:=X) c o;obtain⟨e1,e2,e3,rfl,a8,b4,b5⟩:=e0;have a8:Rd _ _ DL e1 d.1:=a8;have b4:Sl _ _ AC e2 d.2.1:=b4;have b5:Sl _ _ AC e3 d.2.2:=b5;refine AU ?_;exact B0 a8
    refine Eo.cons O O O ?_ ?_
    ·intro X mq t o F;intro h0 e4;have A:=MA (X:=X) c o;obtain⟨e6,e7,e8,rfl,b6,a9,b7⟩:=e4;have b6:Rd _ _ DL e6 d.1:=b6;have a9:Sl _ _ AC e7 d.2.1:=a9;have b7:Sl _ _ AC e8 d.2.2:=b7;refine AU ?_;exact B0 a9
    refine Eo.cons O O O ?_ ?_
    ·intro X mq t o F;intro h4 e9;have A:=MA (X:=X) c o;obtain⟨fa,fb,fc,rfl,b8,b9,ba⟩:=e9;have b8:Rd _ _ DL fa d.1:=b8;have b9:Sl _ _ AC fb d.2.1:=b9;have ba:Sl _ _ AC fc d.2.2:=ba;refine AU ?_;exact B0 ba
    exact Eo.al (λ_=>rfl) VM O (Eo.skip (by kernel_rfl) (Eo.skip (by kernel_rfl) (Eo.skip (by kernel_rfl) (trivial))))
   intro h5 h6 fd cn fe bb ff bc fg ca h7 fh gx co;obtain⟨h8,rfl,fi,fj,fk⟩:=fh;have cp:=(cO.cons (cO.nil c fd cn) fi fj fk vD (co.at_ (s:=17) (by kernel_rfl) O O)).st;have bb:Rd _ _ DL fe d.1:=bb;have bc:Sl _ _ AC ff d.2.1:=bc;have ca:Sl _ _ AC fg d.2.2:=ca;obtain⟨fm,fn,fo,rfl,fp,fq,fr,fs⟩:=DL.ex bb;refine Hv O O O ON ty_36.1 O cp .head O λh9 cq am=>AU ?_;refine Ix (.inr ⟨mo,by kernel_rfl⟩) ?_;have ia:=f3.nw;refine AU ?_;have ft:=bc.mono' am;refine AN E O O ft sl_32.1 O λib E ic id=>AU ?_;refine AE O E (λfu E=>?_) (λfu E=>?_)
   ·exact RT
   refine AU ?_;have fv:=fs.mono' am;have fw:=fr.mono' am;have fx:=fq.mono' am;refine Hv O O O ON ty_36.1 O cq (.tail (.tail .head)) O λie cr be=>AU ?_;refine B3 (AU ?_);refine WF.nil (λaa ww M Y=>?_);have ct:=cr.sel [2] 2 O;have fy:=fx.mono' be;have f0:=fw.mono' be;have f1:=fv.mono' be;exact⟨(BR (ab+1)),d.1.I,fm,d.1.K,fn,d.1.N,fo,d.1.D,_,_,M.sub (kp [10,9,8,7,4,5,6,15] O),Y,ct,EX,(B1 _),fp,fy,f0,f1,E⟩
  refine WF.exit O (λaa ww M Y=>?_);have cu:=bu.drop .head;exact⟨_,_,M.sub Ob,Y,cu,gi,E⟩
 rintro aa ww ⟨ig,ih,M,Y,gy,ii,E⟩;refine AI ?_ M Y;clear M Y ww aa;rw[FK] at E;exact RT
def Oj (hs:St S L h) {G:Value}{u:AF}(Y:Rd S h B7 G u) {c:Int}(ad:AA c) {H:Value}{x:BV}(Z:Rd S h DL H x) {i:Value}{q:(List Ci)}(s:Sl S h GR i q) {g:Value}{p:(List BT)}(I:Sl S h D2 g p) {d:Value}{j:(List Bool)}(D:Sl S h BU.bool d j) {b:Int}(y:AA b) {r:Do}(E:Hw N u c x q p j b=some r):
 CD prog 32 #[G,vI c,H,i,g,d,vI b] S h (λv S' h'=>v= .agg #[vI r.Au,.bool r.Ay]∧Do.ok r∧St S' (L) h'):=by
 refine A7 70 func32 O ntmps32 O λB=>?_;rw[Hw] at E;refine AU ?_;refine AT O Y CE O hs λq1 S2 h3 a1 e5 k6=>?_;have k7:=Z.mono e5;refine AT O k7 CE O a1 λq8 S9 b1 ak b2 a2=>BZ Y7 O ak λz am K b3=>?_;have b4:=k6.nw;refine AU ?_;refine AE O E (λa3 E=>?_) (λa3 E=>?_)
 ·refine AU ?_;refine B6 (cs:=[vI (-1),.bool false]) O4 O O O (AU ?_);refine AW O O O O ty_64.1 O K .head O λb5 ab b6=>AU ?_;refine WF.ret (λA C k m=>?_);have an:=ab.drop .head;cases E;exact IS k O m (GB (K5 k m ab O mh ty_64.1 O) ID) O EX ⟨O,(iq (n:=(-1)) O),an⟩
 have b7:=s.nw;refine AU ?_;refine Er (λa w=>∃(M:Value) (Q:List Ci),IV B S9 am (70,[]) a w [(14,vP z 0),(9,q8),(7,q1),(1,vI c),(4,g),(5,d),(6,vI b),(15,M)] (Bx z 64 [vI 0,.bool false]::L) λS' h'=>Sl S' h' GR M Q∧Ed N u c x p j b Q=some r) ?_ ?_
 ·refine AE O E (λa4 E=>?_) (λa4 E=>?_)
  ·refine AU ?_;refine B6 (cs:=[vI 0,vI 0,vN]) ZO O O O (AU ?_);refine Io (cs:=[vI 0,vI 0,vN]) gJ O O O O O O O K λa5 b8 ao b9=>AU ?_;refine WF.nil (λA C k m=>?_);have ap:=ao.bxos (r:=GR) (l:=([(⟨0,0,[]⟩:Ci)]:List Ci)) .head ⟨_,_,O,⟨_,O,(iq (n:=0) O),(iq (n:=0) O),(.inl ⟨O,O⟩)⟩,O⟩ (by simp [maxLen]);obtain⟨ca,aq,cb,a6⟩:=ap.pubs .head;exact⟨(.slice (some ⟨a5,0,none⟩) 1 1),([(⟨0,0,[]⟩:Ci)]:List Ci),_,_,k.sub (kp [14,9,7,1,4,5,6,15] O),m,aq,EX,a6,E⟩
  refine AU ?_;refine WF.nil (λA C k m=>?_);have a7:=s.nw;exact⟨i,q,_,_,k.sub (kp [14,9,7,1,4,5,6,15] O),m,K,(Cc.refl S9 am),a7,E⟩
 rintro A C ⟨M,Q,ae,af,k,m,ar,cc,au,E⟩;refine AI ?_ k m;clear k m C A;rw[Ed] at E;refine AU ?_;refine AQ (λa w=>∃(U:Int),IV B ae af (70,[]) a w [(14,vP z 0),(16,vI U)] (Bx z 64 [vI 0,.bool false]::L) λ_ _=>AA U∧Ec N U=some r) ?_ ?_
 ·refine BJ (λn2=>λa w=>∃(J:Int) (F:Int),IV B ae af (70,[]) a w [(14,vP z 0),(9,q8),(7,q1),(1,vI c),(4,g),(5,d),(6,vI b),(15,M),(16,vI J),(17,vI F)] (Bx z 64 [vI 0,.bool false]::L) λ_ _=>AA J∧AA F∧DC N u c x p j b Q (Ec N) n2 J F=some r) N ?_ ?_ ?_
  ·intro A C k m;exact⟨(-1),0,_,_,k.sub (kp [14,9,7,1,4,5,6,15,16,17] O),m,ar,(Cc.refl ae af),(iq (n:=(-1)) O),(iq (n:=0) O),E⟩
  ·rintro A C ⟨_,_,_,_,_,_,_,_,_,_,E⟩;rw[DC] at E;cases E
  rintro n2 A C ⟨J,F,a8,a9,k,m,t,ag,av,cd,E⟩;refine AI ?_ k m;clear k m C A;rw[DC] at E;have ce:=au.mono' ag;refine AU ?_;refine AE O E (λba E=>?_) (λba E=>?_)
  ·refine AU ?_;refine AQ (λa w=>∃(V:Int),IV B a8 a9 (70,[]) a w [(14,vP z 0),(9,q8),(7,q1),(1,vI c),(4,g),(5,d),(6,vI b),(15,M),(17,vI F),(16,vI V)] (Bx z 64 [vI 0,.bool false]::L) λ_ _=>AA V∧Hl N F (DC N u c x p j b Q (Ec N) n2) V=some r) ?_ ?_
   ·refine AU ?_;refine WF.rc (.inr ⟨mo,by kernel_rfl⟩) t ?_;have aw:=k6.nw;obtain⟨cf,_,bb⟩:=aw.lv;have bc:=aw.fl GT;obtain⟨cg,_,be⟩:=bc.ll;refine AU ?_;refine AN E O O be sl_25.1 O λch E ci bf=>?_;obtain⟨cj,_,bg⟩:=bf.lv;have bh:=a2.nw;obtain⟨ck,_,bi⟩:=bh.lv;refine AU ?_;have bj:=au.mono' ag;refine AN E O O bj sl_59.1 O λcl E cm bk=>?_;obtain⟨cn,_,bl⟩:=bk.lv;refine AU ?_;have bm:=I.nw;have bn:=D.nw;refine BB E O O O pZ O (λax ay h' o=>Ok (St.all h') (bb.mono (o.all t.1)) (bg.mono (o.all t.1)) (bi.mono (o.all t.1)) (bl.mono (o.all t.1)) (bm.mono' (o.all t.1)) (bn.mono' (o.all t.1)) y ay) λax E bo=>?_;have az:=bo;refine AU ?_;refine BD (kp [18,14,9,7,1,4,5,6,15,16,17] O) λbr W ac=>AU ?_;refine AE O E (λa0 E=>?_) (λa0 E=>?_)
    ·refine AU ?_;refine WF.nil (λA C k m=>?_);exact⟨ax,_,_,k.sub (kp [14,9,7,1,4,5,6,15,17,16] O),m,W,ac,az,E⟩
    refine AU ?_;refine WF.nil (λA C k m=>?_);exact⟨J,_,_,k.sub (kp [14,9,7,1,4,5,6,15,17,16] O),m,W,ac,av,E⟩
   rintro A C ⟨V,bs,bt,k,m,ah,bu,bp,E⟩;refine AI ?_ k m;clear k m C A;rw[Hl] at E;refine AU ?_;refine WF.nil (λA C k m=>?_);exact⟨V,(BR (F+1)),_,_,k.sub (kp [14,9,7,1,4,5,6,15,16,17] O),m,ah,EX,bp,(B1 _),E⟩
  refine WF.exit O (λA C k m=>?_);exact⟨J,_,_,k.sub (kp [14,16] O),m,t,ag,av,E⟩
 rintro A C ⟨U,bv,bw,k,m,ai,bx,bq,E⟩;refine AI ?_ k m;clear k m C A;rw[Ec] at E;refine AU ?_;refine B6 (cs:=[vI U,.bool false]) O4 O O O (AU ?_);refine AW O O O O ty_64.1 O ai .head O λbz X b0=>AU ?_;refine WF.ret (λA C k m=>?_);have aj:=X.drop .head;cases E;exact IS k O m (GB (K5 k m X O mh ty_64.1 O) ID) O EX ⟨O,bq,aj⟩
def Rh (U:St S L h) {a:Value}{g:AF}(c:Rd S h B7 a g) {b:Value}{i:BW}(d:Rd S h Dj b i) {r:Id×Bool}(E:KA N g i=some r):
 CD prog 136 #[a,b] S h (λv S' h'=>v= .tuple #[.agg #[.string r.1.M,vI r.1.F,vI r.1.W,vI r.1.T,vI r.1.Bt],.bool r.2]∧Id.ok r.1∧St S' (L) h'):=by
 refine A7 24 func136 O ntmps136 O λB=>?_;rw[KA] at E;refine AU ?_;refine AT O c CE O U λq1 S2 h3 t V Q=>?_;have X:=d.mono V;refine AT O X CE O t λq8 S9 Y o Z u=>BZ QL O o λab ac j w=>?_;have ad:=u.mono w;have ae:=Q.nw;refine AU ?_;refine AE O E (λx E=>?_) (λx E=>?_)
 ·refine AU ?_;refine B6 (cs:=[.string ByteArray.empty,vI 0,vI 0,vI 0,vI 0]) ZN O O O (AU ?_);refine AW O O O O ty_147.1 O j .head O λaf k ag=>AU ?_;refine WF.ret (λaa ww m p=>?_);have q:=k.drop .head;cases E;exact IS m O p (GB (K5 m p k O mh ty_147.1 O) (GB (KG m (v:=_) O) ID)) O EX ⟨O,⟨(by first|assumption|decide),(iq (n:=0) O),(iq (n:=0) O),(iq (n:=0) O),(iq (n:=0) O)⟩,q⟩
 have y:=Q.nw;have z:=y.fl H5;obtain⟨ah,_,A⟩:=z.ll;refine AU ?_;refine AN E O O A sl_26.1 O λai E aj C=>?_;obtain⟨ak,_,D⟩:=C.lv;refine AU ?_;obtain⟨rfl,⟨G,H,I,J,K⟩⟩:=De.ex D;refine AW O O O O ty_147.1 O j .head O λam l an=>AU ?_;refine WF.ret (λaa ww m p=>?_);have s:=l.drop .head;cases E;exact IS m O p (GB (K5 m p l O mh ty_147.1 O) (GB (KG m (v:=_) O) ID)) O EX ⟨O,⟨G,H,I,J,K⟩,s⟩
end Go.Proofs.YtibidnaedddfdaaGreat
