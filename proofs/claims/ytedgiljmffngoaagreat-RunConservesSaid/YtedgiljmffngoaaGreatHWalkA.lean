import Derived.Test.YtedgiljmffngoaaGreatHPureDiv
namespace Go.Proofs.YtedgiljmffngoaaGreat
set_option linter.all false
open Go.RowKit
open Go.Proofs.Tryz
set_option maxRecDepth 10000
set_option maxHeartbeats 2000000
variable {N:Nat}{S:Nat→Prop}{L:List HP}{h:AV}
def F7 (C:St S L h){b:Value}{g:(List Int)}(d:Sl S h AC b g){c:Value}{i:(List Int)}(m:Sl S h AC c i){r:Bool}(E:EK N g i=some r):
 B3 prog 105 #[b,c] S h (λv S' h'=>v= .bool r∧St S' (L) h'):=by
 refine BA 26 func105 O ntmps105 O λB=>?_;rw[EK] at E;refine AU ?_;refine AH O E (λD E=>?_) (λD E=>?_)
 ·exact RT
 refine AU ?_;refine AO (λa w=>IV B S h (26,[]) a w [] (L) λ_ _=>G5 N=some r) ?_ ?_
 ·refine AX (λz=>λa w=>∃(s:Int),IV B S h (26,[]) a w [(0,b),(1,c),(5,vI s)] (L) λ_ _=>AB s∧Fb N g i (G5 N) z s=some r) N ?_ ?_ ?_
  ·intro p q j k;exact⟨0,_,_,j.sub (kp [0,1,5] O),k,C,(B9.refl S h),(iq (n:=0) O),E⟩
  ·rintro p q ⟨_,_,_,_,_,_,_,_,E⟩;rw[Fb] at E;cases E
  rintro z p q ⟨s,W,X,j,k,o,l,Y,E⟩;refine AK ?_ j k;clear j k q p;rw[Fb] at E;have F:=d.mono' l;refine AU ?_;refine AH O E (λt E=>?_) (λt E=>?_)
  ·refine AU ?_;refine AY (AU ?_);refine JO (.inr ⟨mo,by kernel_rfl⟩) (AU ?_);have u:=d.mono' l;refine A6 E O O u Ct.1 O λG E H I=>AU ?_;have x:=m.mono' l;refine A6 E O O x Ct.1 O λJ E K M=>AU ?_;refine AH O E (λy E=>?_) (λy E=>?_)
   ·exact RT
   refine AU ?_;refine BE (AU ?_);refine WF.nil (λp q j k=>?_);exact⟨(BC (s+1)),_,_,j.sub (kp [0,1,5] O),k,o,l,(BH _),E⟩
  refine BB O (λp q j k=>?_);exact⟨_,_,j.sub Nx,k,o,l,E⟩
 rintro p q ⟨Q,U,j,k,A,V,E⟩;refine AK ?_ j k;clear j k q p;rw[G5] at E;exact RT
def M5 (M:St S L h){b:Value}{i:(List (List Int))}(d:Sl S h (A4.sl AC) b i){c:Value}{j:(List (List Int))}(m:Sl S h (A4.sl AC) c j){r:Bool}(E:I2 N i j=some r):
 B3 prog 106 #[b,c] S h (λv S' h'=>v= .bool r∧St S' (L) h'):=by
 refine BA 27 func106 O ntmps106 O λB=>?_;rw[I2] at E;refine AU ?_;refine AH O E (λQ E=>?_) (λQ E=>?_)
 ·exact RT
 refine AU ?_;refine AO (λa w=>IV B S h (27,[]) a w [] (L) λ_ _=>Gr N=some r) ?_ ?_
 ·refine AX (λJ=>λa w=>∃(t:Int),IV B S h (27,[]) a w [(0,b),(1,c),(5,vI t)] (L) λ_ _=>AB t∧E4 N i j (Gr N) J t=some r) N ?_ ?_ ?_
  ·intro q s k l;exact⟨0,_,_,k.sub (kp [0,1,5] O),l,M,(B9.refl S h),(iq (n:=0) O),E⟩
  ·rintro q s ⟨_,_,_,_,_,_,_,_,E⟩;rw[E4] at E;cases E
  rintro J q s ⟨t,S8,h9,k,l,g,p,r7,E⟩;refine AK ?_ k l;clear k l s q;rw[E4] at E;have U:=d.mono' p;refine AU ?_;refine AH O E (λy E=>?_) (λy E=>?_)
  ·refine AU ?_;refine AY (AU ?_);refine BY (.inr ⟨mo,by kernel_rfl⟩) g (AU ?_);have z:=d.mono' p;refine A6 E O O z H6.1 O λV E W A=>?_;obtain⟨X,_,C⟩:=A.ll;refine AU ?_;have D:=m.mono' p;refine A6 E O O D H6.1 O λY E Z F=>?_;obtain⟨ab,_,G⟩:=F.ll;refine AU ?_;refine A8 E O O O TX O (λH u h' o=>F7 (St.all h') (C.mono' (o.all g.1)) (G.mono' (o.all g.1)) u) λH E=>AU ?_;refine BJ (kp [26,0,1,5] O) λac x ad=>AH O E (λI E=>?_) (λI E=>?_)
   ·exact RT
   refine AU ?_;refine BE (AU ?_);refine WF.nil (λq s k l=>?_);exact⟨(BC (t+1)),_,_,k.sub (kp [0,1,5] O),l,x,EX,(BH _),E⟩
  refine BB O (λq s k l=>?_);exact⟨_,_,k.sub Nx,l,g,p,E⟩
 rintro q s ⟨ae,af,k,l,K,ag,E⟩;refine AK ?_ k l;clear k l s q;rw[Gr] at E;exact RT
def M4 (hs:St S L h){g:Value}{m:(List AM)}(d:Sl S h AS g m){i:Value}{p:(List AM)}(j:Sl S h AS i p){r:Bool}(E:I1 N m p=some r):
 B3 prog 107 #[g,i] S h (λv S' h'=>v= .bool r∧St S' (L) h'):=by
 refine BA 55 func107 O ntmps107 O λB=>?_;rw[I1] at E;refine AU ?_;refine AH O E (λc3 E=>?_) (λc3 E=>?_)
 ·exact RT
 refine AU ?_;refine AO (λa w=>IV B S h (55,[]) a w [] (L) λ_ _=>Gq N=some r) ?_ ?_
 ·refine AX (λn1=>λa w=>∃(x:Int),IV B S h (55,[]) a w [(0,g),(1,i),(5,vI x)] (L) λ_ _=>AB x∧E3 N m p (Gq N) n1 x=some r) N ?_ ?_ ?_
  ·intro t u q s;exact⟨0,_,_,q.sub (kp [0,1,5] O),s,hs,(B9.refl S h),(iq (n:=0) O),E⟩
  ·rintro t u ⟨_,_,_,_,_,_,_,_,E⟩;rw[E3] at E;cases E
  rintro n1 t u ⟨x,S8,h9,q,s,l,k,r7,E⟩;refine AK ?_ q s;clear q s u t;rw[E3] at E;have ah:=d.mono' k;refine AU ?_;refine AH O E (λF E=>?_) (λF E=>?_)
  ·refine AU ?_;refine AY (AU ?_);refine BY (.inr ⟨mo,by kernel_rfl⟩) l (AU ?_);have G:=d.mono' k;refine A6 E O O G Ki.1 O λH E ai aj=>AU ?_;have I:=j.mono' k;refine A6 E O O I Ki.1 O λJ E ak al=>AU ?_;obtain⟨y,c,E⟩:=bd E;refine AZ 12 40 (.bool y) ?_ ?_
   ·cases z:(decide (H.Z≠J.Z))
    ·have c:=G3 z c;refine AU ?_;have K:=d.mono' k;refine A6 c O O K Ki.1 O λam c an ao=>AU ?_;have M:=j.mono' k;refine A6 c O O M Ki.1 O λap c aq ar=>AU ?_;cases c;exact A0 O
    have c:=G2 z c;cases c;exact BG O O
   refine AU ?_;obtain⟨Q,b,E⟩:=bd E;refine AZ 13 54 (.bool Q) ?_ ?_
   ·cases A:y
    ·have b:=G3 A b;refine AU ?_;have U:=d.mono' k;refine A6 b O O U Ki.1 O λau b av V=>?_;have W:=V.fl AM.f_Part;obtain⟨aw,_,X⟩:=W.ll;refine AU ?_;have Y:=j.mono' k;refine A6 b O O Y Ki.1 O λax b ay ab=>?_;have ac:=ab.fl AM.f_Part;obtain⟨az,_,ad⟩:=ac.ll;refine AU ?_;refine A8 b O O O TX O (λae C h' o=>F7 (St.all h') (X.mono' (o.all l.1)) (ad.mono' (o.all l.1)) C) λae b=>AU ?_;cases b;exact A0 O
    have b:=G2 A b;cases b;exact BG O O
   refine BJ (kp [54,0,1,5] O) λa0 D a1=>AH O E (λaf E=>?_) (λaf E=>?_)
   ·exact RT
   refine AU ?_;refine BE (AU ?_);refine WF.nil (λt u q s=>?_);exact⟨(BC (x+1)),_,_,q.sub (kp [0,1,5] O),s,D,EX,(BH _),E⟩
  refine BB O (λt u q s=>?_);exact⟨_,_,q.sub Nx,s,l,k,E⟩
 rintro t u ⟨a2,a3,q,s,ag,a4,E⟩;refine AK ?_ q s;clear q s u t;rw[Gq] at E;exact RT
def M3 (H:St S L h){b:Value}{g:(List AT)}(d:Sl S h BL b g){c:Value}{i:(List AT)}(m:Sl S h BL c i){r:Bool}(E:I0 N g i=some r):
 B3 prog 108 #[b,c] S h (λv S' h'=>v= .bool r∧St S' (L) h'):=by
 refine BA 26 func108 O ntmps108 O λB=>?_;rw[I0] at E;refine AU ?_;refine AH O E (λI E=>?_) (λI E=>?_)
 ·exact RT
 refine AU ?_;refine AO (λa w=>IV B S h (26,[]) a w [] (L) λ_ _=>Gp N=some r) ?_ ?_
 ·refine AX (λF=>λa w=>∃(s:Int),IV B S h (26,[]) a w [(0,b),(1,c),(5,vI s)] (L) λ_ _=>AB s∧E2 N g i (Gp N) F s=some r) N ?_ ?_ ?_
  ·intro p q j k;exact⟨0,_,_,j.sub (kp [0,1,5] O),k,H,(B9.refl S h),(iq (n:=0) O),E⟩
  ·rintro p q ⟨_,_,_,_,_,_,_,_,E⟩;rw[E2] at E;cases E
  rintro F p q ⟨s,S8,h9,j,k,o,l,r7,E⟩;refine AK ?_ j k;clear j k q p;rw[E2] at E;have J:=d.mono' l;refine AU ?_;refine AH O E (λt E=>?_) (λt E=>?_)
  ·refine AU ?_;refine AY (AU ?_);refine JO (.inr ⟨mo,by kernel_rfl⟩) (AU ?_);have u:=d.mono' l;refine A6 E O O u NZ.1 O λK E M x=>?_;obtain⟨Q,_,y⟩:=x.lv;refine AU ?_;have z:=m.mono' l;refine A6 E O O z NZ.1 O λU E V A=>?_;obtain⟨W,_,C⟩:=A.lv;refine AU ?_;obtain⟨rfl,⟨X,Y⟩⟩:=BL.ex y;obtain⟨rfl,⟨Z,ab⟩⟩:=BL.ex C;refine gK O O qL O O O O (AU ?_);refine AH O E (λD E=>?_) (λD E=>?_)
   ·exact RT
   refine AU ?_;refine BE (AU ?_);refine WF.nil (λp q j k=>?_);exact⟨(BC (s+1)),_,_,j.sub (kp [0,1,5] O),k,o,l,(BH _),E⟩
  refine BB O (λp q j k=>?_);exact⟨_,_,j.sub Nx,k,o,l,E⟩
 rintro p q ⟨ac,ad,j,k,G,ae,E⟩;refine AK ?_ j k;clear j k q p;rw[Gp] at E;exact RT
def Lz (hs:St S L h){b:Value}{d:AE}(p:Rd S h A7 b d){c:Value}{g:AE}(q:Rd S h A7 c g){r:Bool}(E:JE N d g=some r):
 B3 prog 32 #[b,c] S h (λv S' h'=>v= .bool r∧St S' (L) h'):=by
 refine BA 62 func32 O ntmps32 O λB=>?_;rw[JE] at E;refine AU ?_;refine By O p CE O hs λq1 S2 h3 aj e5 k6=>?_;have k7:=q.mono e5;refine By O k7 CE O aj λq8 S9 bf i ak u=>AU ?_;refine BY (.inl O) i ?_;have w:=k6.mono ak;have al:=w.fl GH;obtain⟨bg,_,am⟩:=al.ll;have an:=u.fl GH;obtain⟨bh,_,ao⟩:=an.ll;refine AU ?_;refine A8 E O O O tA O (λx y h' o=>M5 (St.all h') (am.mono' (o.all i.1)) (ao.mono' (o.all i.1)) y) λx E=>AU ?_;refine BJ (kp [5,3,2] O) λbi j z=>AU ?_;refine BY (.inl O) j ?_;have A:=w.mono z;have ap:=A.fl J5;obtain⟨bj,_,aq⟩:=ap.ll;have C:=u.mono z;have ar:=C.fl J5;obtain⟨bk,_,au⟩:=ar.ll;refine AU ?_;refine A8 E O O O TX O (λD F h' o=>F7 (St.all h') (aq.mono' (o.all j.1)) (au.mono' (o.all j.1)) F) λD E=>AU ?_;refine BJ (kp [6,5,3,2] O) λbl k G=>AU ?_;refine BY (.inl O) k ?_;have H:=A.mono G;have av:=H.fl Gu;obtain⟨bm,_,aw⟩:=av.ll;have I:=C.mono G;have ax:=I.fl Gu;obtain⟨bn,_,ay⟩:=ax.ll;refine AU ?_;refine A8 E O O O sZ O (λJ K h' o=>M4 (St.all h') (aw.mono' (o.all k.1)) (ay.mono' (o.all k.1)) K) λJ E=>AU ?_;refine BJ (kp [7,6,5,3,2] O) λbo l M=>AU ?_;refine BY (.inl O) l ?_;have Q:=H.mono M;have az:=Q.fl I8;obtain⟨bp,_,a0⟩:=az.ll;have U:=I.mono M;have a1:=U.fl I8;obtain⟨bq,_,a2⟩:=a1.ll;refine AU ?_;refine A8 E O O O TX O (λV W h' o=>F7 (St.all h') (a0.mono' (o.all l.1)) (a2.mono' (o.all l.1)) W) λV E=>AU ?_;refine BJ (kp [8,7,6,5,3,2] O) λbr m X=>AU ?_;refine BY (.inl O) m ?_;have Y:=Q.mono X;have a3:=Y.fl HR;obtain⟨bs,_,a4⟩:=a3.ll;have Z:=U.mono X;have a5:=Z.fl HR;obtain⟨bt,_,a6⟩:=a5.ll;refine AU ?_;refine A8 E O O O TX O (λaa ab h' o=>F7 (St.all h') (a4.mono' (o.all m.1)) (a6.mono' (o.all m.1)) ab) λaa E=>AU ?_;refine BJ (kp [9,8,7,6,5,3,2] O) λbu n ac=>AU ?_;refine BY (.inl O) n ?_;have a7:=Y.mono ac;have a8:=Z.mono ac;refine AU ?_;obtain⟨ad,a,E⟩:=bd E;refine AZ 6 61 (.bool ad) ?_ ?_
 ·cases s:((((((decide (d.B=g.B))&&x)&&D)&&J)&&V)&&aa)
  ·have a:=G3 s a;cases a;exact BG O O
  have a:=G2 s a;have ae:=a7.fl I5;obtain⟨ba,_,af⟩:=ae.ll;have ag:=a8.fl I5;obtain⟨bb,_,ah⟩:=ag.ll;refine AU ?_;refine A8 a O O O sY O (λai t h' o=>M3 (St.all h') (af.mono' (o.all n.1)) (ah.mono' (o.all n.1)) t) λai a=>AU ?_;cases a;exact A0 O
 refine AU ?_;exact BJ (kp [4] O) λbc a9 be=>RT
def Qo (hs:St S L h){k:Value}{u:AF}(Q:Rd S h BV k u){l:Value}{b:AE}(U:Rd S h A7 l b){c:Value}{d:(List Ck)}(q:Sl S h Ge c d){r:AE}(E:LO N u b d=some r):
 B3 prog 27 #[k,l,c] S h (λv S' h'=>Rd S' h' A7 v r∧St S' (L) h'):=by
 refine BA 25 func27 O ntmps27 O λB=>?_;rw[LO] at E;refine AU ?_;refine By O Q CE O hs λq1 S2 h3 cn e5 k6=>?_;have k7:=U.mono e5;obtain⟨co,cp,cq,cr,cs,ct,rfl,r9,cu,cv,cw,cx,cy,cz⟩:=A7.ex k7;refine OG O O O cn λV d7 a5 d8=>CF MC O a5 λW an a6 d9=>?_;have c0:=q.nw;refine AU ?_;refine AO (λa w=>∃(y:Int) (ao:Value) (X:List (List Int)) (ap:Value) (Y:List Int) (aq:Value) (Z:List AM) (ar:Value) (ab:List AT) (au:Value) (ac:List Int) (av:Value) (ad:List Int),IV B S2 an (25,[]) a w [(6,vP W 0),(4,vP V 0)] (Bx W 36 [vI 0,vN,vN,vN,vN,vN,vN]::Bx V 36 [vI y,ao,ap,aq,ar,au,av]::L) λS' h'=>AB y∧Sl S' h' (A4.sl AC) ao X∧Sl S' h' AC ap Y∧Sl S' h' AS aq Z∧Sl S' h' BL ar ab∧Sl S' h' AC au ac∧Sl S' h' AC av ad∧KJ N y X Y Z ab ac ad=some r) ?_ ?_
 ·refine AX (λn1=>λa w=>∃(z:Int) (s:Int) (ae:Value) (A:List (List Int)) (af:Value) (C:List Int) (ag:Value) (F:List AM) (ah:Value) (G:List AT) (ai:Value) (H:List Int) (aj:Value) (I:List Int),IV B S2 an (25,[]) a w [(10,vI (↑d.length:Int)),(9,c),(6,vP W 0),(4,vP V 0),(3,q1),(11,vI z)] (Bx W 36 [vI 0,vN,vN,vN,vN,vN,vN]::Bx V 36 [vI s,ae,af,ag,ah,ai,aj]::L) λS' h'=>AB z∧AB s∧Sl S' h' (A4.sl AC) ae A∧Sl S' h' AC af C∧Sl S' h' AS ag F∧Sl S' h' BL ah G∧Sl S' h' AC ai H∧Sl S' h' AC aj I∧Hw N u d (KJ N) n1 z s A C F G H I=some r) N ?_ ?_ ?_
  ·intro aa ww m o;have c1:=cu.nw;have c2:=cv.nw;have c3:=cw.nw;have a7:=cx.nw;have a8:=cy.nw;have a9:=cz.nw;exact⟨0,b.B,co,b.D,cp,b.M,cq,b.E,cr,b.O,cs,b.N,ct,b.L,_,_,m.sub (kp [10,9,6,4,3,11] O),o,a6,(B9.refl S2 an),(iq (n:=0) O),r9,c1,c2,c3,a7,a8,a9,E⟩
  ·rintro aa ww ⟨_,_,_,_,_,_,_,_,_,_,_,_,_,_,_,_,_,_,_,_,_,_,_,_,_,_,_,_,E⟩;rw[Hw] at E;cases E
  rintro n1 aa ww ⟨z,s,ae,A,af,C,ag,F,ah,G,ai,H,aj,I,db,dc,m,o,J,ak,ea,ba,bb,bc,be,bf,bg,bh,E⟩;refine AK ?_ m o;clear m o ww aa;rw[Hw] at E;refine AU ?_;refine AH O E (λbi E=>?_) (λbi E=>?_)
  ·refine AU ?_;refine AY (AU ?_);have bj:=c0.mono' ak;refine A6 E O O bj Xy.1 O λdd E de bk=>?_;obtain⟨df,_,bl⟩:=bk.lv;refine AU ?_;refine CF Z5 O J λdg dh aw bm=>?_;have am:=bl.mono bm;obtain⟨di,dj,dk,dl,dm,rfl,dn,dp,dq,dr,ds⟩:=Ge.ex am;refine DL O O O ON aQ.1 O aw .head O λdt ax bn=>AU ?_;refine Bv ?_;have bo:=k6.nw;obtain⟨du,_,bp⟩:=bo.lv;refine AU ?_;have bq:=bb.nw;have br:=bc.nw;have bs:=be.nw;have bt:=bf.nw;have bu:=bg.nw;have bv:=bh.nw;have t:=am.mono bn;obtain⟨g,ay,E⟩:=bd E;refine EQ O O O nN O (Pz ax bp (A7.mk (x:=(⟨s,A,C,F,G,H,I⟩:AE)) ba bq br bs bt bu bv) t ay) λdv dw dx dy p=>?_;obtain⟨dz,d0,d1,rfl,bw,az⟩:=p;refine AU ?_;obtain⟨bx,bz,b0,b1,b2,b3,rfl,b4,b5,b6,b7,b8,b9,ca⟩:=A7.ex bw;refine DL O O O ON Ho.1 O az (.tail (.tail (.tail (.tail .head)))) O λd2 a0 i=>AU ?_;refine BE (AU ?_);refine WF.nil (λaa ww m o=>?_);have a1:=a0.sel [3,3] 3 O;have cb:=b5.mono' i;have cc:=b6.mono' i;have cd:=b7.mono' i;have ce:=b8.mono' i;have cf:=b9.mono' i;have cg:=ca.mono' i;exact⟨(BC (z+1)),g.1.B,bx,g.1.D,bz,g.1.M,b0,g.1.E,b1,g.1.O,b2,g.1.N,b3,g.1.L,_,_,m.sub (kp [10,9,6,4,3,11] O),o,a1,EX,(BH _),b4,cb,cc,cd,ce,cf,cg,E⟩
  refine BB O (λaa ww m o=>?_);exact⟨s,ae,A,af,C,ag,F,ah,G,ai,H,aj,I,_,_,m.sub (kp [6,4] O),o,J,ak,ba,bb,bc,be,bf,bg,bh,E⟩
 rintro aa ww ⟨y,ao,X,ap,Y,aq,Z,ar,ab,au,ac,av,ad,d3,d4,m,o,a2,d5,c4,c5,c6,c7,c8,c9,da,E⟩;refine AK ?_ m o;clear m o ww aa;rw[KJ] at E;refine AU ?_;refine DL O O O ON Ho.1 O a2 .head O λd6 a3 j=>AU ?_;refine Bu (λaa ww m o=>?_);have K:=a3.drop (.tail .head);have ch:=c5.mono' j;have ci:=c6.mono' j;have cj:=c7.mono' j;have ck:=c8.mono' j;have cl:=c9.mono' j;have cm:=da.mono' j;have a4:=K.drop .head;cases E;exact JA m O o (G7 (UC m o K O mh Ho.1 O) I9) O EX ⟨(A7.mk (x:=(⟨y,X,Y,Z,ab,ac,ad⟩:AE)) c4 ch ci cj ck cl cm),a4⟩
def Kp (H:St S L h){c:Value}{m:AF}(l:Rd S h BV c m){b:Value}{d:(List Int)}(g:Sl S h AC b d){r:Bool}(E:JC N m d=some r):
 B3 prog 184 #[c,b] S h (λv S' h'=>v= .bool r∧St S' (L) h'):=by
 refine BA 26 func184 O ntmps184 O λB=>?_;rw[JC] at E;refine AU ?_;refine By O l CE O H λY S2 t u D Z=>?_;have k7:=g.mono' D;refine AU ?_;refine AH O E (λx E=>?_) (λx E=>?_)
 ·exact RT
 have y:=g.mono' D;refine AU ?_;refine AO (λa w=>IV B S2 t (26,[]) a w [] (L) λ_ _=>JS N=some r) ?_ ?_
 ·refine AX (λF=>λa w=>∃(i:Int),IV B S2 t (26,[]) a w [(14,vI (↑d.length:Int)),(13,b),(15,vI i)] (L) λ_ _=>AB i∧Hv N d (JS N) F i=some r) N ?_ ?_ ?_
  ·intro p q j k;exact⟨0,_,_,j.sub (kp [14,13,15] O),k,u,(B9.refl S2 t),(iq (n:=0) O),E⟩
  ·rintro p q ⟨_,_,_,_,_,_,_,_,E⟩;rw[Hv] at E;cases E
  rintro F p q ⟨i,I,J,j,k,o,s,K,E⟩;refine AK ?_ j k;clear j k q p;rw[Hv] at E;refine AU ?_;refine AH O E (λz E=>?_) (λz E=>?_)
  ·refine AU ?_;refine AY (AU ?_);have A:=y.mono' s;refine A6 E O O A Ct.1 O λM E Q U=>AU ?_;refine AH O E (λC E=>?_) (λC E=>?_)
   ·exact RT
   refine AU ?_;refine BE (AU ?_);refine WF.nil (λp q j k=>?_);exact⟨(BC (i+1)),_,_,j.sub (kp [14,13,15] O),k,o,s,(BH _),E⟩
  refine BB O (λp q j k=>?_);exact⟨_,_,j.sub Nx,k,o,s,E⟩
 rintro p q ⟨V,W,j,k,G,X,E⟩;refine AK ?_ j k;clear j k q p;rw[JS] at E;exact RT
def M8 (hs:St S L h){s:Value}{i:AF}(z:Rd S h BV s i){t:Value}{c:AE}(C:Rd S h A7 t c){r:Bool}(E:IR N i c=some r):
 B3 prog 99 #[s,t] S h (λv S' h'=>v= .bool r∧St S' (L) h'):=by
 refine BA 62 func99 O ntmps99 O λB=>?_;rw[IR] at E;refine AU ?_;refine By O z CE O hs λq1 S2 h3 a4 e5 k6=>?_;have k7:=C.mono e5;refine By O k7 CE O a4 λq8 S9 cg m a5 K=>AU ?_;refine BY (.inl O) m ?_;have F:=k6.mono a5;refine AU ?_;obtain⟨ab,d,E⟩:=bd E;refine AZ 6 22 (.bool ab) ?_ ?_
 ·cases ac:(decide ((↑c.D.length:Int)≠(↑i.A.length:Int)))
  ·have d:=G3 ac d;obtain⟨ch,_,a6⟩:=F.lv;have a7:=K.fl I8;obtain⟨ci,_,a8⟩:=a7.ll;refine AU ?_;refine A8 d O O O TT O (λa9 ad h' o=>Kp (St.all h') (a6.mono (o.all m.1)) (a8.mono' (o.all m.1)) ad) λa9 d=>AU ?_;cases d;exact A0 O
  have d:=G2 ac d;cases d;exact BG O O
 refine AU ?_;obtain⟨ba,g,E⟩:=bd E;refine AZ 6 29 (.bool ba) ?_ ?_
 ·cases ae:ab
  ·have g:=G3 ae g;obtain⟨cj,_,bb⟩:=F.lv;have bc:=K.fl HR;obtain⟨ck,_,be⟩:=bc.ll;refine AU ?_;refine A8 g O O O TT O (λbf af h' o=>Kp (St.all h') (bb.mono (o.all m.1)) (be.mono' (o.all m.1)) af) λbf g=>AU ?_;cases g;exact A0 O
  have g:=G2 ae g;cases g;exact BG O O
 refine BJ (kp [29,3,2] O) λM ag bg=>AH O E (λbh E=>?_) (λbh E=>?_)
 ·exact RT
 have ah:=K.mono bg;have bi:=ah.fl GH;obtain⟨bj,_,bk⟩:=bi.ll;refine AU ?_;refine AO (λa w=>IV B S9 M (62,[]) a w [(3,q8),(2,q1)] (L) λ_ _=>Ex N i c=some r) ?_ ?_
 ·refine AX (λn1=>λa w=>∃(x:Int),IV B S9 M (62,[]) a w [(32,vI (↑c.D.length:Int)),(31,bj),(3,q8),(2,q1),(33,vI x)] (L) λ_ _=>AB x∧EI N i c (Ex N i c) n1 x=some r) N ?_ ?_ ?_
  ·intro p q j k;exact⟨0,_,_,j.sub (kp [32,31,3,2,33] O),k,ag,(B9.refl S9 M),(iq (n:=0) O),E⟩
  ·rintro p q ⟨_,_,_,_,_,_,_,_,E⟩;rw[EI] at E;cases E
  rintro n1 p q ⟨x,cl,cm,j,k,u,ai,cn,E⟩;refine AK ?_ j k;clear j k q p;rw[EI] at E;refine AU ?_;refine AH O E (λbl E=>?_) (λbl E=>?_)
  ·refine AU ?_;refine AY (AU ?_);have bm:=bk.mono' ai;refine A6 E O O bm H6.1 O λco E cp bn=>?_;obtain⟨cq,_,bo⟩:=bn.ll;refine AU ?_;refine BY (.inl O) u ?_;have bp:=F.nw;obtain⟨cr,_,bq⟩:=bp.lv;refine AU ?_;refine A8 E O O O TT O (λbr aj h' o=>Kp (St.all h') (bq.mono (o.all u.1)) (bo.mono' (o.all u.1)) aj) λbr E=>AU ?_;refine BJ (kp [40,32,31,3,2,33] O) λcs ak ct=>AH O E (λbs E=>?_) (λbs E=>?_)
   ·exact RT
   refine AU ?_;refine BE (AU ?_);refine WF.nil (λp q j k=>?_);exact⟨(BC (x+1)),_,_,j.sub (kp [32,31,3,2,33] O),k,ak,EX,(BH _),E⟩
  refine BB O (λp q j k=>?_);exact⟨_,_,j.sub (kp [3,2] O),k,u,ai,E⟩
 rintro p q ⟨Q,U,j,k,am,bt,E⟩;refine AK ?_ j k;clear j k q p;rw[Ex] at E;have bu:=ah.mono bt;have bv:=bu.fl Gu;obtain⟨bw,_,bx⟩:=bv.ll;refine AU ?_;refine AO (λa w=>IV B Q U (62,[]) a w [] (L) λ_ _=>H8 N=some r) ?_ ?_
 ·refine AX (λn3=>λa w=>∃(y:Int),IV B Q U (62,[]) a w [(44,vI (↑c.E.length:Int)),(43,bw),(2,q1),(45,vI y)] (L) λ_ _=>AB y∧Ew N i c (H8 N) n3 y=some r) N ?_ ?_ ?_
  ·intro p q j k;exact⟨0,_,_,j.sub (kp [44,43,2,45] O),k,am,(B9.refl Q U),(iq (n:=0) O),E⟩
  ·rintro p q ⟨_,_,_,_,_,_,_,_,E⟩;rw[Ew] at E;cases E
  rintro n3 p q ⟨y,cu,cv,j,k,G,an,cw,E⟩;refine AK ?_ j k;clear j k q p;rw[Ew] at E;refine AU ?_;refine AH O E (λbz E=>?_) (λbz E=>?_)
  ·refine AU ?_;refine AY (AU ?_);have ao:=bx.mono' an;refine A6 E O O ao Ki.1 O λb1 E b2 ap=>?_;obtain⟨b3,_,aq⟩:=ap.lv;refine AU ?_;refine CF Oj O G λb4 b5 V ar=>?_;have au:=aq.mono ar;obtain⟨b6,rfl,b7,av,aw⟩:=AS.ex au;refine DL O O O ON Ot.1 O V .head O λb8 l ax=>AU ?_;refine BY (.inl O) l ?_;have H:=F.nw;obtain⟨b9,_,ay⟩:=H.lv;refine AU ?_;refine A8 E O O O TW O (λI W h' o=>JJ (St.all h') (ay.mono (o.all l.1)) av W) λI E=>AU ?_;obtain⟨az,b,E⟩:=bd E;refine AZ 6 60 (.bool az) ?_ ?_
   ·cases J:(!I)
    ·have b:=G3 J b;obtain⟨ca,_,a0⟩:=H.lv;refine AU ?_;have a1:=aw.mono' ax;refine A8 b O O O TT O (λa2 X h' o=>Kp (St.all h') (a0.mono (o.all l.1)) (a1.mono' (o.all l.1)) X) λa2 b=>AU ?_;cases b;exact A0 O
    have b:=G2 J b;cases b;exact BG O O
   refine BJ (kp [60,44,43,2,45] O) λcb Y cc=>AH O E (λa3 E=>?_) (λa3 E=>?_)
   ·exact RT
   refine AU ?_;refine BE (AU ?_);refine WF.nil (λp q j k=>?_);have Z:=Y.drop .head;exact⟨(BC (y+1)),_,_,j.sub (kp [44,43,2,45] O),k,Z,EX,(BH _),E⟩
  refine BB O (λp q j k=>?_);exact⟨_,_,j.sub Nx,k,G,an,E⟩
 rintro p q ⟨cd,ce,j,k,b0,cf,E⟩;refine AK ?_ j k;clear j k q p;rw[H8] at E;exact RT
def RU (hs:St S L h){j:Value}{p:AF}(m:Rd S h BV j p){k:Value}{l:AJ}(n:Rd S h BD k l){r:Bool}(E:Jl N p l=some r):
 B3 prog 100 #[j,k] S h (λv S' h'=>v= .bool r∧St S' (L) h'):=by
 refine BA 31 func100 O ntmps100 O λB=>?_;rw[Jl] at E;refine AU ?_;refine By O m CE O hs λq1 S2 h3 G e5 k6=>?_;have k7:=n.mono e5;refine By O k7 CE O G λq8 S9 af g H q=>AU ?_;refine BY (.inl O) g ?_;have s:=k6.mono H;obtain⟨ag,_,J⟩:=s.lv;have K:=q.fl AJ.f_Part;obtain⟨ah,_,M⟩:=K.ll;refine AU ?_;refine A8 E O O O TT O (λt u h' o=>Kp (St.all h') (J.mono (o.all g.1)) (M.mono' (o.all g.1)) u) λt E=>AU ?_;obtain⟨w,a,E⟩:=bd E;refine AZ 10 19 (.bool w) ?_ ?_
 ·cases x:t
  ·have a:=G3 x a;cases a;exact BG O O
  have a:=G2 x a;refine AU ?_;obtain⟨Q,b,a⟩:=bd a;refine AZ 5 18 (.bool Q) ?_ ?_
  ·cases y:(decide (l.I=(-1)))
   ·have b:=G3 y b;obtain⟨ai,_,U⟩:=s.lv;have V:=q.fl AJ.f_From;have W:=V.i;refine AU ?_;refine A8 b O O O TW O (λX z h' o=>JJ (St.all h') (U.mono (o.all g.1)) W z) λX b=>AU ?_;cases b;exact A0 O
   have b:=G2 y b;cases b;exact BG O O
  refine AU ?_;cases a;exact A0 O
 refine AU ?_;obtain⟨Y,c,E⟩:=bd E;refine AZ 10 30 (.bool Y) ?_ ?_
 ·cases A:w
  ·have c:=G3 A c;cases c;exact BG O O
  have c:=G2 A c;refine AU ?_;obtain⟨Z,d,c⟩:=bd c;refine AZ 5 29 (.bool Z) ?_ ?_
  ·cases D:(decide (l.C=(-1)))
   ·have d:=G3 D d;obtain⟨aj,_,aa⟩:=s.lv;have ab:=q.fl AJ.f_To;have ac:=ab.i;refine AU ?_;refine A8 d O O O TW O (λad F h' o=>JJ (St.all h') (aa.mono (o.all g.1)) ac F) λad d=>AU ?_;cases d;exact A0 O
   have d:=G2 D d;cases d;exact BG O O
  refine AU ?_;cases c;exact A0 O
 refine AU ?_;exact BJ (kp [4] O) λak ae al=>RT
def RQ (D:St S L h){b:Value}{p0_w:AI}(g:Rd S h Hm b p0_w){a:Int}(p:AB a){r:AI}(E:Jk N p0_w a=some r):
 B3 prog 185 #[b,vI a] S h (λv S' h'=>v= .agg #[vI r.hi,.int .u64 r.lo]∧AI.ok r∧St S' (L) h'):=by
 refine BA 22 func185 O ntmps185 O λB=>?_;rw[Jk] at E;refine AU ?_;refine By O g CE O D λK S2 M q Q F=>CF Wt O q λU V j s=>AU ?_;refine BY (.inl O) j ?_;have k:=F.mono s;have t:=k.fl M1;refine AU ?_;refine VY PF j.1 O t aV.1 O λl=>AU ?_;refine D9 O MJ Ip O ?_;have u:=aE (x:=p0_w.lo) (y:=(IntKind.wrap .u64 a)) (c:=0) l (Cw _ _) yF;refine gE O O (oF _ _ _ l (Cw _ _) yF) O (AU ?_);refine BJ (kp [6,5,4,2] O) λG m w=>?_;have H:=k.mono w;refine AU ?_;refine D9 O Ip MJ O ?_;obtain⟨n,d,E⟩:=bd E;have d:=Aa1 d;have z:AB n:=d▸BH _;refine lR O O O d (AU ?_);refine FY (cs:=[vI n,.int .u64 ((Kn p0_w.lo (IntKind.wrap .u64 a) 0).1)]) W5 O O O (AU ?_);refine C7 O O O O So.1 O m .head O λI i J=>AU ?_;refine Bu (λW X A C=>?_);have o:=i.drop .head;cases E;exact JA A O C (G7 (UC A C i O mh So.1 O) I9) O EX ⟨O,⟨z,u.1⟩,o⟩
def HU {g:Nat}{m:(List (AA×AI))}(hs:St S (MP (λk:AA=>Value.agg (AA.v k).toArray) (λk:AI=>Value.agg #[vI (BC k.hi),.int .u64 (IntKind.wrap .u64 k.lo)]) g m::L) h){c:Int}(A:AB c){b:Int}(q:AB b){d:Value}{j:(List Int)}(l:Sl S h AC d j){r:(List (AA×AI))}(E:EJ N m c b j=some r):
 B3 prog 102 #[.map (some g),vI c,vI b,d] S h (λv S' h'=>v= .tuple #[]∧St S' (MP (λk:AA=>Value.agg (AA.v k).toArray) (λk:AI=>Value.agg #[vI (BC k.hi),.int .u64 (IntKind.wrap .u64 k.lo)]) g r::L) h'):=by
 refine BA 30 func102 O ntmps102 O λB=>?_;rw[EJ] at E;refine AU ?_;refine AY (AX (λn0=>λa w=>∃(p:Int) (D:(List (AA×AI))),IV B S h (30,[]) a w [(12,vI (↑j.length:Int)),(11,d),(0,.map (some g)),(1,vI c),(2,vI b),(13,vI p)] (MP (λk:AA=>Value.agg (AA.v k).toArray) (λk:AI=>Value.agg #[vI (BC k.hi),.int .u64 (IntKind.wrap .u64 k.lo)]) g D::L) λ_ _=>AB p∧Dw N c b j n0 p D=some r) N ?_ ?_ ?_)
 ·intro F G s t;exact⟨0,m,_,_,s.sub (kp [12,11,0,1,2,13] O),t,hs,(B9.refl S h),(iq (n:=0) O),E⟩
 ·rintro F G ⟨_,_,_,_,_,_,_,_,_,E⟩;rw[Dw] at E;cases E
 rintro n0 F G ⟨p,D,S8,h9,s,t,u,H,r6,E⟩;refine AK ?_ s t;clear s t G F;rw[Dw] at E;refine AU ?_;refine AH O E (λU E=>?_) (λU E=>?_)
 ·refine AU ?_;refine AY (AU ?_);have V:=l.mono' H;refine A6 E O O V Ct.1 O λac E ad W=>?_;have X:=W.i;refine AU ?_;refine FY (cs:=[vI c,vI b,vI p]) bI O O O (AU ?_);refine CF aB O u λae af I ag=>?_;refine C7 O O O O aW.1 O I .head O λah y ai=>AU ?_;refine MA 7 mo (by kernel_rfl) O y (AU ?_);refine Xd (k0:=(⟨c,b,p⟩:AA)) (z:=(⟨0,0⟩:AI)) PF y (mt mh) O O Sm SW Z4 O O (AU ?_);obtain⟨C,J,E⟩:=bd E;refine QZ O O O sA O (λh' o=>RQ (St.all h') (Hm.mk (x:=(⟨(BC (((MN (λk:AA=>Value.agg (AA.v k).toArray) D (⟨c,b,p⟩:AA)).getD (⟨0,0⟩:AI)).hi)),(IntKind.wrap .u64 (((MN (λk:AA=>Value.agg (AA.v k).toArray) D (⟨c,b,p⟩:AA)).getD (⟨0,0⟩:AI)).lo))⟩:AI)) ⟨(BH _),(Cw _ _)⟩) X J) λY=>?_;obtain⟨Z,ab⟩:=Y;refine KT λaj K ak=>Xf (k0:=(⟨c,b,p⟩:AA)) (x:=C) K (.tail .head) O O (Aaz some (cT C ⟨Z,ab⟩)).symm Sm SW λam M an=>AU ?_;refine BE (AU ?_);refine WF.nil (λF G s t=>?_);have Q:=M.sel [1] 1 O;exact⟨(BC (p+1)),(N1 (λk:AA=>Value.agg (AA.v k).toArray) D (⟨c,b,p⟩:AA) C),_,_,s.sub (kp [12,11,0,1,2,13] O),t,Q,EX,(BH _),E⟩
 refine KN O (WF.nil (λF G s t=>?_));cases E;exact JA s O t I9 O H ⟨O,u⟩
def ML {b:Nat}{o:(List (AA×AI))}(hs:St S (MP (λk:AA=>Value.agg (AA.v k).toArray) (λk:AI=>Value.agg #[vI (BC k.hi),.int .u64 (IntKind.wrap .u64 k.lo)]) b o::L) h){i:Value}{c:AE}(t:Rd S h A7 i c){r:(List (AA×AI))}(E:Fa N o c=some r):
 B3 prog 101 #[.map (some b),i,.func (.func 102) #[.map (some b)] #[]] S h (λv S' h'=>v= .tuple #[]∧St S' (MP (λk:AA=>Value.agg (AA.v k).toArray) (λk:AI=>Value.agg #[vI (BC k.hi),.int .u64 (IntKind.wrap .u64 k.lo)]) b r::L) h'):=by
 refine BA (l:=[.map (some b),i,.func (.func 102) #[.map (some b)] #[]]) 45 func101 O ntmps101 O λB=>?_;rw[Fa] at E;refine AU ?_;refine By O t CE O hs λq1 S2 h3 ap e5 k6=>?_;have k8:=k6.fl GH;obtain⟨v9,_,aq⟩:=k8.ll;refine AU ?_;refine AO (λa w=>∃(u:(List (AA×AI))),IV B S2 h3 (45,[]) a w [(4,q1),(2,.func (.func 102) #[.map (some b)] #[])] (MP (λk:AA=>Value.agg (AA.v k).toArray) (λk:AI=>Value.agg #[vI (BC k.hi),.int .u64 (IntKind.wrap .u64 k.lo)]) b u::L) λ_ _=>Ca N c u=some r) ?_ ?_
 ·refine AX (λn1=>λa w=>∃(q:Int) (x:(List (AA×AI))),IV B S2 h3 (45,[]) a w [(12,vI (↑c.D.length:Int)),(11,v9),(4,q1),(2,.func (.func 102) #[.map (some b)] #[]),(13,vI q)] (MP (λk:AA=>Value.agg (AA.v k).toArray) (λk:AI=>Value.agg #[vI (BC k.hi),.int .u64 (IntKind.wrap .u64 k.lo)]) b x::L) λ_ _=>AB q∧CY N c (Ca N c) n1 q x=some r) N ?_ ?_ ?_
  ·intro j m d g;exact⟨0,o,_,_,d.sub (kp [12,11,4,2,13] O),g,ap,(B9.refl S2 h3),(iq (n:=0) O),E⟩
  ·rintro j m ⟨_,_,_,_,_,_,_,_,_,E⟩;rw[CY] at E;cases E
  rintro n1 j m ⟨q,x,bm,bn,d,g,z,K,ar,E⟩;refine AK ?_ d g;clear d g m j;rw[CY] at E;refine AU ?_;refine AH O E (λau E=>?_) (λau E=>?_)
  ·refine AU ?_;refine AY (AU ?_);have av:=aq.mono' K;refine A6 E O O av H6.1 O λbo E bp aw=>?_;obtain⟨bq,_,ax⟩:=aw.ll;refine AU ?_;refine Bv (AU ?_);refine BQ E O O O TY O (λM Q=>HU z (iq (n:=0) O) ar ax Q) λM E br bs bt bu p=>?_;obtain⟨rfl,U⟩:=p;refine AU ?_;refine BE (AU ?_);refine WF.nil (λj m d g=>?_);exact⟨(BC (q+1)),M,_,_,d.sub (kp [12,11,4,2,13] O),g,U,EX,(BH _),E⟩
  refine BB O (λj m d g=>?_);exact⟨x,_,_,d.sub (kp [4,2] O),g,z,K,E⟩
 rintro j m ⟨u,C,F,d,g,V,ay,E⟩;refine AK ?_ d g;clear d g m j;rw[Ca] at E;have W:=k6.mono ay;have az:=W.fl Gu;obtain⟨a0,_,a1⟩:=az.ll;refine AU ?_;refine AO (λa w=>∃(G:(List (AA×AI))),IV B C F (45,[]) a w [(4,q1),(2,.func (.func 102) #[.map (some b)] #[])] (MP (λk:AA=>Value.agg (AA.v k).toArray) (λk:AI=>Value.agg #[vI (BC k.hi),.int .u64 (IntKind.wrap .u64 k.lo)]) b G::L) λ_ _=>CZ N c G=some r) ?_ ?_
 ·refine AX (λn3=>λa w=>∃(s:Int) (y:(List (AA×AI))),IV B C F (45,[]) a w [(25,vI (↑c.E.length:Int)),(24,a0),(4,q1),(2,.func (.func 102) #[.map (some b)] #[]),(26,vI s)] (MP (λk:AA=>Value.agg (AA.v k).toArray) (λk:AI=>Value.agg #[vI (BC k.hi),.int .u64 (IntKind.wrap .u64 k.lo)]) b y::L) λ_ _=>AB s∧CX N c (CZ N c) n3 s y=some r) N ?_ ?_ ?_
  ·intro j m d g;exact⟨0,u,_,_,d.sub (kp [25,24,4,2,26] O),g,V,(B9.refl C F),(iq (n:=0) O),E⟩
  ·rintro j m ⟨_,_,_,_,_,_,_,_,_,E⟩;rw[CX] at E;cases E
  rintro n3 j m ⟨s,y,bv,bw,d,g,A,X,bx,E⟩;refine AK ?_ d g;clear d g m j;rw[CX] at E;refine AU ?_;refine AH O E (λa2 E=>?_) (λa2 E=>?_)
  ·refine AU ?_;refine AY (AU ?_);have a3:=a1.mono' X;refine A6 E O O a3 Ki.1 O λbz E b0 a4=>?_;obtain⟨b1,_,a5⟩:=a4.lv;refine AU ?_;refine CF Oj O A λb2 b3 Y a6=>?_;have a7:=a5.mono a6;obtain⟨b4,rfl,b5,a8,a9⟩:=AS.ex a7;refine DL O O O ON Ot.1 O Y .head O λb6 Z ba=>AU ?_;refine Bv (AU ?_);have ab:=Z.pick (.tail .head);have bb:=a9.mono' ba;refine BQ E O O O TY O (λac ad=>HU ab (iq (n:=0) O) a8 bb ad) λac E b7 b8 b9 ca p=>?_;obtain⟨rfl,ae⟩:=p;refine AU ?_;refine BE (AU ?_);refine WF.nil (λj m d g=>?_);have af:=ae.drop (.tail .head);exact⟨(BC (s+1)),ac,_,_,d.sub (kp [25,24,4,2,26] O),g,af,EX,(BH _),E⟩
  refine BB O (λj m d g=>?_);exact⟨y,_,_,d.sub (kp [4,2] O),g,A,X,E⟩
 rintro j m ⟨G,cb,cc,d,g,ag,bc,E⟩;refine AK ?_ d g;clear d g m j;rw[CZ] at E;refine AU ?_;refine Bv ?_;have ah:=W.mono bc;have be:=ah.fl I8;obtain⟨cd,_,bf⟩:=be.ll;refine AU ?_;refine BQ E O O O TY O (λbg ai=>HU ag (iq (n:=1) O) (iq (n:=(-1)) O) bf ai) λbg E ce cf cg aj p=>?_;obtain⟨rfl,H⟩:=p;refine AU ?_;refine Bv ?_;have ak:=ah.mono aj;have am:=ak.fl HR;obtain⟨bh,_,an⟩:=am.ll;refine AU ?_;refine BQ E O O O TY O (λao I=>HU H (iq (n:=2) O) (iq (n:=(-1)) O) an I) λao E bi bj bk bl p=>?_;obtain⟨rfl,J⟩:=p;refine AU ?_;refine WF.nil (λj m d g=>?_);cases E;exact JA d O g I9 O EX ⟨O,J⟩
def RP (D:St S L h){b:Value}{p0_w:AI}(g:Rd S h Hm b p0_w){a:Int}(p:AB a){r:AI}(E:Jj N p0_w a=some r):
 B3 prog 186 #[b,vI a] S h (λv S' h'=>v= .agg #[vI r.hi,.int .u64 r.lo]∧AI.ok r∧St S' (L) h'):=by
 refine BA 22 func186 O ntmps186 O λB=>?_;rw[Jj] at E;refine AU ?_;refine By O g CE O D λK S2 M q Q F=>CF Wt O q λU V j s=>AU ?_;refine BY (.inl O) j ?_;have k:=F.mono s;have t:=k.fl M1;refine AU ?_;refine VY PF j.1 O t aV.1 O λl=>AU ?_;refine D9 O MJ Ip O ?_;have u:=aD (x:=p0_w.lo) (y:=(IntKind.wrap .u64 a)) (c:=0) l (Cw _ _) yF;refine gE O O (oE _ _ _ l (Cw _ _) yF) O (AU ?_);refine BJ (kp [6,5,4,2] O) λG m w=>?_;have H:=k.mono w;refine AU ?_;refine D9 O Ip MJ O ?_;obtain⟨n,d,E⟩:=bd E;have d:=Aa1 d;have z:AB n:=d▸BH _;refine kX O O O d (AU ?_);refine FY (cs:=[vI n,.int .u64 ((Km p0_w.lo (IntKind.wrap .u64 a) 0).1)]) W5 O O O (AU ?_);refine C7 O O O O So.1 O m .head O λI i J=>AU ?_;refine Bu (λW X A C=>?_);have o:=i.drop .head;cases E;exact JA A O C (G7 (UC A C i O mh So.1 O) I9) O EX ⟨O,⟨z,u.1⟩,o⟩
def Es {g:Nat}{m:(List (AA×AI))}(hs:St S (MP (λk:AA=>Value.agg (AA.v k).toArray) (λk:AI=>Value.agg #[vI (BC k.hi),.int .u64 (IntKind.wrap .u64 k.lo)]) g m::L) h){c:Int}(A:AB c){b:Int}(q:AB b){d:Value}{j:(List Int)}(l:Sl S h AC d j){r:(List (AA×AI))}(E:DK N m c b j=some r):
 B3 prog 103 #[.map (some g),vI c,vI b,d] S h (λv S' h'=>v= .tuple #[]∧St S' (MP (λk:AA=>Value.agg (AA.v k).toArray) (λk:AI=>Value.agg #[vI (BC k.hi),.int .u64 (IntKind.wrap .u64 k.lo)]) g r::L) h'):=by
 refine BA 30 func103 O ntmps103 O λB=>?_;rw[DK] at E;refine AU ?_;refine AY (AX (λn0=>λa w=>∃(p:Int) (D:(List (AA×AI))),IV B S h (30,[]) a w [(12,vI (↑j.length:Int)),(11,d),(0,.map (some g)),(1,vI c),(2,vI b),(13,vI p)] (MP (λk:AA=>Value.agg (AA.v k).toArray) (λk:AI=>Value.agg #[vI (BC k.hi),.int .u64 (IntKind.wrap .u64 k.lo)]) g D::L) λ_ _=>AB p∧Dx N c b j n0 p D=some r) N ?_ ?_ ?_)
 ·intro F G s t;exact⟨0,m,_,_,s.sub (kp [12,11,0,1,2,13] O),t,hs,(B9.refl S h),(iq (n:=0) O),E⟩
 ·rintro F G ⟨_,_,_,_,_,_,_,_,_,E⟩;rw[Dx] at E;cases E
 rintro n0 F G ⟨p,D,S8,h9,s,t,u,H,r6,E⟩;refine AK ?_ s t;clear s t G F;rw[Dx] at E;refine AU ?_;refine AH O E (λU E=>?_) (λU E=>?_)
 ·refine AU ?_;refine AY (AU ?_);have V:=l.mono' H;refine A6 E O O V Ct.1 O λac E ad W=>?_;have X:=W.i;refine AU ?_;refine FY (cs:=[vI c,vI b,vI p]) bI O O O (AU ?_);refine CF aB O u λae af I ag=>?_;refine C7 O O O O aW.1 O I .head O λah y ai=>AU ?_;refine MA 7 mo (by kernel_rfl) O y (AU ?_);refine Xd (k0:=(⟨c,b,p⟩:AA)) (z:=(⟨0,0⟩:AI)) PF y (mt mh) O O Sm SW Z4 O O (AU ?_);obtain⟨C,J,E⟩:=bd E;refine QZ O O O rZ O (λh' o=>RP (St.all h') (Hm.mk (x:=(⟨(BC (((MN (λk:AA=>Value.agg (AA.v k).toArray) D (⟨c,b,p⟩:AA)).getD (⟨0,0⟩:AI)).hi)),(IntKind.wrap .u64 (((MN (λk:AA=>Value.agg (AA.v k).toArray) D (⟨c,b,p⟩:AA)).getD (⟨0,0⟩:AI)).lo))⟩:AI)) ⟨(BH _),(Cw _ _)⟩) X J) λY=>?_;obtain⟨Z,ab⟩:=Y;refine KT λaj K ak=>Xf (k0:=(⟨c,b,p⟩:AA)) (x:=C) K (.tail .head) O O (Aaz some (cT C ⟨Z,ab⟩)).symm Sm SW λam M an=>AU ?_;refine BE (AU ?_);refine WF.nil (λF G s t=>?_);have Q:=M.sel [1] 1 O;exact⟨(BC (p+1)),(N1 (λk:AA=>Value.agg (AA.v k).toArray) D (⟨c,b,p⟩:AA) C),_,_,s.sub (kp [12,11,0,1,2,13] O),t,Q,EX,(BH _),E⟩
 refine KN O (WF.nil (λF G s t=>?_));cases E;exact JA s O t I9 O H ⟨O,u⟩
def MK {b:Nat}{o:(List (AA×AI))}(hs:St S (MP (λk:AA=>Value.agg (AA.v k).toArray) (λk:AI=>Value.agg #[vI (BC k.hi),.int .u64 (IntKind.wrap .u64 k.lo)]) b o::L) h){i:Value}{c:AE}(t:Rd S h A7 i c){r:(List (AA×AI))}(E:FZ N o c=some r):
 B3 prog 101 #[.map (some b),i,.func (.func 103) #[.map (some b)] #[]] S h (λv S' h'=>v= .tuple #[]∧St S' (MP (λk:AA=>Value.agg (AA.v k).toArray) (λk:AI=>Value.agg #[vI (BC k.hi),.int .u64 (IntKind.wrap .u64 k.lo)]) b r::L) h'):=by
 refine BA (l:=[.map (some b),i,.func (.func 103) #[.map (some b)] #[]]) 45 func101 O ntmps101 O λB=>?_;rw[FZ] at E;refine AU ?_;refine By O t CE O hs λq1 S2 h3 ap e5 k6=>?_;have k8:=k6.fl GH;obtain⟨v9,_,aq⟩:=k8.ll;refine AU ?_;refine AO (λa w=>∃(u:(List (AA×AI))),IV B S2 h3 (45,[]) a w [(4,q1),(2,.func (.func 103) #[.map (some b)] #[])] (MP (λk:AA=>Value.agg (AA.v k).toArray) (λk:AI=>Value.agg #[vI (BC k.hi),.int .u64 (IntKind.wrap .u64 k.lo)]) b u::L) λ_ _=>CW N c u=some r) ?_ ?_
 ·refine AX (λn1=>λa w=>∃(q:Int) (x:(List (AA×AI))),IV B S2 h3 (45,[]) a w [(12,vI (↑c.D.length:Int)),(11,v9),(4,q1),(2,.func (.func 103) #[.map (some b)] #[]),(13,vI q)] (MP (λk:AA=>Value.agg (AA.v k).toArray) (λk:AI=>Value.agg #[vI (BC k.hi),.int .u64 (IntKind.wrap .u64 k.lo)]) b x::L) λ_ _=>AB q∧CU N c (CW N c) n1 q x=some r) N ?_ ?_ ?_
  ·intro j m d g;exact⟨0,o,_,_,d.sub (kp [12,11,4,2,13] O),g,ap,(B9.refl S2 h3),(iq (n:=0) O),E⟩
  ·rintro j m ⟨_,_,_,_,_,_,_,_,_,E⟩;rw[CU] at E;cases E
  rintro n1 j m ⟨q,x,bm,bn,d,g,z,K,ar,E⟩;refine AK ?_ d g;clear d g m j;rw[CU] at E;refine AU ?_;refine AH O E (λau E=>?_) (λau E=>?_)
  ·refine AU ?_;refine AY (AU ?_);have av:=aq.mono' K;refine A6 E O O av H6.1 O λbo E bp aw=>?_;obtain⟨bq,_,ax⟩:=aw.ll;refine AU ?_;refine Bv (AU ?_);refine BQ E O O O QS O (λM Q=>Es z (iq (n:=0) O) ar ax Q) λM E br bs bt bu p=>?_;obtain⟨rfl,U⟩:=p;refine AU ?_;refine BE (AU ?_);refine WF.nil (λj m d g=>?_);exact⟨(BC (q+1)),M,_,_,d.sub (kp [12,11,4,2,13] O),g,U,EX,(BH _),E⟩
  refine BB O (λj m d g=>?_);exact⟨x,_,_,d.sub (kp [4,2] O),g,z,K,E⟩
 rintro j m ⟨u,C,F,d,g,V,ay,E⟩;refine AK ?_ d g;clear d g m j;rw[CW] at E;have W:=k6.mono ay;have az:=W.fl Gu;obtain⟨a0,_,a1⟩:=az.ll;refine AU ?_;refine AO (λa w=>∃(G:(List (AA×AI))),IV B C F (45,[]) a w [(4,q1),(2,.func (.func 103) #[.map (some b)] #[])] (MP (λk:AA=>Value.agg (AA.v k).toArray) (λk:AI=>Value.agg #[vI (BC k.hi),.int .u64 (IntKind.wrap .u64 k.lo)]) b G::L) λ_ _=>CV N c G=some r) ?_ ?_
 ·refine AX (λn3=>λa w=>∃(s:Int) (y:(List (AA×AI))),IV B C F (45,[]) a w [(25,vI (↑c.E.length:Int)),(24,a0),(4,q1),(2,.func (.func 103) #[.map (some b)] #[]),(26,vI s)] (MP (λk:AA=>Value.agg (AA.v k).toArray) (λk:AI=>Value.agg #[vI (BC k.hi),.int .u64 (IntKind.wrap .u64 k.lo)]) b y::L) λ_ _=>AB s∧CT N c (CV N c) n3 s y=some r) N ?_ ?_ ?_
  ·intro j m d g;exact⟨0,u,_,_,d.sub (kp [25,24,4,2,26] O),g,V,(B9.refl C F),(iq (n:=0) O),E⟩
  ·rintro j m ⟨_,_,_,_,_,_,_,_,_,E⟩;rw[CT] at E;cases E
  rintro n3 j m ⟨s,y,bv,bw,d,g,A,X,bx,E⟩;refine AK ?_ d g;clear d g m j;rw[CT] at E;refine AU ?_;refine AH O E (λa2 E=>?_) (λa2 E=>?_)
  ·refine AU ?_;refine AY (AU ?_);have a3:=a1.mono' X;refine A6 E O O a3 Ki.1 O λbz E b0 a4=>?_;obtain⟨b1,_,a5⟩:=a4.lv;refine AU ?_;refine CF Oj O A λb2 b3 Y a6=>?_;have a7:=a5.mono a6;obtain⟨b4,rfl,b5,a8,a9⟩:=AS.ex a7;refine DL O O O ON Ot.1 O Y .head O λb6 Z ba=>AU ?_;refine Bv (AU ?_);have ab:=Z.pick (.tail .head);have bb:=a9.mono' ba;refine BQ E O O O QS O (λac ad=>Es ab (iq (n:=0) O) a8 bb ad) λac E b7 b8 b9 ca p=>?_;obtain⟨rfl,ae⟩:=p;refine AU ?_;refine BE (AU ?_);refine WF.nil (λj m d g=>?_);have af:=ae.drop (.tail .head);exact⟨(BC (s+1)),ac,_,_,d.sub (kp [25,24,4,2,26] O),g,af,EX,(BH _),E⟩
  refine BB O (λj m d g=>?_);exact⟨y,_,_,d.sub (kp [4,2] O),g,A,X,E⟩
 rintro j m ⟨G,cb,cc,d,g,ag,bc,E⟩;refine AK ?_ d g;clear d g m j;rw[CV] at E;refine AU ?_;refine Bv ?_;have ah:=W.mono bc;have be:=ah.fl I8;obtain⟨cd,_,bf⟩:=be.ll;refine AU ?_;refine BQ E O O O QS O (λbg ai=>Es ag (iq (n:=1) O) (iq (n:=(-1)) O) bf ai) λbg E ce cf cg aj p=>?_;obtain⟨rfl,H⟩:=p;refine AU ?_;refine Bv ?_;have ak:=ah.mono aj;have am:=ak.fl HR;obtain⟨bh,_,an⟩:=am.ll;refine AU ?_;refine BQ E O O O QS O (λao I=>Es H (iq (n:=2) O) (iq (n:=(-1)) O) an I) λao E bi bj bk bl p=>?_;obtain⟨rfl,J⟩:=p;refine AU ?_;refine WF.nil (λj m d g=>?_);cases E;exact JA d O g I9 O EX ⟨O,J⟩
set_option maxHeartbeats 20000000
def O0 {b:Nat}{m:(List (AA×AI))}(hs:St S (MP (λk:AA=>Value.agg (AA.v k).toArray) (λk:AI=>Value.agg #[vI (BC k.hi),.int .u64 (IntKind.wrap .u64 k.lo)]) b m::L) h){c:Value}{d:AJ}(l:Rd S h BD c d){r:(List (AA×AI))}(E:H9 N m d=some r):
 B3 prog 104 #[.map (some b),c] S h (λv S' h'=>v= .tuple #[]∧St S' (MP (λk:AA=>Value.agg (AA.v k).toArray) (λk:AI=>Value.agg #[vI (BC k.hi),.int .u64 (IntKind.wrap .u64 k.lo)]) b r::L) h'):=by
 refine BA 30 func104 O ntmps104 O λB=>?_;rw[H9] at E;refine AU ?_;refine By O l CE O hs λq1 S2 h3 t e5 K=>AU ?_;refine HI (λa w=>∃(q:(List (AA×AI))),IV B S2 h3 (30,[]) a w [(3,q1),(0,.map (some b))] (MP (λk:AA=>Value.agg (AA.v k).toArray) (λk:AI=>Value.agg #[vI (BC k.hi),.int .u64 (IntKind.wrap .u64 k.lo)]) b q::L) λ_ _=>Fq N d q=some r) ?_ ?_
 ·refine AH O E (λM E=>?_) (λM E=>?_)
  ·refine Bv ?_;have Q:=K.fl AJ.f_Part;obtain⟨am,_,U⟩:=Q.ll;refine AU ?_;refine BQ E O O O QS O (λu x=>Es t (iq (n:=2) O) (iq (n:=(-1)) O) U x) λu E an ao ap V p=>?_;obtain⟨rfl,y⟩:=p;refine AU ?_;refine WF.nil (λz A g j=>?_);exact⟨u,_,_,g.sub (kp [3,0] O),j,y,V,E⟩
  refine Bv ?_;have W:=K.fl AJ.f_To;have X:=W.i;have Y:=K.fl AJ.f_Part;obtain⟨aq,_,Z⟩:=Y.ll;refine AU ?_;refine BQ E O O O QS O (λC D=>Es t (iq (n:=0) O) X Z D) λC E ar au av ab p=>?_;obtain⟨rfl,F⟩:=p;refine AU ?_;refine WF.nil (λz A g j=>?_);exact⟨C,_,_,g.sub (kp [3,0] O),j,F,ab,E⟩
 rintro z A ⟨q,aw,ax,g,j,o,ac,E⟩;refine AK ?_ g j;clear g j A z;rw[Fq] at E;have s:=K.mono ac;refine AU ?_;refine AH O E (λad E=>?_) (λad E=>?_)
 ·refine Bv ?_;have ae:=s.fl AJ.f_Part;obtain⟨ay,_,af⟩:=ae.ll;refine AU ?_;refine BQ E O O O QS O (λag G=>Es o (iq (n:=1) O) (iq (n:=(-1)) O) af G) λag E az a0 a1 a2 p=>?_;obtain⟨rfl,H⟩:=p;refine AU ?_;refine WF.nil (λz A g j=>?_);cases E;exact JA g O j I9 O EX ⟨O,H⟩
 refine Bv ?_;have ah:=s.fl AJ.f_From;have ai:=ah.i;have aj:=s.fl AJ.f_Part;obtain⟨a3,_,ak⟩:=aj.ll;refine AU ?_;refine BQ E O O O TY O (λal I=>HU o (iq (n:=0) O) ai ak I) λal E a4 a5 a6 a7 p=>?_;obtain⟨rfl,J⟩:=p;refine AU ?_;refine WF.nil (λz A g j=>?_);cases E;exact JA g O j I9 O EX ⟨O,J⟩
def IQ (hs:St S L h){F:Value}{I:AF}(ad:Rd S h BV F I){y:Value}{u:AE}(J:Rd S h A7 y u){z:Value}{x:AE}(M:Rd S h A7 z x){b:Value}{c:(List AJ)}(i:Sl S h BD b c){r:Bool}(E:Dq N I u x c=some r):
 B3 prog 28 #[F,y,z,b] S h (λv S' h'=>v= .bool r∧St S' (L) h'):=by
 refine BA 67 func28 O ntmps28 O λB=>?_;rw[Dq] at E;refine AU ?_;refine By O ad CE O hs λq1 S2 h3 b4 e5 k6=>?_;have k7:=J.mono e5;refine By O k7 CE O b4 λq8 S9 d1 a7 d2 b5=>?_;have b6:=M.nw;refine By O b6 CE O a7 λa8 ak d3 A b7 a9=>AU ?_;refine BY (.inl O) A ?_;have am:=k6.nw;obtain⟨d4,_,b8⟩:=am.lv;have ba:=b5.mono b7;obtain⟨d5,_,b9⟩:=ba.lv;refine AU ?_;refine A8 E O O O nE O (λbb bc h' o=>M8 (St.all h') (b8.mono (o.all A.1)) (b9.mono (o.all A.1)) bc) λbb E=>AU ?_;obtain⟨ca,j,E⟩:=bd E;refine AZ 5 25 (.bool ca) ?_ ?_
 ·cases be:(!bb)
  ·have j:=G3 be j;obtain⟨d6,_,cb⟩:=am.lv;obtain⟨d7,_,cc⟩:=a9.lv;refine AU ?_;refine A8 j O O O nE O (λcd bf h' o=>M8 (St.all h') (cb.mono (o.all A.1)) (cc.mono (o.all A.1)) bf) λcd j=>AU ?_;cases j;exact A0 O
  have j:=G2 be j;cases j;exact BG O O
 refine BJ (kp [25,6,5,4,3] O) λan bg ce=>AH O E (λcf E=>?_) (λcf E=>?_)
 ·exact RT
 have cg:=i.nw;refine AU ?_;refine AO (λa w=>IV B ak an (67,[]) a w [(6,a8),(5,q8),(3,b)] (L) λ_ _=>GU N u x c=some r) ?_ ?_
 ·refine AX (λn1=>λa w=>∃(Q:Int),IV B ak an (67,[]) a w [(27,vI (↑c.length:Int)),(26,b),(6,a8),(5,q8),(4,q1),(3,b),(28,vI Q)] (L) λ_ _=>AB Q∧FL N I c (GU N u x c) n1 Q=some r) N ?_ ?_ ?_
  ·intro m s d g;exact⟨0,_,_,d.sub (kp [27,26,6,5,4,3,28] O),g,bg,(B9.refl ak an),(iq (n:=0) O),E⟩
  ·rintro m s ⟨_,_,_,_,_,_,_,_,E⟩;rw[FL] at E;cases E
  rintro n1 m s ⟨Q,d8,d9,d,g,ae,bh,ea,E⟩;refine AK ?_ d g;clear d g s m;rw[FL] at E;refine AU ?_;refine AH O E (λch E=>?_) (λch E=>?_)
  ·refine AU ?_;refine AY (AU ?_);have ci:=cg.mono' bh;refine A6 E O O ci Ow.1 O λeb E ec cj=>?_;obtain⟨ed,_,ck⟩:=cj.lv;refine AU ?_;refine CF T3 O ae λee ef bi cl=>?_;have bj:=ck.mono cl;obtain⟨eg,rfl,eh,ei,ej,ek,el⟩:=BD.ex bj;refine DL O O O ON Rp.1 O bi .head O λem U cm=>AU ?_;refine BY (.inl O) U ?_;have cn:=am.nw;obtain⟨en,_,co⟩:=cn.lv;refine AU ?_;have V:=bj.mono cm;obtain⟨eo,bk,E⟩:=bd E;refine Jt O O O tC O (λh' o=>RU (St.all h') (co.mono (o.all U.1)) (V.mono (o.all U.1)) bk) (AU ?_);refine BJ (kp [35,27,26,6,5,4,3,28] O) λep bl eq=>AH O E (λcp E=>?_) (λcp E=>?_)
   ·exact RT
   refine AU ?_;refine BE (AU ?_);refine WF.nil (λm s d g=>?_);have bm:=bl.drop .head;exact⟨(BC (Q+1)),_,_,d.sub (kp [27,26,6,5,4,3,28] O),g,bm,EX,(BH _),E⟩
  refine BB O (λm s d g=>?_);exact⟨_,_,d.sub (kp [6,5,3] O),g,ae,bh,E⟩
 rintro m s ⟨er,es,d,g,bn,eu,E⟩;refine AK ?_ d g;clear d g s m;rw[GU] at E;refine AU ?_;refine hJ (K:=0) (E:=0) O bn (λk:AA=>Value.agg (AA.v k).toArray) (λk:AI=>Value.agg #[vI (BC k.hi),.int .u64 (IntKind.wrap .u64 k.lo)]) λW ev bo ew=>AU ?_;refine Bv ?_;have cq:=a9.nw;obtain⟨cu,_,bp⟩:=cq.lv;refine AU ?_;refine PU O O O (AU ?_);refine BQ E O O O fO O (λbq ao=>ML bo bp ao) λbq E cv cw cx br p=>?_;obtain⟨rfl,ap⟩:=p;refine AU ?_;refine Bv ?_;have bs:=ba.mono ((ce.trans EX).trans br);obtain⟨cy,_,bt⟩:=bs.lv;refine AU ?_;refine PU O O O (AU ?_);refine BQ E O O O fO O (λaf aq=>MK ap bt aq) λaf E cz X Y c0 p=>?_;obtain⟨rfl,ar⟩:=p;have bu:=i.nw;refine AU ?_;refine AO (λa w=>∃(t:(List (AA×AI))),IV B X Y (67,[]) a w [(11,.map (some W))] (MP (λk:AA=>Value.agg (AA.v k).toArray) (λk:AI=>Value.agg #[vI (BC k.hi),.int .u64 (IntKind.wrap .u64 k.lo)]) W t::L) λ_ _=>FM N t=some r) ?_ ?_
 ·refine AX (λn3=>λa w=>∃(C:Int) (G:(List (AA×AI))),IV B X Y (67,[]) a w [(49,vI (↑c.length:Int)),(48,b),(11,.map (some W)),(50,vI C)] (MP (λk:AA=>Value.agg (AA.v k).toArray) (λk:AI=>Value.agg #[vI (BC k.hi),.int .u64 (IntKind.wrap .u64 k.lo)]) W G::L) λ_ _=>AB C∧FK N c (FM N) n3 C G=some r) N ?_ ?_ ?_
  ·intro m s d g;exact⟨0,af,_,_,d.sub (kp [49,48,11,50] O),g,ar,(B9.refl X Y),(iq (n:=0) O),E⟩
  ·rintro m s ⟨_,_,_,_,_,_,_,_,_,E⟩;rw[FK] at E;cases E
  rintro n3 m s ⟨C,G,c1,c2,d,g,Z,ag,c3,E⟩;refine AK ?_ d g;clear d g s m;rw[FK] at E;refine AU ?_;refine AH O E (λbv E=>?_) (λbv E=>?_)
  ·refine AU ?_;refine AY (AU ?_);have bw:=bu.mono' ag;refine A6 E O O bw Ow.1 O λc4 E c5 bx=>?_;obtain⟨c6,_,bz⟩:=bx.lv;refine AU ?_;refine CF T3 O Z λc7 c8 au b0=>?_;have ah:=bz.mono b0;obtain⟨c9,rfl,da,db,dc,dd,de⟩:=BD.ex ah;refine DL O O O ON Rp.1 O au .head O λdf av b1=>AU ?_;refine Bv (AU ?_);have aw:=av.pick (.tail .head);have H:=ah.mono b1;obtain⟨b2,ax,E⟩:=bd E;refine EQ O O O tB O (O0 aw H ax) λdg dh di dj p=>?_;obtain⟨rfl,ay⟩:=p;refine AU ?_;refine BE (AU ?_);refine WF.nil (λm s d g=>?_);have az:=ay.drop (.tail .head);exact⟨(BC (C+1)),b2,_,_,d.sub (kp [49,48,11,50] O),g,az,EX,(BH _),E⟩
  refine BB O (λm s d g=>?_);exact⟨G,_,_,d.sub (kp [11] O),g,Z,ag,E⟩
 rintro m s ⟨t,ai,dk,d,g,a0,dl,E⟩;refine AK ?_ d g;clear d g s m;rw[FM] at E;refine AU ?_;refine Zs a0 O Sm O λab aj a1 dm=>AU ?_;refine AY (AX (λn1=>λa w=>∃(l:List (AA×AI)) (S':Nat→Prop) (h':AV),Fr (67,[]) a [(59,(vP ab 0))]∧Wd B h' w∧St S' (MI (λk:AA=>Value.agg (AA.v k).toArray) (λk:AI=>Value.agg #[vI (BC k.hi),.int .u64 (IntKind.wrap .u64 k.lo)]) W ab t l::L) h'∧B9 ai aj S' h'∧l.length<n1∧cond (List.all l (λe=>(GT N e).isNone)) (J0 N) (some false)=some r) (t.length+1) ?_ ?_ ?_)
 ·intro m s d g;exact⟨t,_,_,d.sub (kp [59] O),g,a1,(B9.refl ai aj),Nat.lt_succ_self _,E⟩
 ·rintro m s ⟨_,_,_,_,_,_,_,a2,_⟩;exact absurd a2 (Nat.not_lt_zero _)
 rintro n1 m s ⟨l,dn,dp,d,g,ac,dq,a2,E⟩;refine AK ?_ d g;clear d g s m;refine AU ?_;refine hE ac O O (λD=>?_) (λdr ds dt du D a3 dv cr=>?_)
 ·subst D;have E:J0 N=some r:=E;rw[J0] at E;have ct:=ac.miMP;refine AU ?_;exact Tc O (KN O (RT))
 subst D;have E:=Zb (f:=GT N) (λ_ _ hy=>eW hy) E;rw[GT] at E;simp only[jF,Option.some_or,Option.none_or] at E;refine AU ?_;refine VQ O (AU ?_);refine AY (AU ?_);refine LU 2 (Zp O cr O (AU ?_));refine CF Wt O a3 λdw dx a4 dy=>?_;refine C7 O O O O So.1 O a4 .head O λdz a5 d0=>AU ?_;refine FY (cs:=[vI 0,.int .u64 0]) W5 O O O (gK O O qJ O O O O (AU ?_));refine AH O E (λb3 E=>?_) (λb3 E=>?_)
 ·exact RT
 refine AU ?_;refine BE (WF.nil (λm s d g=>?_));have a6:=a5.sel [1] 1 O;exact⟨_,_,_,d.sub (kp [59] O),g,a6,EX,(by simp only[Abi,Acj] at a2 ⊢;omega),E⟩
def OZ (hs:St S L h) (E:Ed N=some true):
 B3 prog 24 #[] S h (λv S' h'=>v= .bool true∧St S' (L) h'):=by
 refine BA 180 func24 O ntmps24 O λB=>?_;rw[Ed] at E;refine AU ?_;refine Bv ?_;refine BQ E O O O xA O (λy1 qb=>Oa hs qb) λy1 E v2 S3 h4 e5 p=>?_;obtain⟨k7,qc⟩:=p;refine CF Z6 O qc λb9 wo ne qd=>?_;have a1:=k7.mono qd;obtain⟨cl,cm,cn,co,cp,cq,cr,ct,rfl,dc,wp,dd,wq,wr,ws,wt,wu,wv,wx,de⟩:=BV.ex a1;refine DL O O O ON Xo.1 O ne .head O λwy nf ng=>AU ?_;refine Bv (AU ?_);have cu:=a1.mono ng;obtain⟨am,nh,E⟩:=bd E;refine EQ O O O xH O (Sr nf cu (iq (n:=5) O) nh) λwz w2 w3 w4 p=>?_;obtain⟨qe,ni⟩:=p;refine CF MC O ni λeo w5 nj qf=>?_;have a8:=qe.mono qf;obtain⟨bi,bj,bk,bl,bm,bn,rfl,cv,w6,w7,w8,w9,xa,xb⟩:=A7.ex a8;refine DL O O O ON Ho.1 O nj .head O λxc nk xd=>AU ?_;refine Bv (AU ?_);refine Dn (cs:=[vI 10]) HZ O O O O O O O nk λnl xe nm xf=>AU ?_;have nn:=nm.bxos (r:=AC) (l:=([10]:List Int)) .head ⟨_,_,O,⟨O,(iq (n:=10) O)⟩,O⟩ (by simp [maxLen]);obtain⟨xg,no,xh,qg⟩:=nn.pubs .head;refine FY (cs:=[(.slice (some ⟨nl,0,none⟩) 1 1),vN,vN,vN,vN]) vB O O O (AU ?_);refine Dn (cs:=[(.slice (some ⟨nl,0,none⟩) 1 1),vN,vN,vN,vN]) wW O O O O O O O no λxi xj np qh=>?_;have qi:=qg.mono' qh;have nq:=np.bxos (r:=Ge) (l:=RZ) .head ⟨_,_,O,⟨_,_,_,_,_,O,qi,(.inl ⟨O,O⟩),(.inl ⟨O,O⟩),(.inl ⟨O,O⟩),(.inl ⟨O,O⟩)⟩,O⟩ (by simp [maxLen,RZ]);obtain⟨xk,nr,xl,qj⟩:=nq.pubs .head;have cw:=a1.nw;have cf:=a8.nw;obtain⟨ac,ep,E⟩:=bd E;refine EQ O O O nM O (O1 nr cw cf qj ep) λti tj tk tl p=>?_;obtain⟨dy,dz,d0,rfl,eq⟩:=p;refine AU ?_;refine Dn (cs:=[vI 10]) HZ O O O O O O O eq λd1 tm er tn=>AU ?_;have es:=er.bxos (r:=AC) (l:=([10]:List Int)) .head ⟨_,_,O,⟨O,(iq (n:=10) O)⟩,O⟩ (by simp [maxLen]);obtain⟨tp,eu,tq,ns⟩:=es.pubs .head;refine FY (cs:=[vI 3,vI 0,vI 0,vI 0,(.slice (some ⟨d1,0,none⟩) 1 1)]) UB O O O (AU ?_);refine Dn (cs:=[vI 2,vI 3]) HZ O O O O O O O eu λd2 tr ev ts=>AU ?_;have ew:=ev.bxos (r:=AC) (l:=([2,3]:List Int)) .head ⟨_,_,O,⟨O,(iq (n:=2) O)⟩,⟨_,_,O,⟨O,(iq (n:=3) O)⟩,O⟩⟩ (by simp [maxLen]);obtain⟨tt,ey,tu,nt⟩:=ew.pubs .head;refine FY (cs:=[vI 3,vI 0,vI 0,vI 0,(.slice (some ⟨d2,0,none⟩) 2 2)]) UB O O O (AU ?_);refine Dn (cs:=[vI 7]) HZ O O O O O O O ey λd3 tv ez tw=>AU ?_;have e0:=ez.bxos (r:=AC) (l:=([7]:List Int)) .head ⟨_,_,O,⟨O,(iq (n:=7) O)⟩,O⟩ (by simp [maxLen]);obtain⟨tx,e1,ty,nu⟩:=e0.pubs .head;refine FY (cs:=[vI 5,vI 0,vI 0,vI 0,(.slice (some ⟨d3,0,none⟩) 1 1)]) UB O O O (AU ?_);refine Dn (cs:=[vI 9]) HZ O O O O O O O e1 λd4 tz e2 t0=>AU ?_;have e3:=e2.bxos (r:=AC) (l:=([9]:List Int)) .head ⟨_,_,O,⟨O,(iq (n:=9) O)⟩,O⟩ (by simp [maxLen]);obtain⟨t1,e4,t2,nv⟩:=e3.pubs .head;refine FY (cs:=[vI 4,vI 1,vI 0,vI 0,(.slice (some ⟨d4,0,none⟩) 1 1)]) UB O O O (AU ?_)
 refine Dn (cs:=[vI 3,vI 0,vI 0,vI 0,(.slice (some ⟨d1,0,none⟩) 1 1),vI 3,vI 0,vI 0,vI 0,(.slice (some ⟨d2,0,none⟩) 2 2),vI 5,vI 0,vI 0,vI 0,(.slice (some ⟨d3,0,none⟩) 1 1),vI 4,vI 1,vI 0,vI 0,(.slice (some ⟨d4,0,none⟩) 1 1)]) PC O O O O O O O e4 λt3 t4 e6 nx=>AU ?_;refine Bv (AU ?_);have ny:=nv.mono' nx;have nz:=nu.nw;have n0:=nt.nw;have n1:=ns.nw;have e7:=e6.bxos (r:=BD) (l:=RY) .head ⟨_,_,O,⟨_,O,(iq (n:=3) O),(iq (n:=0) O),(iq (n:=0) O),(iq (n:=0) O),n1⟩,⟨_,_,O,⟨_,O,(iq (n:=3) O),(iq (n:=0) O),(iq (n:=0) O),(iq (n:=0) O),n0⟩,⟨_,_,O,⟨_,O,(iq (n:=5) O),(iq (n:=0) O),(iq (n:=0) O),(iq (n:=0) O),nz⟩,⟨_,_,O,⟨_,O,(iq (n:=4) O),(iq (n:=1) O),(iq (n:=0) O),(iq (n:=0) O),ny⟩,O⟩⟩⟩⟩ (by simp [maxLen,RY]);obtain⟨t5,a3,t6,n2⟩:=e7.pubs .head;refine CQ E O O O xJ O a3 (λd5 e8=>Uw (St.all _) (n2.mono a3.ea.1 a3.ea.2) (iq (n:=0) O) (iq (n:=2) O) (iq (n:=6) O) e8) λd5 E av t7 t8 qk t9 n3 p=>?_;have e9:=p;have cx:=a3.join n3 e9 ⟨OS.flat (λ{_ _ _ _ _ _} k=>k),trivial⟩;simp only[Abw,Abj] at cx;refine AU ?_;refine Bv (AU ?_);have cg:=a1.nw;obtain⟨d6,fa,E⟩:=bd E;refine EQ O O O nH O (Qn cx cg (by first|assumption|decide) fa) λua cy ub uc p=>?_;obtain⟨ud,rfl,n4,fb⟩:=p;refine AU ?_;refine CF MC O fb λn5 ue fc n6=>?_;have n7:=n4.mono n6;obtain⟨n8,n9,oa,ob,oc,od,rfl,uf,ug,uh,ui,uj,uk,ul⟩:=A7.ex n7;refine DL O O O ON Ho.1 O fc .head O λca Y um=>AU ?_;refine Rk (kp [9,7,5,4,3,2,1] O) ?_;obtain⟨d7,fd,E⟩:=bd E;obtain⟨U,fe,E⟩:=bd E;refine Yk (m:=[(9,.bool d6.2),(7,av),(5,d0),(4,dz),(3,dy),(2,vP eo 0),(1,vP b9 0)]) [8,9] [6] [7] (λX i v g=>match i with|0=>v= .agg #[.string y1.J,cl,vI y1.P,cm,cn,co,cp,cq,cr,ct,vI y1.Q]∧y1.J.size≤maxLen∧AB y1.P∧AB y1.Q|1=>v= .agg #[vI am.B,bi,bj,bk,bl,bm,bn]∧AB am.B|2=>v= .string d7∧d7.size≤maxLen|3=>∃w0 w1:Value,v= .tuple #[w0,w1]∧(Rd (SX cy ca g X) g A7 w0 U.1)∧(w1= .bool U.2)|4=>∃w0 w1:Value,v= .tuple #[w0,w1]∧(Rd (SX cy ca g X) g A7 w0 U.1)∧(w1= .bool U.2)|5=>Rd (SX cy ca g X) g A7 v U.1|6=>v= .bool U.2|7=>Z3 ca 36 [vI 0,vN,vN,vN,vN,vN,vN] v g|_=>False) [[],[],[(1,45)],[(0,44),(2,46)],[(3,47)],[(4,43)],[(4,43)],[],[],[]] [(5,48),(6,49),(7,10)] mo (by kernel_rfl) [9,7,5,4,3,2,1] O (by kernel_rfl) (by kernel_rfl) (by kernel_rfl) O (kp [9,7,5,4,3,2,1] O) (λi v h1 h2 X X' o1 o2 u1 u2 hr=>?_) (by kernel_rfl) (fT (T:=36) (λ_=>rfl) Yg) ?_ ?_ ?_
 ·match i,hr with
   |0,hr|1,hr|2,hr|6,hr=>exact hr
   |3,hr|4,hr=>obtain⟨w0,w1,e,k0,k1⟩:=hr;exact⟨w0,w1,e,(Rd.mono k0 (SX.mono Y.1 o1 o2 u1 u2)),k1⟩
   |5,hr=>exact(Rd.mono hr (SX.mono Y.1 o1 o2 u1 u2))
   |7,hr=>exact hr.mono o2
   |_+8,hr=>exact hr.elim
 ·refine RE.cons [(4,43)] (by kernel_rfl) O O (by kernel_rfl) ?_ ?_
  ·intro X u g o;intro un oe;obtain⟨og,uo,rfl,d8,oh⟩:=oe;have d8:Rd _ _ A7 og U.1:=d8;cases oh;intro a hf;exact⟨.bool U.2,Ww hf O O,O⟩
  exact trivial
 ·refine F8.cons O O O ?_ ?_
  ·intro X u g o hX;have d:=o.st Y;refine AU ?_;exact A5 ⟨O,dc,dd,de⟩
  refine F8.cons O O O ?_ ?_
  ·intro X u g o hX;have d:=o.st Y;refine AU ?_;exact A5 ⟨O,cv⟩
  refine F8.cons O O O ?_ ?_
  ·intro X u g o hX;intro up oi;have d:=Mt (X:=X) Y o;obtain⟨rfl,uq⟩:=oi;have ch:=a8.nw;refine FA O O O nG O d (P1 (St.all _) (ch.mono d.ea) fd) λur us ut ql uu d9 p=>?_;obtain⟨rfl,oj,qm⟩:=p;exact A9 ⟨d9.siz,λb hb=>d9.same b hb⟩ ⟨O,oj⟩
  refine F8.cons O O O ?_ ?_
  ·intro X u g o hX;intro uv ok uw ol;have d:=Mt (X:=X) Y o;obtain⟨rfl,ux,uy,uz⟩:=ok;obtain⟨rfl,om⟩:=ol;have ff:=d.fz;have ci:=a1.nw;refine EQ O O O nH O (Qn ff ci om fe) λu0 u3 u4 oo p=>?_;obtain⟨u5,rfl,op,fg⟩:=p;have cz:=SX.done o hX oo fg;exact A9 cz.1 ⟨_,_,O,(Rd.mono op cz.2),O⟩
  refine F8.cons O O O ?_ ?_
  ·intro X u g o hX;intro u6 oq;have d:=Mt (X:=X) Y o;obtain⟨os,u7,rfl,c0,ot⟩:=oq;have c0:Rd _ _ A7 os U.1:=c0;cases ot;refine AU ?_;exact A5 ⟨_,_,O,c0,O⟩
  refine F8.cons O O O ?_ ?_
  ·intro X u g o hX;intro u8 ou;have d:=Mt (X:=X) Y o;obtain⟨ov,u9,rfl,c1,ow⟩:=ou;have c1:Rd _ _ A7 ov U.1:=c1;cases ow;refine AU ?_;exact A5 c1
  refine F8.cons O O O ?_ ?_
  ·intro X u g o hX;intro va ox;have d:=o.st Y;obtain⟨oy,vb,rfl,eb,oz⟩:=ox;have eb:Rd _ _ A7 oy U.1:=eb;cases oz;refine AU ?_;exact A5 O
  exact F8.al (λ_=>rfl) MC O (F8.skip (by kernel_rfl) (F8.skip (by kernel_rfl) (trivial)))
 intro vc vd o0 fh o3 cb ve o4 vf o5 qn fi;obtain⟨ec,rfl,o6,o7,o8⟩:=o5;have fj:=(iJ.cons (iJ.nil Y o0 fh) o6 o7 o8 Abm (fi.at_ (s:=10) (by kernel_rfl) O O)).st;have cb:Rd _ _ A7 o3 U.1:=cb;cases o4;obtain⟨ed,ee,ef,eg,eh,ei,rfl,vg,vh,vi,vj,vk,vl,vm⟩:=A7.ex cb;refine DL O O O ON Ho.1 O fj .head O λvn bo vo=>AU ?_;refine BY (.inl O) bo (AU ?_);have cj:=a1.nw;obtain⟨K,fk,E⟩:=bd E;refine If (v:= .tuple #[vI K.1,vI K.2]) (Ψ:=AB K.1∧AB K.2) O O O xI O (λh' o=>(S5 (St.all h') (cj.mono (o.all bo.1)) ((bo.oslAll (mt (mt (mt (mt mh))))).mono (λb hb=>Aa9 hb o.siz) (λb hb=>o.same b hb)) (iq (n:=1) O) fk).mono λ_ _ _ _ p=>⟨p.1,⟨p.2.1,p.2.2.1⟩⟩) λo9=>?_;obtain⟨pa,pb⟩:=o9;refine AU ?_;refine BJ (kp [13,12,11,10,9,7,5,4,3,2,1] O) λvp c2 pc=>AU ?_;refine BY (.inl O) c2 (AU ?_);have ck:=a1.mono ((((ng.trans EX).trans EX).trans EX).trans pc);obtain⟨vq,fm,E⟩:=bd E;refine Jt O O O nF O (λh' o=>OQ (St.all h') (ck.mono (o.all c2.1)) fm) (AU ?_);refine BJ (kp [85,13,12,10,7,4,3,2,1] O) λa2 aj vr=>QV O (λc3=>?_) (λc3=>?_)
 ·cases G2 c3 E
 have E:=G3 c3 E;refine AU ?_;obtain⟨vs,fn,E⟩:=bd E;refine BS aj (mt (mt (mt mh))) O O Sw.1 fn O λvt fo=>Xe O fo VF.1 O λvu fp=>?_;obtain⟨pd,fq,E⟩:=bd E;have pe:=aj.epAt (mt (mt (mt mh))) fq GH fp;refine JG LD (λ_ x=>x) O pe Rq.1 O λvv vw=>AU ?_;obtain⟨ej,M,E⟩:=bd E;refine AZ 9 101 (.bool ej) ?_ ?_
 ·cases ek:(decide ((↑pd.D.length:Int)≠3))
  ·have M:=G3 ek M;refine AU ?_;obtain⟨vx,fr,M⟩:=bd M;refine BS aj (mt (mt (mt mh))) O O Sw.1 fr O λvy fs=>AU ?_;refine Xe O fs VF.1 O λvz ft=>AU ?_;obtain⟨v0,fu,M⟩:=bd M;have pf:=aj.epAt (mt (mt (mt mh))) fu GH ft;refine JG LD (λ_ x=>x) O pf Rq.1 O λv3 pg=>AU ?_;refine A6 M O O pg H6.1 O λv4 M v5 v6=>AU ?_;cases M;exact A0 O
  have M:=G2 ek M;cases M;exact BG O O
 refine AU ?_;obtain⟨ph,Z,E⟩:=bd E;refine AZ 7 109 (.bool ph) ?_ ?_
 ·cases el:ej
  ·have Z:=G3 el Z;refine AU ?_;obtain⟨v7,fv,Z⟩:=bd Z;refine BS aj (mt (mt (mt mh))) O O Sw.1 fv O λv8 fw=>AU ?_;refine Xe O fw jZ.1 O λv9 fx=>AU ?_;obtain⟨wa,fy,Z⟩:=bd Z;have pi:=aj.epAt (mt (mt (mt mh))) fy HR fx;refine JG LD (λ_ x=>x) O pi G6.1 O λwb wc=>AU ?_;cases Z;exact A0 O
  have Z:=G2 el Z;cases Z;exact BG O O
 refine AU ?_;refine QV O (λc4=>?_) (λc4=>?_)
 ·cases G2 c4 E
 have E:=G3 c4 E;refine AU ?_;obtain⟨wd,f0,we,cc⟩:=aj.pubs (.tail (.tail (.tail .head)));obtain⟨j,c,wf,em⟩:=f0.pubs (.tail (.tail (.tail .head)));obtain⟨c5,f1,E⟩:=bd E;obtain⟨wg,ab,E⟩:=bd E;obtain⟨wh,V,E⟩:=bd E;obtain⟨wi,A,E⟩:=bd E;obtain⟨wj,y,E⟩:=bd E;obtain⟨wk,C,E⟩:=bd E;obtain⟨wl,z,E⟩:=bd E;obtain⟨wm,t,E⟩:=bd E;obtain⟨wn,G,E⟩:=bd E;obtain⟨pj,F,E⟩:=bd E;refine HI (λa w=>IV B j a2 (180,[]) a w [(0,.bool pj)] (Bx ec 36 [vI U.1.B,ed,ee,ef,eg,eh,ei]::Bx n5 36 [vI d6.1.B,n8,n9,oa,ob,oc,od]::OS AC 3 av d5::OS (A4.sl AC) 29 d0 ac.2.2::Bx eo 36 [vI am.B,bi,bj,bk,bl,bm,bn]::Bx b9 31 [.string y1.J,cl,vI y1.P,cm,cn,co,cp,cq,cr,ct,vI y1.Q]::L) λ_ _=>True) ?_ ?_
 ·rcases kL c5 with ak|ak
  ·have ab:=G3 ak ab;have pk:=Aa1 ab;subst pk;have pl:=Aa1 V;subst pl;have pm:=Aa1 A;subst pm;have pn:=Aa1 y;subst pn;have po:=Aa1 C;subst po;have pp:=Aa1 z;subst pp;have pq:=Aa1 t;subst pq;have pr:=Aa1 G;subst pr;have ps:=Aa1 F;subst ps;cases E
  have ab:=G2 ak ab;obtain⟨en,f2,ab⟩:=bd ab;obtain⟨cd,f3,ab⟩:=bd ab;have pt:=Aa1 ab;subst pt;rcases kL cd with ad|ad
  ·have V:=G3 ad V;have pu:=Aa1 V;subst pu;have pv:=Aa1 A;subst pv;have pw:=Aa1 y;subst pw;have px:=Aa1 C;subst px;have py:=Aa1 z;subst py;have pz:=Aa1 t;subst pz;have p0:=Aa1 G;subst p0;have p1:=Aa1 F;subst p1;cases E
  have V:=G2 ad V;obtain⟨a4,df,V⟩:=bd V;obtain⟨a5,dg,V⟩:=bd V;have f4:=Aa1 V;subst f4;rcases kL a5 with H|H
  ·have A:=G3 H A;have f5:=Aa1 A;subst f5;have f6:=Aa1 y;subst f6;have f7:=Aa1 C;subst f7;have f8:=Aa1 z;subst f8;have f9:=Aa1 t;subst f9;have ga:=Aa1 G;subst ga;have gb:=Aa1 F;subst gb;cases E
  have A:=G2 H A;obtain⟨a6,dh,A⟩:=bd A;obtain⟨c6,di,A⟩:=bd A;obtain⟨aw,dj,A⟩:=bd A;have gc:=Aa1 A;subst gc;rcases kL (!aw) with I|I
  ·have y:=G3 I y;have gd:=Aa1 y;subst gd;have ge:=Aa1 C;subst ge;have gf:=Aa1 z;subst gf;have gg:=Aa1 t;subst gg;have gh:=Aa1 G;subst gh;have gi:=Aa1 F;subst gi;cases E
  have y:=G2 I y;obtain⟨an,dk,y⟩:=bd y;obtain⟨a7,dl,y⟩:=bd y;obtain⟨af,dm,y⟩:=bd y;have gj:=Aa1 y;subst gj;rcases kL (decide (af=63)) with W|W
  ·have C:=G3 W C;have gl:=Aa1 C;subst gl;have gm:=Aa1 z;subst gm;have gn:=Aa1 t;subst gn;have gp:=Aa1 G;subst gp;have gq:=Aa1 F;subst gq;cases E
  have C:=G2 W C;obtain⟨ao,dn,C⟩:=bd C;obtain⟨ag,dp,C⟩:=bd C;have gr:=Aa1 C;subst gr;rcases kL (decide (ag=15)) with ah|ah
  ·have z:=G3 ah z;have gs:=Aa1 z;subst gs;have gt:=Aa1 t;subst gt;have gu:=Aa1 G;subst gu;have gv:=Aa1 F;subst gv;cases E
  have z:=G2 ah z;obtain⟨qo,dq,z⟩:=bd z;obtain⟨ap,dr,z⟩:=bd z;have gw:=Aa1 z;subst gw;rcases kL (decide (ap=15)) with ai|ai
  ·have t:=G3 ai t;have gx:=Aa1 t;subst gx;have gy:=Aa1 G;subst gy;have gz:=Aa1 F;subst gz;cases E
  have t:=G2 ai t;obtain⟨qp,ds,t⟩:=bd t;obtain⟨aq,dt,t⟩:=bd t;have g0:=Aa1 t;subst g0;rcases kL (decide (aq=7)) with ar|ar
  ·have G:=G3 ar G;have g1:=Aa1 G;subst g1;have g2:=Aa1 F;subst g2;cases E
  have G:=G2 ar G;have g3:=Aa1 G;subst g3;rcases kL (decide (K.1=7)) with au|au
  ·have F:=G3 au F;have g4:=Aa1 F;subst g4;cases E
  have F:=G2 au F;have g5:=Aa1 F;subst g5;refine Ms (m:=[(13,vI K.2),(12,vI K.1),(10,vP ec 0),(7,av),(4,dz),(3,dy),(2,vP eo 0),(1,vP b9 0)]) 71 (λi v g=>match i with|0=>v= .agg #[vI U.1.B,ed,ee,ef,eg,eh,ei]∧AB U.1.B|1=>v= .agg #[vI am.B,bi,bj,bk,bl,bm,bn]∧AB am.B|2=>v= .bool c5|3=>v= .bool c5|4=>v= .agg #[.string y1.J,cl,vI y1.P,cm,cn,co,cp,cq,cr,ct,vI y1.Q]∧y1.J.size≤maxLen∧AB y1.P∧AB y1.Q|5=>v= .agg #[vI am.B,bi,bj,bk,bl,bm,bn]∧AB am.B|6=>Rd (SN j a2 g) g A7 v en|7=>v= .agg #[vI am.B,bi,bj,bk,bl,bm,bn]∧AB am.B|8=>v= .bool cd|9=>v= .bool cd|10=>v= .bool cd|11=>v= .agg #[.string y1.J,cl,vI y1.P,cm,cn,co,cp,cq,cr,ct,vI y1.Q]∧y1.J.size≤maxLen∧AB y1.P∧AB y1.Q|12=>v= .agg #[vI am.B,bi,bj,bk,bl,bm,bn]∧AB am.B|13=>Sl j g A7 v ac.1|14=>Pt j g A7 v a4|15=>Rd j g A7 v a4|16=>Sl j g BD v ac.2.1|17=>v= .bool a5|18=>v= .bool a5|19=>v= .bool a5|20=>v= .agg #[.string y1.J,cl,vI y1.P,cm,cn,co,cp,cq,cr,ct,vI y1.Q]∧y1.J.size≤maxLen∧AB y1.P∧AB y1.Q|21=>v= .agg #[vI am.B,bi,bj,bk,bl,bm,bn]∧AB am.B|22=>Sl j g A7 v ac.1|23=>Pt j g A7 v a6|24=>Rd j g A7 v a6|25=>Sl j g BD v ac.2.1|26=>Sl j g BD v c6|27=>v= .bool aw|28=>v= .bool (!aw)|29=>v= .bool (!aw)|30=>v= .bool (!aw)|31=>Sl j g A7 v ac.1|32=>Pt j g A7 v an|33=>Pt j g (A4.sl (A4.sl AC)) v an.D|34=>Sl j g (A4.sl AC) v an.D|35=>Pt j g (A4.sl AC) v a7|36=>Sl j g AC v a7|37=>Pt j g AC v af|38=>v=vI af∧AB af|39=>v= .bool (decide (af=63))|40=>v= .bool (decide (af=63))|41=>v= .bool (decide (af=63))|42=>Sl j g A7 v ac.1|43=>Pt j g A7 v ao|44=>Pt j g (A4.sl AC) v ao.L|45=>Sl j g AC v ao.L|46=>Pt j g AC v ag|47=>v=vI ag∧AB ag|48=>v= .bool (decide (ag=15))|49=>v= .bool (decide (ag=15))|50=>v= .bool (decide (ag=15))|51=>v=av|52=>EP av ((1:Int).toNat*(AC).sz+0) v|53=>v=vI ap∧AB ap|54=>v= .bool (decide (ap=15))|55=>v= .bool (decide (ap=15))|56=>v= .bool (decide (ap=15))|57=>v=av|58=>EP av ((3:Int).toNat*(AC).sz+0) v|59=>v=vI aq∧AB aq|60=>v= .bool (decide (aq=7))|61=>v= .bool (decide (aq=7))|62=>v= .bool (decide (aq=7))|63=>v=vI K.1∧AB K.1|64=>v= .bool (decide (K.1=7))|65=>v= .bool (decide (K.1=7))|66=>v= .bool (decide (K.1=7))|67=>v=vI K.2∧AB K.2|68=>v= .bool (decide (K.2=0))|69=>v= .bool (decide (K.2=0))|70=>v= .bool (decide (K.2=0))|_=>False) [[],[],[(0,110),(1,111)],[(2,112)],[(3,113)],[(3,113)],[(4,114),(5,115),(3,113)],[(3,113)],[(6,116),(7,117),(3,113)],[(3,113),(8,118)],[(9,119)],[(10,120)],[(10,120)],[(10,120)],[(13,123),(10,120)],[(14,124),(10,120)],[(10,120)],[(11,121),(12,122),(15,125),(16,126),(10,120)],[(10,120),(17,127)],[(18,128)],[(19,129)],[(19,129)],[(19,129)],[(22,132),(19,129)],[(23,133),(19,129)],[(19,129)],[(25,135),(19,129)],[(20,130),(21,131),(24,134),(26,136),(19,129)],[(27,137),(19,129)],[(19,129),(28,138)],[(29,139)],[(30,140)],[(31,141),(30,140)],[(32,142),(30,140)],[(33,143),(30,140)],[(34,144),(30,140)],[(35,145),(30,140)],[(36,146),(30,140)],[(37,147),(30,140)],[(38,148),(30,140)],[(30,140),(39,149)],[(40,150)],[(41,151)],[(42,152),(41,151)],[(43,153),(41,151)],[(44,154),(41,151)],[(45,155),(41,151)],[(46,156),(41,151)],[(47,157),(41,151)],[(41,151),(48,158)],[(49,159)],[(50,160)],[(51,161),(50,160)],[(52,162),(50,160)],[(53,163),(50,160)],[(50,160),(54,164)],[(55,165)],[(56,166)],[(57,167),(56,166)],[(58,168),(56,166)],[(59,169),(56,166)],[(56,166),(60,170)],[(61,171)],[(62,172)],[(63,173),(62,172)],[(62,172),(64,174)],[(65,175)],[(66,176)],[(67,177),(66,176)],[(66,176),(68,178)],[(69,179)]] [(70,0)] mo (by kernel_rfl) [13,12,10,7,4,3,2,1] O (by kernel_rfl) (by kernel_rfl) (by kernel_rfl) (kp [13,12,10,7,4,3,2,1] O) MO ?_ ?_
  ·refine AQ.cons O D8 (AQ.cons O D8 (AQ.cons O ?_ ?_))
   ·intro u g o;intro qq g6 qr g7;have d:=SN.st c o;obtain⟨rfl,qs⟩:=g6;obtain⟨rfl,qt⟩:=g7;have bp:=cb.nw;have a9:=a8.nw;refine FA O O O nJ O d (Lz (St.all _) (bp.mono d.ea) (a9.mono d.ea) f1) λqu qv qw p2 qx c7 p=>?_;obtain⟨rfl,p3⟩:=p;exact A9 ⟨c7.siz,λb hb=>c7.same b hb⟩ O
   refine AQ.cons O D8 (AQ.cons O ?_ ?_)
   ·intro u g o;intro g8 g9;have d:=o.st c;obtain rfl:g8= .bool true:=Abb g9 (Aaz Value.bool ak);refine⟨113,O,.inl ⟨O,?_⟩⟩;refine AU ?_;exact A5 ⟨O,dc,dd,de⟩
   refine AQ.cons O ?_ ?_
   ·intro u g o;intro ha hc;have d:=o.st c;obtain rfl:ha= .bool true:=Abb hc (Aaz Value.bool ak);refine⟨113,O,.inl ⟨O,?_⟩⟩;refine AU ?_;exact A5 ⟨O,cv⟩
   refine AQ.cons O ?_ ?_
   ·intro u g o;intro qy hd q0 he hg hi;have d:=SN.st c o;obtain⟨rfl,q1,q2,q3⟩:=hd;obtain⟨rfl,q4⟩:=he;obtain rfl:hg= .bool true:=Abb hi (Aaz Value.bool ak);refine⟨113,O,.inl ⟨O,?_⟩⟩;have ff:=d.fz;have ba:=a1.nw;have bb:=a8.nw;refine EQ O O O nL O (Qo ff ba bb (.inl ⟨O,O⟩:Sl _ _ Ge _ []) f2) λq5 q6 q7 hj p=>?_;obtain⟨hk,du⟩:=p;have ce:=Fz.done o hj du;exact A9 ce.1 (Rd.mono hk ce.2)
   refine AQ.cons O ?_ ?_
   ·intro u g o;intro hl hm;have d:=o.st c;obtain rfl:hl= .bool true:=Abb hm (Aaz Value.bool ak);refine⟨113,O,.inl ⟨O,?_⟩⟩;refine AU ?_;exact A5 ⟨O,cv⟩
   refine AQ.cons O ?_ ?_
   ·intro u g o;intro hn bq q8 ho hp hq;have d:=SN.st c o;have bq:Rd _ _ A7 hn en:=bq;obtain⟨rfl,q9⟩:=ho;obtain rfl:hp= .bool true:=Abb hq (Aaz Value.bool ak);refine⟨113,O,.inl ⟨O,?_⟩⟩;have bc:=a8.nw;refine FA O O O nJ O d (Lz (St.all _) (bq.mono d.ea) (bc.mono d.ea) f3) λrb rd re p4 rf c8 p=>?_;obtain⟨rfl,p5⟩:=p;exact A9 ⟨c8.siz,λb hb=>c8.same b hb⟩ O
   refine AQ.cons O ?_ ?_
   ·intro u g o;intro ht hu rg hv;have d:=o.st c;obtain rfl:ht= .bool true:=Abb hu (Aaz Value.bool ak);cases hv;refine AU ?_;exact A5 O
   refine AQ.cons O D8 (AQ.cons O ?_ ?_)
   ·intro u g o;intro hx hy;have d:=o.st c;obtain rfl:hx= .bool true:=Abb hy (Aaz Value.bool ad);refine⟨120,O,.inl ⟨O,?_⟩⟩;refine AU ?_;exact A5 ⟨O,dc,dd,de⟩
   refine AQ.cons O ?_ ?_
   ·intro u g o;intro hz h0;have d:=o.st c;obtain rfl:hz= .bool true:=Abb h0 (Aaz Value.bool ad);refine⟨120,O,.inl ⟨O,?_⟩⟩;refine AU ?_;exact A5 ⟨O,cv⟩
   refine AQ.cons O ?_ ?_
   ·intro u g o;intro h3 h5;have d:=o.st c;obtain rfl:h3= .bool true:=Abb h5 (Aaz Value.bool ad);refine⟨120,O,.inl ⟨O,?_⟩⟩;refine AU ?_;have h6:=cc.nw;exact A5 h6
   refine AQ.cons O ?_ ?_
   ·intro u g o;intro h7 br h8 h9;have d:=o.st c;have br:Sl _ _ A7 h7 ac.1:=br;obtain rfl:h8= .bool true:=Abb h9 (Aaz Value.bool ad);refine⟨120,O,.inl ⟨O,?_⟩⟩;refine AU ?_;refine K6 O O br Sw.1 df O λrh ia=>AU ?_;exact A5 ia
   refine AQ.cons O ?_ ?_
   ·intro u g o;intro ib bs ic ie;have d:=o.st c;have bs:Pt _ _ A7 ib a4:=bs;obtain rfl:ic= .bool true:=Abb ie (Aaz Value.bool ad);refine⟨120,O,.inl ⟨O,?_⟩⟩;obtain⟨ri,_,ig⟩:=bs.lv;refine AU ?_;exact A5 ig
   refine AQ.cons O ?_ ?_
   ·intro u g o;intro ih ii;have d:=o.st c;obtain rfl:ih= .bool true:=Abb ii (Aaz Value.bool ad);refine⟨120,O,.inl ⟨O,?_⟩⟩;refine AU ?_;have ij:=em.mono' (o.ext c.1);exact A5 ij
   refine AQ.cons O ?_ ?_
   ·intro u g o;intro rj ik rk il im ax io ay ip ir;have d:=SN.st c o;obtain⟨rfl,rm,rn,ro⟩:=ik;obtain⟨rfl,rp⟩:=il;have ax:=Rd.sn a2 ax;have ax:Rd _ _ A7 im a4:=ax;have ay:=Sl.sn a2 ay;have ay:Sl _ _ BD io ac.2.1:=ay;obtain rfl:ip= .bool true:=Abb ir (Aaz Value.bool ad);refine⟨120,O,.inl ⟨O,?_⟩⟩;have be:=a1.nw;have bf:=a8.nw;refine FA O O O Ue O d (IQ (St.all _) (be.mono d.ea) (bf.mono d.ea) (ax.mono d.ea) (ay.mono d.ea.1 d.ea.2) dg) λrq rr rs p6 rt c9 p=>?_;obtain⟨rfl,p7⟩:=p;exact A9 ⟨c9.siz,λb hb=>c9.same b hb⟩ O
   refine AQ.cons O ?_ ?_
   ·intro u g o;intro it iu ru iv;have d:=o.st c;obtain rfl:it= .bool true:=Abb iu (Aaz Value.bool ad);cases iv;refine AU ?_;exact A5 O
   refine AQ.cons O D8 (AQ.cons O ?_ ?_)
   ·intro u g o;intro iw iy;have d:=o.st c;obtain rfl:iw= .bool true:=Abb iy (Aaz Value.bool H);refine⟨129,O,.inl ⟨O,?_⟩⟩;refine AU ?_;exact A5 ⟨O,dc,dd,de⟩
   refine AQ.cons O ?_ ?_
   ·intro u g o;intro iz i0;have d:=o.st c;obtain rfl:iz= .bool true:=Abb i0 (Aaz Value.bool H);refine⟨129,O,.inl ⟨O,?_⟩⟩;refine AU ?_;exact A5 ⟨O,cv⟩
   refine AQ.cons O ?_ ?_
   ·intro u g o;intro i1 i2;have d:=o.st c;obtain rfl:i1= .bool true:=Abb i2 (Aaz Value.bool H);refine⟨129,O,.inl ⟨O,?_⟩⟩;refine AU ?_;have i3:=cc.nw;exact A5 i3
   refine AQ.cons O ?_ ?_
   ·intro u g o;intro i4 bt i5 i6;have d:=o.st c;have bt:Sl _ _ A7 i4 ac.1:=bt;obtain rfl:i5= .bool true:=Abb i6 (Aaz Value.bool H);refine⟨129,O,.inl ⟨O,?_⟩⟩;refine AU ?_;refine K6 O O bt Sw.1 dh O λrv i7=>AU ?_;exact A5 i7
   refine AQ.cons O ?_ ?_
   ·intro u g o;intro i8 bu i9 ja;have d:=o.st c;have bu:Pt _ _ A7 i8 a6:=bu;obtain rfl:i9= .bool true:=Abb ja (Aaz Value.bool H);refine⟨129,O,.inl ⟨O,?_⟩⟩;obtain⟨rx,_,jb⟩:=bu.lv;refine AU ?_;exact A5 jb
   refine AQ.cons O ?_ ?_
   ·intro u g o;intro jc jd;have d:=o.st c;obtain rfl:jc= .bool true:=Abb jd (Aaz Value.bool H);refine⟨129,O,.inl ⟨O,?_⟩⟩;refine AU ?_;have je:=em.mono' (o.ext c.1);exact A5 je
   refine AQ.cons O ?_ ?_
   ·intro u g o;intro jf bv jg jh;have d:=o.st c;have bv:Sl _ _ BD jf ac.2.1:=bv;obtain rfl:jg= .bool true:=Abb jh (Aaz Value.bool H);refine⟨129,O,.inl ⟨O,?_⟩⟩;refine LU 1 (lC O O bv Ow.1 di O λry ji=>AU ?_);exact A5 ji
   refine AQ.cons O ?_ ?_
   ·intro u g o;intro rz jj r0 jk jl az jm a0 jn jo;have d:=SN.st c o;obtain⟨rfl,r1,r2,r3⟩:=jj;obtain⟨rfl,r4⟩:=jk;have az:=Rd.sn a2 az;have az:Rd _ _ A7 jl a6:=az;have a0:=Sl.sn a2 a0;have a0:Sl _ _ BD jm c6:=a0;obtain rfl:jn= .bool true:=Abb jo (Aaz Value.bool H);refine⟨129,O,.inl ⟨O,?_⟩⟩;have bg:=a1.nw;have bh:=a8.nw;refine FA O O O Ue O d (IQ (St.all _) (bg.mono d.ea) (bh.mono d.ea) (az.mono d.ea) (a0.mono d.ea.1 d.ea.2) dj) λr5 r6 r7 p8 r8 da p=>?_;obtain⟨rfl,p9⟩:=p;exact A9 ⟨da.siz,λb hb=>da.same b hb⟩ O
   refine AQ.cons O ?_ ?_
   ·intro u g o;intro r9 jp jq jr;have d:=o.st c;cases jp;obtain rfl:jq= .bool true:=Abb jr (Aaz Value.bool H);refine⟨129,O,.inl ⟨O,?_⟩⟩;refine AU ?_;exact A5 O
   refine AQ.cons O ?_ ?_
   ·intro u g o;intro js jt sa ju;have d:=o.st c;obtain rfl:js= .bool true:=Abb jt (Aaz Value.bool H);cases ju;refine AU ?_;exact A5 O
   refine AQ.cons O D8 (AQ.cons O ?_ ?_)
   ·intro u g o;intro jv jw;have d:=o.st c;obtain rfl:jv= .bool true:=Abb jw (Aaz Value.bool I);refine⟨140,O,.inl ⟨O,?_⟩⟩;refine AU ?_;have jx:=cc.nw;exact A5 jx
   refine AQ.cons O ?_ ?_
   ·intro u g o;intro jy bw jz j0;have d:=o.st c;have bw:Sl _ _ A7 jy ac.1:=bw;obtain rfl:jz= .bool true:=Abb j0 (Aaz Value.bool I);refine⟨140,O,.inl ⟨O,?_⟩⟩;refine AU ?_;refine K6 O O bw Sw.1 dk O λsc j1=>AU ?_;exact A5 j1
   refine AQ.cons O ?_ ?_
   ·intro u g o;intro j2 bx j3 j4;have d:=o.st c;have bx:Pt _ _ A7 j2 an:=bx;obtain rfl:j3= .bool true:=Abb j4 (Aaz Value.bool I);refine⟨140,O,.inl ⟨O,?_⟩⟩;have j5:=bx.fl GH;refine AU ?_;exact A5 j5
   refine AQ.cons O ?_ ?_
   ·intro u g o;intro j6 bz j7 j8;have d:=o.st c;have bz:Pt _ _ (A4.sl (A4.sl AC)) j6 an.D:=bz;obtain rfl:j7= .bool true:=Abb j8 (Aaz Value.bool I);refine⟨140,O,.inl ⟨O,?_⟩⟩;obtain⟨sd,_,j9⟩:=bz.ll;refine AU ?_;exact A5 j9
   refine AQ.cons O ?_ ?_
   ·intro u g o;intro ka b0 kb kc;have d:=o.st c;have b0:Sl _ _ (A4.sl AC) ka an.D:=b0;obtain rfl:kb= .bool true:=Abb kc (Aaz Value.bool I);refine⟨140,O,.inl ⟨O,?_⟩⟩;refine AU ?_;refine K6 O O b0 H6.1 dl O λse kd=>AU ?_;exact A5 kd
   refine AQ.cons O ?_ ?_
   ·intro u g o;intro ke b1 kf kg;have d:=o.st c;have b1:Pt _ _ (A4.sl AC) ke a7:=b1;obtain rfl:kf= .bool true:=Abb kg (Aaz Value.bool I);refine⟨140,O,.inl ⟨O,?_⟩⟩;obtain⟨sf,_,kh⟩:=b1.ll;refine AU ?_;exact A5 kh
   refine AQ.cons O ?_ ?_
   ·intro u g o;intro ki b2 kj kk;have d:=o.st c;have b2:Sl _ _ AC ki a7:=b2;obtain rfl:kj= .bool true:=Abb kk (Aaz Value.bool I);refine⟨140,O,.inl ⟨O,?_⟩⟩;refine AU ?_;refine K6 O O b2 Ct.1 dm O λsg kl=>AU ?_;exact A5 kl
   refine AQ.cons O ?_ ?_
   ·intro u g o;intro km b3 kn ko;have d:=o.st c;have b3:Pt _ _ AC km af:=b3;obtain rfl:kn= .bool true:=Abb ko (Aaz Value.bool I);refine⟨140,O,.inl ⟨O,?_⟩⟩;have kr:=b3.i;refine AU ?_;exact A5 ⟨O,kr⟩
   refine AQ.cons O ?_ ?_
   ·intro u g o;intro sh ks kt ku;have d:=o.st c;obtain⟨rfl,si⟩:=ks;obtain rfl:kt= .bool true:=Abb ku (Aaz Value.bool I);refine⟨140,O,.inl ⟨O,?_⟩⟩;refine AU ?_;exact A5 O
   refine AQ.cons O ?_ ?_
   ·intro u g o;intro kv kw sj kx;have d:=o.st c;obtain rfl:kv= .bool true:=Abb kw (Aaz Value.bool I);cases kx;refine AU ?_;exact A5 O
   refine AQ.cons O D8 (AQ.cons O ?_ ?_)
   ·intro u g o;intro ky kz;have d:=o.st c;obtain rfl:ky= .bool true:=Abb kz (Aaz Value.bool W);refine⟨151,O,.inl ⟨O,?_⟩⟩;refine AU ?_;have k2:=cc.nw;exact A5 k2
   refine AQ.cons O ?_ ?_
   ·intro u g o;intro k3 b4 k4 k5;have d:=o.st c;have b4:Sl _ _ A7 k3 ac.1:=b4;obtain rfl:k4= .bool true:=Abb k5 (Aaz Value.bool W);refine⟨151,O,.inl ⟨O,?_⟩⟩;refine AU ?_;refine K6 O O b4 Sw.1 dn O λsk k6=>AU ?_;exact A5 k6
   refine AQ.cons O ?_ ?_
   ·intro u g o;intro k8 b5 k9 la;have d:=o.st c;have b5:Pt _ _ A7 k8 ao:=b5;obtain rfl:k9= .bool true:=Abb la (Aaz Value.bool W);refine⟨151,O,.inl ⟨O,?_⟩⟩;have lb:=b5.fl HR;refine AU ?_;exact A5 lb
   refine AQ.cons O ?_ ?_
   ·intro u g o;intro lc b6 ld le;have d:=o.st c;have b6:Pt _ _ (A4.sl AC) lc ao.L:=b6;obtain rfl:ld= .bool true:=Abb le (Aaz Value.bool W);refine⟨151,O,.inl ⟨O,?_⟩⟩;obtain⟨so,_,lf⟩:=b6.ll;refine AU ?_;exact A5 lf
   refine AQ.cons O ?_ ?_
   ·intro u g o;intro lg b7 lh li;have d:=o.st c;have b7:Sl _ _ AC lg ao.L:=b7;obtain rfl:lh= .bool true:=Abb li (Aaz Value.bool W);refine⟨151,O,.inl ⟨O,?_⟩⟩;refine AU ?_;refine K6 O O b7 Ct.1 dp O λsp lj=>AU ?_;exact A5 lj
   refine AQ.cons O ?_ ?_
   ·intro u g o;intro lm b8 ln lo;have d:=o.st c;have b8:Pt _ _ AC lm ag:=b8;obtain rfl:ln= .bool true:=Abb lo (Aaz Value.bool W);refine⟨151,O,.inl ⟨O,?_⟩⟩;have lp:=b8.i;refine AU ?_;exact A5 ⟨O,lp⟩
   refine AQ.cons O ?_ ?_
   ·intro u g o;intro sq lq lr ls;have d:=o.st c;obtain⟨rfl,sr⟩:=lq;obtain rfl:lr= .bool true:=Abb ls (Aaz Value.bool W);refine⟨151,O,.inl ⟨O,?_⟩⟩;refine AU ?_;exact A5 O
   refine AQ.cons O ?_ ?_
   ·intro u g o;intro lt lu ss lw;have d:=o.st c;obtain rfl:lt= .bool true:=Abb lu (Aaz Value.bool W);cases lw;refine AU ?_;exact A5 O
   refine AQ.cons O D8 (AQ.cons O ?_ ?_)
   ·intro u g o;intro lx ly;have d:=o.st c;obtain rfl:lx= .bool true:=Abb ly (Aaz Value.bool ah);refine⟨160,O,.inl ⟨O,?_⟩⟩;refine AU ?_;exact A5 O
   refine AQ.cons O ?_ ?_
   ·intro u g o;intro su lz l0 l1;have d:=o.st c;cases lz;obtain rfl:l0= .bool true:=Abb l1 (Aaz Value.bool ah);refine⟨160,O,.inl ⟨O,?_⟩⟩;refine AU ?_;refine BS d (mt (mt mh)) O O Ct.1 dq O λsv dv=>AU ?_;exact A5 dv
   refine AQ.cons O ?_ ?_
   ·intro u g o;intro sw l2 l3 l4;have d:=o.st c;obtain rfl:l3= .bool true:=Abb l4 (Aaz Value.bool ah);refine⟨160,O,.inl ⟨O,?_⟩⟩;refine AU ?_;have l5:=d.epAt (mt (mt mh)) dr F9.id l2;refine Gf LD (λ_ x=>x) O l5 HA.1 O λl6=>AU ?_;exact A5 ⟨O,l6⟩
   refine AQ.cons O ?_ ?_
   ·intro u g o;intro sx l7 l8 l9;have d:=o.st c;obtain⟨rfl,sy⟩:=l7;obtain rfl:l8= .bool true:=Abb l9 (Aaz Value.bool ah);refine⟨160,O,.inl ⟨O,?_⟩⟩;refine AU ?_;exact A5 O
   refine AQ.cons O ?_ ?_
   ·intro u g o;intro ma mb s0 mc;have d:=o.st c;obtain rfl:ma= .bool true:=Abb mb (Aaz Value.bool ah);cases mc;refine AU ?_;exact A5 O
   refine AQ.cons O D8 (AQ.cons O ?_ ?_)
   ·intro u g o;intro md me;have d:=o.st c;obtain rfl:md= .bool true:=Abb me (Aaz Value.bool ai);refine⟨166,O,.inl ⟨O,?_⟩⟩;refine AU ?_;exact A5 O
   refine AQ.cons O ?_ ?_
   ·intro u g o;intro s1 mf mg mi;have d:=o.st c;cases mf;obtain rfl:mg= .bool true:=Abb mi (Aaz Value.bool ai);refine⟨166,O,.inl ⟨O,?_⟩⟩;refine AU ?_;refine BS d (mt (mt mh)) O O Ct.1 ds O λs2 dw=>AU ?_;exact A5 dw
   refine AQ.cons O ?_ ?_
   ·intro u g o;intro s3 mj mk ml;have d:=o.st c;obtain rfl:mk= .bool true:=Abb ml (Aaz Value.bool ai);refine⟨166,O,.inl ⟨O,?_⟩⟩;refine AU ?_;have mm:=d.epAt (mt (mt mh)) dt F9.id mj;refine Gf LD (λ_ x=>x) O mm HA.1 O λmn=>AU ?_;exact A5 ⟨O,mn⟩
   refine AQ.cons O ?_ ?_
   ·intro u g o;intro s4 mp mr ms;have d:=o.st c;obtain⟨rfl,s5⟩:=mp;obtain rfl:mr= .bool true:=Abb ms (Aaz Value.bool ai);refine⟨166,O,.inl ⟨O,?_⟩⟩;refine AU ?_;exact A5 O
   refine AQ.cons O ?_ ?_
   ·intro u g o;intro mu mv s6 mw;have d:=o.st c;obtain rfl:mu= .bool true:=Abb mv (Aaz Value.bool ai);cases mw;refine AU ?_;exact A5 O
   refine AQ.cons O D8 (AQ.cons O ?_ ?_)
   ·intro u g o;intro mx my;have d:=o.st c;obtain rfl:mx= .bool true:=Abb my (Aaz Value.bool ar);refine⟨172,O,.inl ⟨O,?_⟩⟩;refine AU ?_;exact A5 ⟨O,pa⟩
   refine AQ.cons O ?_ ?_
   ·intro u g o;intro s7 mz m0 m1;have d:=o.st c;obtain⟨rfl,s8⟩:=mz;obtain rfl:m0= .bool true:=Abb m1 (Aaz Value.bool ar);refine⟨172,O,.inl ⟨O,?_⟩⟩;refine AU ?_;exact A5 O
   refine AQ.cons O ?_ ?_
   ·intro u g o;intro m2 m3 s9 m4;have d:=o.st c;obtain rfl:m2= .bool true:=Abb m3 (Aaz Value.bool ar);cases m4;refine AU ?_;exact A5 O
   refine AQ.cons O D8 (AQ.cons O ?_ ?_)
   ·intro u g o;intro m5 m6;have d:=o.st c;obtain rfl:m5= .bool true:=Abb m6 (Aaz Value.bool au);refine⟨176,O,.inl ⟨O,?_⟩⟩;refine AU ?_;exact A5 ⟨O,pb⟩
   refine AQ.cons O ?_ ?_
   ·intro u g o;intro ta m7 m8 m9;have d:=o.st c;obtain⟨rfl,tb⟩:=m7;obtain rfl:m8= .bool true:=Abb m9 (Aaz Value.bool au);refine⟨176,O,.inl ⟨O,?_⟩⟩;refine AU ?_;exact A5 O
   refine AQ.cons O ?_ ?_
   ·intro u g o;intro na nb tc nc;have d:=o.st c;obtain rfl:na= .bool true:=Abb nb (Aaz Value.bool au);cases nc;refine AU ?_;exact A5 O
   exact AQ.cons O D8 (trivial)
  intro td db te nd;have dx:=SN.st c db;cases nd;refine AU ?_;exact WF.nil (λaa ww hf hw=>⟨_,_,hf.sub (kp [0] O),hw,dx,(SN.ext c.1 db),trivial⟩)
 rintro aa ww ⟨tf,tg,hf,hw,qa,th,_⟩;refine AK ?_ hf hw;clear hf hw ww aa;exact RT
def PI (b:St S L h) (a:Ed N=some true){r:Bool}(E:Ed N=some r):
 B3 prog 24 #[] S h (λv S' h'=>v= .bool r∧St S' (L) h'):=by
 obtain rfl:true=r:=Aa1 (a.symm.trans E);exact OZ b a
def Ob (hs:St S L h){i:Value}{j:AF}(u:Rd S h BV i j){k:Value}{l:AE}(x:Rd S h A7 k l){c:Value}{g:(List Ck)}(d:Sl S h Ge c g){r:Bool}(E:Fe N j l g=some r):
 B3 prog 25 #[i,k,c] S h (λv S' h'=>v= .bool r∧St S' (L) h'):=by
 refine BA 80 func25 O ntmps25 O λB=>?_;rw[Fe] at E;refine AU ?_;refine By O u CE O hs λq1 S2 h3 ac e5 k6=>?_;have k7:=x.mono e5;refine By O k7 CE O ac λq8 S9 F K ad ae=>?_;have af:=k6.mono ad;have a3:=d.nw;refine AU ?_;refine AH O E (λag E=>?_) (λag E=>?_)
 ·exact RT
 refine AU ?_;refine AO (λa w=>IV B S9 F (80,[]) a w [(4,q8),(3,q1)] (L) λ_ _=>Cb N j l=some r) ?_ ?_
 ·refine AX (λn1=>λa w=>∃(p:Int),IV B S9 F (80,[]) a w [(4,q8),(3,q1),(2,c),(7,vI p)] (L) λ_ _=>AB p∧Cp N g (Cb N j l) n1 p=some r) N ?_ ?_ ?_
  ·intro G H q s;exact⟨0,_,_,q.sub (kp [4,3,2,7] O),s,K,(B9.refl S9 F),(iq (n:=0) O),E⟩
  ·rintro G H ⟨_,_,_,_,_,_,_,_,E⟩;rw[Cp] at E;cases E
  rintro n1 G H ⟨p,a4,a5,q,s,y,ah,a6,E⟩;refine AK ?_ q s;clear q s H G;rw[Cp] at E;have a7:=d.nw;refine AU ?_;refine AH O E (λai E=>?_) (λai E=>?_)
  ·refine AU ?_;refine AY (AU ?_);have aj:=d.nw;refine A6 E O O aj Xy.1 O λa8 E a9 ak=>?_;obtain⟨ba,_,am⟩:=ak.lv;refine AU ?_;refine CF Z5 O y λbb bc M an=>?_;have ao:=am.mono an;obtain⟨be,bf,bg,bh,bi,rfl,ap,aq,ar,au,av⟩:=Ge.ex ao;refine DL O O O ON aQ.1 O M .head O λbj Q t=>?_;have bk:=ap.mono' t;have bl:=aq.mono' t;have bm:=ar.mono' t;have bn:=au.mono' t;have bo:=av.mono' t;refine AU ?_;refine AH O E (λaw E=>?_) (λaw E=>?_)
   ·exact RT
   refine AU ?_;refine BE (AU ?_);refine WF.nil (λG H q s=>?_);have U:=Q.drop .head;exact⟨(BC (p+1)),_,_,q.sub (kp [4,3,2,7] O),s,U,EX,(BH _),E⟩
  refine BB O (λG H q s=>?_);exact⟨_,_,q.sub (kp [4,3] O),s,y,ah,E⟩
 rintro G H ⟨bp,bq,q,s,m,z,E⟩;refine AK ?_ q s;clear q s H G;rw[Cb] at E;refine AU ?_;refine BY (.inl O) m ?_;have A:=af.mono z;obtain⟨ay,_,V⟩:=A.lv;refine AU ?_;refine A8 E O O O nF O (λC I h' o=>OQ (St.all h') (V.mono (o.all m.1)) I) λC E=>AU ?_;obtain⟨W,b,E⟩:=bd E;refine AZ 4 79 (.bool W) ?_ ?_
 ·cases D:C
  ·have b:=G3 D b;cases b;exact BG O O
  have b:=G2 D b;obtain⟨az,_,X⟩:=A.lv;have Y:=ae.mono z;obtain⟨a0,_,Z⟩:=Y.lv;refine AU ?_;refine A8 b O O O nI O (λab J h' o=>Ov (St.all h') (X.mono (o.all m.1)) (Z.mono (o.all m.1)) J) λab b=>AU ?_;cases b;exact A0 O
 refine AU ?_;exact BJ (kp [6] O) λa1 ax a2=>RT
def K3 (hs:St S L h){ai:Value}{bm:AF}(bg:Rd S h BV ai bm){aj:Value}{c:AE}(bh:Rd S h A7 aj c){r:AE}(E:Gc N bm c=some r):
 B3 prog 29 #[ai,aj] S h (λv S' h'=>Rd S' h' A7 v r∧St S' (L) h'):=by
 refine BA 72 func29 O ntmps29 O λB=>?_;rw[Gc] at E;refine AU ?_;refine By O bg CE O hs λq1 S2 h3 e2 e5 k6=>?_;have k7:=bh.mono e5;obtain⟨bi,Q,av,U,ap,ab,rfl,r9,cr,e3,bj,e4,e6,e7⟩:=A7.ex k7;refine OG O O O e2 λz h0 ct h1=>CF MC O ct λH bq cu h2=>AU ?_;refine AO (λa w=>∃(V:Value) (A:List (List Int)),IV B S2 bq (72,[]) a w [(4,vP H 0),(3,vP z 0),(5,V)] (OS (A4.sl AC) 29 V A::Bx H 36 [vI 0,vN,vN,vN,vN,vN,vN]::Bx z 36 [vI c.B,bi,Q,av,U,ap,ab]::L) λ_ _=>C6 N c A=some r) ?_ ?_
 ·refine AX (λn1=>λa w=>∃(bk:Value) (aq:List (List Int)) (aw:Int),IV B S2 bq (72,[]) a w [(4,vP H 0),(3,vP z 0),(5,bk),(6,vI aw)] (OS (A4.sl AC) 29 bk aq::Bx H 36 [vI 0,vN,vN,vN,vN,vN,vN]::Bx z 36 [vI c.B,bi,Q,av,U,ap,ab]::L) λ_ _=>AB aw∧C4 N c (C6 N c) n1 aq aw=some r) N ?_ ?_ ?_
  ·intro X Y u y;have cv:=cu.nil (A4.sl AC) 29;exact⟨(vN),([]:List (List Int)),0,_,_,u.sub (kp [4,3,5,6] O),y,cv,(B9.refl S2 bq),(iq (n:=0) O),E⟩
  ·rintro X Y ⟨_,_,_,_,_,_,_,_,_,_,E⟩;rw[C4] at E;cases E
  rintro n1 X Y ⟨bk,aq,aw,h4,h5,u,y,ak,e8,h6,E⟩;refine AK ?_ u y;clear u y Y X;rw[C4] at E;have h7:=cr.nw;refine AU ?_;refine AH O E (λe9 E=>?_) (λe9 E=>?_)
  ·refine AU ?_;refine AY (Bv (AU ?_));have fa:=cr.nw;refine A6 E O O fa H6.1 O λh8 E h9 fb=>?_;obtain⟨ia,_,fc⟩:=fb.ll;refine AU ?_;refine CQ E O O O K2 O ak (λax cw=>Cn (St.all _) (fc.mono ak.ea.1 ak.ea.2) cw) λax E ib ic id cx ie ig p=>?_;obtain⟨rfl,fd,fp⟩:=p;refine Dn (cs:=[vI ax]) HZ O O O O O O O cx λfe ih cy ii=>?_;have cz:=cy.bxos (r:=AC) (l:=([ax]:List Int)) .head ⟨_,_,O,⟨O,fd⟩,O⟩ (by simp [maxLen]);obtain⟨ij,c0,ik,ff⟩:=cz.pubs .head;refine Dn (cs:=[(.slice (some ⟨fe,0,none⟩) 1 1)]) Mo O O O O O O O c0 λil im c1 fg=>?_;obtain⟨c2,E⟩:=LQ E;have fh:=ff.mono' fg;refine Jc (r:=(A4.sl AC)) (l:=aq) (xs:=([([ax]:List Int)]:List (List Int))) O O Mo O mh ⟨_,_,O,⟨_,O,fh⟩,O⟩ O O c2 O c1 (λ_=>(.tail .head)) λfi io c3 ip=>?_;have c4:=c3.drop .head;refine AU ?_;refine BE (AU ?_);refine WF.nil (λX Y u y=>?_);exact⟨fi,(aq++([([ax]:List Int)]:List (List Int))),(BC (aw+1)),_,_,u.sub (kp [4,3,5,6] O),y,c4,EX,(BH _),E⟩
  refine BB O (λX Y u y=>?_);exact⟨bk,aq,_,_,u.sub (kp [4,3,5] O),y,ak,e8,E⟩
 rintro X Y ⟨V,A,br,bs,u,y,c5,ir,E⟩;refine AK ?_ u y;clear u y Y X;rw[C6] at E;refine AU ?_;refine AO (λa w=>∃(bt:Value) (ac:List AM),IV B br bs (72,[]) a w [(4,vP H 0),(3,vP z 0),(5,V),(7,bt)] (OS AS 121 bt ac::OS (A4.sl AC) 29 V A::Bx H 36 [vI 0,vN,vN,vN,vN,vN,vN]::Bx z 36 [vI c.B,bi,Q,av,U,ap,ab]::L) λ_ _=>C5 N c A ac=some r) ?_ ?_
 ·refine AX (λn3=>λa w=>∃(ar:Value) (au:List AM) (D:Int),IV B br bs (72,[]) a w [(4,vP H 0),(3,vP z 0),(5,V),(7,ar),(8,vI D)] (OS AS 121 ar au::OS (A4.sl AC) 29 V A::Bx H 36 [vI 0,vN,vN,vN,vN,vN,vN]::Bx z 36 [vI c.B,bi,Q,av,U,ap,ab]::L) λ_ _=>AB D∧C3 N c (C5 N c A) n3 au D=some r) N ?_ ?_ ?_
  ·intro X Y u y;have bu:=c5.nil AS 121;exact⟨(vN),([]:List AM),0,_,_,u.sub (kp [4,3,5,7,8] O),y,bu,(B9.refl br bs),(iq (n:=0) O),E⟩
  ·rintro X Y ⟨_,_,_,_,_,_,_,_,_,_,E⟩;rw[C3] at E;cases E
  rintro n3 X Y ⟨ar,au,D,q,am,u,y,d,c6,it,E⟩;refine AK ?_ u y;clear u y Y X;rw[C3] at E;have fq:=bj.nw;refine AU ?_;refine AH O E (λc7 E=>?_) (λc7 E=>?_)
  ·refine AU ?_;refine AY ?_;obtain⟨g,bv,E⟩:=bd E;obtain⟨j,bw,E⟩:=bd E;obtain⟨G,bx,E⟩:=bd E;obtain⟨k,bz,E⟩:=bd E;refine Ms (m:=[(4,vP H 0),(3,vP z 0),(5,V),(7,ar),(8,vI D)]) 23 (λi v t=>match i with|0=>v=ar|1=>v=vP z 3|2=>Sl q t AS v c.E|3=>v=vI D∧AB D|4=>Pt q t AS v g|5=>Pt q t AC v g.Z|6=>v=vI g.Z∧AB g.Z|7=>v=vP z 3|8=>Sl q t AS v c.E|9=>v=vI D∧AB D|10=>Pt q t AS v j|11=>Pt q t AC v j.C|12=>v=vI j.C∧AB j.C|13=>v=vP z 3|14=>Sl q t AS v c.E|15=>v=vI D∧AB D|16=>Pt q t AS v G|17=>Pt q t (A4.sl AC) v G.K|18=>Sl q t AC v G.K|19=>v=vI k∧AB k|20=>Sl (SN q am t) t AC v ([k]:List Int)∧∃ad,v= .slice (some ad) 1 1|21=>Rd (SN q am t) t AS v (⟨g.Z,j.C,([k]:List Int)⟩:AM)|22=>Sl (SN q am t) t AS v ([(⟨g.Z,j.C,([k]:List Int)⟩:AM)]:List AM)∧∃ad,v= .slice (some ad) 1 1|_=>False) [[],[],[(1,34)],[],[(2,35),(3,36)],[(4,37)],[(5,38)],[],[(7,40)],[],[(8,41),(9,42)],[(10,43)],[(11,44)],[],[(13,46)],[],[(14,47),(15,48)],[(16,49)],[(17,50)],[(18,51)],[(19,52)],[(6,39),(12,45),(20,53)],[(21,54)]] [(0,33),(22,55)] mo (by kernel_rfl) [4,3,5,7,8] O (by kernel_rfl) (by kernel_rfl) (by kernel_rfl) (kp [4,3,5,7,8] O) MO ?_ ?_
   ·refine AQ.cons O D8 (AQ.cons O D8 (AQ.cons O ?_ ?_))
    ·intro mq t o;intro fr c8;have s:=o.st d;cases c8;refine AU ?_;have c9:=bj.nw;exact A5 c9
    refine AQ.cons O D8 (AQ.cons O ?_ ?_)
    ·intro mq t o;intro da ay fs db;have s:=o.st d;have ay:Sl _ _ AS da c.E:=ay;obtain⟨rfl,ft⟩:=db;refine AU ?_;refine K6 O O ay Ki.1 bv O λfu dc=>AU ?_;exact A5 dc
    refine AQ.cons O ?_ ?_
    ·intro mq t o;intro dd az;have s:=o.st d;have az:Pt _ _ AS dd g:=az;have de:=az.fl Tl;refine AU ?_;exact A5 de
    refine AQ.cons O ?_ ?_
    ·intro mq t o;intro df a0;have s:=o.st d;have a0:Pt _ _ AC df g.Z:=a0;have dg:=a0.i;refine AU ?_;exact A5 ⟨O,dg⟩
    refine AQ.cons O D8 (AQ.cons O ?_ ?_)
    ·intro mq t o;intro fv dh;have s:=o.st d;cases dh;refine AU ?_;have di:=bj.nw;exact A5 di
    refine AQ.cons O D8 (AQ.cons O ?_ ?_)
    ·intro mq t o;intro dj a1 fw dk;have s:=o.st d;have a1:Sl _ _ AS dj c.E:=a1;obtain⟨rfl,fx⟩:=dk;refine AU ?_;refine K6 O O a1 Ki.1 bw O λfy dl=>AU ?_;exact A5 dl
    refine AQ.cons O ?_ ?_
    ·intro mq t o;intro dm a2;have s:=o.st d;have a2:Pt _ _ AS dm j:=a2;have dn:=a2.fl AM.f_To;refine AU ?_;exact A5 dn
    refine AQ.cons O ?_ ?_
    ·intro mq t o;intro dp a3;have s:=o.st d;have a3:Pt _ _ AC dp j.C:=a3;have dq:=a3.i;refine AU ?_;exact A5 ⟨O,dq⟩
    refine AQ.cons O D8 (AQ.cons O ?_ ?_)
    ·intro mq t o;intro f0 dr;have s:=o.st d;cases dr;refine AU ?_;have ds:=bj.nw;exact A5 ds
    refine AQ.cons O D8 (AQ.cons O ?_ ?_)
    ·intro mq t o;intro dt a4 f1 du;have s:=o.st d;have a4:Sl _ _ AS dt c.E:=a4;obtain⟨rfl,f2⟩:=du;refine AU ?_;refine K6 O O a4 Ki.1 bx O λf3 dv=>AU ?_;exact A5 dv
    refine AQ.cons O ?_ ?_
    ·intro mq t o;intro dw a5;have s:=o.st d;have a5:Pt _ _ AS dw G:=a5;have dx:=a5.fl AM.f_Part;refine AU ?_;exact A5 dx
    refine AQ.cons O ?_ ?_
    ·intro mq t o;intro dy a6;have s:=o.st d;have a6:Pt _ _ (A4.sl AC) dy G.K:=a6;obtain⟨f4,_,dz⟩:=a6.ll;refine AU ?_;exact A5 dz
    refine AQ.cons O ?_ ?_
    ·intro mq t o;intro d0 W;have s:=SN.st d o;have W:=Sl.sn am W;have W:Sl _ _ AC d0 G.K:=W;refine FA O O O K2 O s (Cn (St.all _) (W.mono s.ea.1 s.ea.2) bz) λf5 f6 f7 fj f8 bn p=>?_;obtain⟨rfl,d1,fk⟩:=p;exact A9 ⟨bn.siz,λb hb=>bn.same b hb⟩ ⟨O,d1⟩
    refine AQ.cons O ?_ ?_
    ·intro mq t o;intro f9 d2;have s:=SN.st d o;obtain⟨rfl,d3⟩:=d2;have b0:=s.fz;refine Dn (cs:=[vI k]) HZ O O O O O O O b0 λga gb b1 gc=>?_;have b2:=b1.bxos (r:=AC) (l:=([k]:List Int)) .head ⟨_,_,O,⟨O,d3⟩,O⟩ (by simp [maxLen]);obtain⟨gd,b3,ge,d4⟩:=b2.pubs .head;have a7:=Fz.done o EX b3;exact A9 a7.1 ⟨Sl.mono' d4 a7.2,_,O⟩
    refine AQ.cons O ?_ ?_
    ·intro mq t o;intro gf d5 gg d6 gh a8;have s:=SN.st d o;obtain⟨rfl,d7⟩:=d5;obtain⟨rfl,d8⟩:=d6;obtain⟨a8,b4,rfl⟩:=a8;refine AU ?_;refine FY (cs:=[vI g.Z,vI j.C,(.slice (some b4) 1 1)]) Ur O O O (AU ?_);exact A5 (AS.mk (x:=(⟨g.Z,j.C,([k]:List Int)⟩:AM)) d7 d8 a8)
    refine AQ.cons O ?_ ?_
    ·intro mq t o;intro d9 a9;have s:=SN.st d o;have a9:Rd _ _ AS d9 (⟨g.Z,j.C,([k]:List Int)⟩:AM):=a9;have b0:=s.fz;obtain⟨gi,rfl,eb,ec,bo⟩:=AS.ex a9;obtain⟨b5,bl,rfl,gj⟩:=(bo).len;refine Dn (cs:=[vI ((⟨g.Z,j.C,([k]:List Int)⟩:AM).Z),vI ((⟨g.Z,j.C,([k]:List Int)⟩:AM).C),(.slice b5 ((⟨g.Z,j.C,([k]:List Int)⟩:AM).K).length bl)]) P3 O O O O O O O b0 λgl gm b6 ed=>?_;have ee:=bo.mono' ed;have b7:=b6.bxos (r:=AS) (l:=([(⟨g.Z,j.C,([k]:List Int)⟩:AM)]:List AM)) .head ⟨_,_,O,⟨_,O,eb,ec,ee⟩,O⟩ (by simp [maxLen]);obtain⟨gn,b8,gp,ef⟩:=b7.pubs .head;have ba:=Fz.done o EX b8;exact A9 ba.1 ⟨Sl.mono' ef ba.2,_,O⟩
    exact trivial
   intro gq eg gr eh gs bb;have b9:=SN.st d eg;cases eh;obtain⟨bb,fm,rfl⟩:=bb;obtain⟨ca,E⟩:=LQ E;refine Io (r:=AS) (l:=au) (xs:=([(⟨g.Z,j.C,([k]:List Int)⟩:AM)]:List AM)) O O P3 O (Sl.src bb) O ca O b9 (λ_=> .head) λei gt cb gu=>AU ?_;refine BE (AU ?_);refine WF.nil (λX Y u y=>?_);exact⟨ei,(au++([(⟨g.Z,j.C,([k]:List Int)⟩:AM)]:List AM)),(BC (D+1)),_,_,u.sub (kp [4,3,5,7,8] O),y,cb,EX,(BH _),E⟩
  refine BB O (λX Y u y=>?_);exact⟨ar,au,_,_,u.sub (kp [4,3,5,7] O),y,d,c6,E⟩
 rintro X Y ⟨bt,ac,gv,gw,u,y,bc,gx,E⟩;refine AK ?_ u y;clear u y Y X;rw[C5] at E;refine AU ?_;obtain⟨I,F,rfl,gy⟩:=bc.oslen (mt mh);refine Dt (cs':=[vI c.B,(.slice I A.length F),Q,av,U,ap,ab]) O O O O Rq.1 O bc (.tail (.tail (.tail .head))) O O λgz be g0=>AU ?_;obtain⟨af,J,rfl,g1⟩:=be.oslen mh;refine Dt (cs':=[vI c.B,(.slice I A.length F),Q,(.slice af ac.length J),U,ap,ab]) O O O O Vx.1 O be (.tail (.tail (.tail .head))) O O λg2 ag g3=>AU ?_;refine Bv (AU ?_);have ej:=e6.nw;refine CQ E O O O K2 O ag (λan cc=>Cn (St.all _) (ej.mono ag.ea.1 ag.ea.2) cc) λan E g4 g5 g6 cd g7 g8 p=>?_;obtain⟨rfl,ek,fn⟩:=p;refine Dn (cs:=[vI an]) HZ O O O O O O O cd λbp g9 ce ha=>AU ?_;have cf:=ce.bxos (r:=AC) (l:=([an]:List Int)) .head ⟨_,_,O,⟨O,ek⟩,O⟩ (by simp [maxLen]);obtain⟨hc,cg,hd,el⟩:=cf.pubs .head;refine Dt (cs':=[vI c.B,(.slice I A.length F),Q,(.slice af ac.length J),U,(.slice (some ⟨bp,0,none⟩) 1 1),ab]) O O O O G6.1 O cg (.tail (.tail (.tail .head))) O O λhe ah hg=>AU ?_;refine Bv (AU ?_);have em:=e7.nw;refine CQ E O O O K2 O ah (λao ch=>Cn (St.all _) (em.mono ah.ea.1 ah.ea.2) ch) λao E hi hj hk ci hl hm p=>?_;obtain⟨rfl,en,fo⟩:=p;refine Dn (cs:=[vI ao]) HZ O O O O O O O ci λeo hn cj ho=>AU ?_;have ck:=cj.bxos (r:=AC) (l:=([ao]:List Int)) .head ⟨_,_,O,⟨O,en⟩,O⟩ (by simp [maxLen]);obtain⟨hp,cl,hq,ep⟩:=ck.pubs .head;refine Dt (cs':=[vI c.B,(.slice I A.length F),Q,(.slice af ac.length J),U,(.slice (some ⟨bp,0,none⟩) 1 1),(.slice (some ⟨eo,0,none⟩) 1 1)]) O O O O G6.1 O cl (.tail (.tail (.tail .head))) O O λhr cm ht=>AU ?_;have eq:=e4.nw;have er:=e3.nw;refine DL O O O ON Ho.1 O cm (.tail (.tail .head)) O λhu cn hv=>AU ?_;refine Bu (λX Y u y=>?_);obtain⟨hx,co,hy,es⟩:=cn.pubs (.tail .head);obtain⟨hz,cp,eu,ev⟩:=co.pubs .head;have bf:=cp.drop (.tail .head);have ew:=es.mono' eu;have ey:=er.nw;have ez:=eq.nw;have e0:=el.nw;have e1:=ep.nw;have cq:=bf.drop .head;cases E;exact JA u O y (G7 (UC u y bf O mh Ho.1 O) I9) O EX ⟨(A7.mk (x:=(⟨c.B,A,c.M,ac,c.O,([an]:List Int),([ao]:List Int)⟩:AE)) r9 ew ey ev ez e0 e1),cq⟩
def L9 (hs:St S L h){a8:Value}{g:AF}(cw:Rd S h BV a8 g){a9:Value}{ai:AE}(cx:Rd S h A7 a9 ai){ab:Value}{ap:(List Ck)}(A:Sl S h Ge ab ap){c:Int}(au:AB c) (jx:Ed N=some true) (E:E5 N g ai ap c=some true):
 B3 prog 5 #[a8,a9,ab,vI c] S h (λv S' h'=>v= .bool true∧St S' (L) h'):=by
 refine BA 174 func5 O ntmps5 O λB=>?_;rw[E5] at E;refine AU ?_;refine By O cw CE O hs λq1 S2 h3 jy e5 k6=>?_;have k7:=cx.mono e5;refine By O k7 CE O jy λq8 S9 pe fb pf jz=>AU ?_;refine BY (.inl O) fb ?_;refine A8 E O O O xL O (λac fc h' o=>PI (St.all h') jx fc) λac E=>AU ?_;refine BJ (kp [9,5,4,2,3] O) λpg ba j0=>AU ?_;refine BY (.inl O) ba ?_;have fd:=k6.nw;obtain⟨ph,_,j1⟩:=fd.lv;have fe:=jz.mono j0;obtain⟨pi,_,j2⟩:=fe.lv;refine AU ?_;have j3:=A.nw;refine A8 E O O O xK O (λj4 ff h' o=>Ob (St.all h') (j1.mono (o.all ba.1)) (j2.mono (o.all ba.1)) (j3.mono' (o.all ba.1)) ff) λj4 E=>AU ?_;refine BJ (kp [28,9,5,4,2,3] O) λpj fg fh=>AH O E (λj5 E=>?_) (λj5 E=>?_)
 ·exact RT
 refine AU ?_;refine Bv ?_;have fi:=fd.mono fh;obtain⟨pk,_,j6⟩:=fi.lv;have fj:=fe.mono fh;obtain⟨pl,_,j7⟩:=fj.lv;refine AU ?_;have j8:=A.nw;refine BQ E O O O nM O (λW fk=>O1 fg j6 j7 j8 fk) λW E pm pn po dg p=>?_;obtain⟨pp,af,pq,rfl,fl⟩:=p;refine AU ?_;refine Bv ?_;have dh:=fi.mono dg;obtain⟨pr,_,j9⟩:=dh.lv;have cy:=fj.mono dg;obtain⟨ps,_,ka⟩:=cy.lv;refine AU ?_;have kb:=A.mono' ((e5.trans EX).trans dg);refine BQ E O O O nL O (λt fm=>Qo fl j9 ka kb fm) λt E pt di pu pv p=>?_;obtain⟨kc,fn⟩:=p;refine CF MC O fn λaj pw fo kd=>?_;have cz:=kc.mono kd;obtain⟨b0,bq,br,bs,bt,bu,rfl,ke,c0,kf,kg,kh,ki,kj⟩:=A7.ex cz;refine DL O O O ON Ho.1 O fo .head O λdj fp px=>AU ?_;refine AO (λa w=>∃(ag:Int),IV B di dj (174,[]) a w [(13,vP aj 0),(11,af),(9,.bool ac),(5,q8),(4,q1),(3,vI c),(14,vI ag)] (Bx aj 36 [vI t.B,b0,bq,br,bs,bt,bu]::OS BD 74 af W.2.1::L) λ_ _=>AB ag∧CO N g ai c ac W t ag=some true) ?_ ?_
 ·refine AX (λn1=>λa w=>∃(bv:Int) (b1:Int),IV B di dj (174,[]) a w [(13,vP aj 0),(11,af),(9,.bool ac),(5,q8),(4,q1),(2,ab),(3,vI c),(14,vI bv),(15,vI b1)] (Bx aj 36 [vI t.B,b0,bq,br,bs,bt,bu]::OS BD 74 af W.2.1::L) λ_ _=>AB bv∧AB b1∧CM N ap (CO N g ai c ac W t) n1 bv b1=some true) N ?_ ?_ ?_
  ·intro aa ww X hw;have fq:=fp.sel [0,1] 2 O;exact⟨0,0,_,_,X.sub (kp [13,11,9,5,4,2,3,14,15] O),hw,fq,(B9.refl di dj),(iq (n:=0) O),(iq (n:=0) O),E⟩
  ·rintro aa ww ⟨_,_,_,_,_,_,_,_,_,_,E⟩;rw[CM] at E;cases E
  rintro n1 aa ww ⟨bv,b1,ku,kv,X,hw,b2,c1,kk,py,E⟩;refine AK ?_ X hw;clear X hw ww aa;rw[CM] at E;have kw:=A.nw;refine AU ?_;refine AH O E (λfr E=>?_) (λfr E=>?_)
  ·refine AU ?_;refine AY (AU ?_);have fs:=A.nw;refine A6 E O O fs Xy.1 O λft E kx ky=>AU ?_;refine BE (AU ?_);refine WF.nil (λaa ww X hw=>?_);exact⟨(BC (bv+(↑ft.Ae.length:Int))),(BC (b1+1)),_,_,X.sub (kp [13,11,9,5,4,2,3,14,15] O),hw,b2,c1,(BH _),(BH _),E⟩
  refine BB O (λaa ww X hw=>?_);exact⟨bv,_,_,X.sub (kp [13,11,9,5,4,3,14] O),hw,b2,c1,kk,E⟩
 rintro aa ww ⟨ag,kz,k0,X,hw,am,k1,pz,E⟩;refine AK ?_ X hw;clear X hw ww aa;rw[CO] at E;refine AU ?_;refine BY (.inl O) am (AU ?_);obtain⟨fu,G,E⟩:=bd E;refine AZ 7 65 (.bool fu) ?_ ?_
 ·cases c2:(decide (ag=0))
  ·have G:=G3 c2 G;cases G;exact BG O O
  have G:=G2 c2 G;have fv:=dh.nw;obtain⟨k2,_,fw⟩:=fv.lv;have fx:=cy.nw;obtain⟨k3,_,fy⟩:=fx.lv;refine AU ?_;have bw:=cz.nw;obtain⟨k4,dk,G⟩:=bd G;refine Jt O O O Ue O (λh' o=>IQ (St.all h') (fw.mono (o.all am.1)) (fy.mono (o.all am.1)) (bw.mono (o.all am.1)) ((am.oslAll (mt mh)).mono (λb hb=>Aa9 hb o.siz) (λb hb=>o.same b hb)) dk) (AU ?_);cases G;exact A0 O
 refine BJ (kp [65,13,11,9,5,4,3,14] O) λk5 dl k8=>QV O (λb3=>?_) (λb3=>?_)
 ·cases G2 b3 E
 have E:=G3 b3 E;have bb:=dh.nw;obtain⟨k9,_,f0⟩:=bb.lv;refine AU ?_;refine CF Z6 O dl λav la dm f1=>?_;have f2:=f0.mono f1;obtain⟨lb,bc,be,bf,bg,bh,bi,bj,rfl,f3,lc,f4,f5,f6,f7,f8,f9,ga,gb,gc⟩:=BV.ex f2;refine DL O O O ON Xo.1 O dm .head O λle dn lf=>AU ?_;refine Dn (cs:=[.string (ByteArray.mk #[97,108,108])]) nB O O O O O O O dn λbk lg dp lh=>AU ?_;have dq:=dp.bxos (r:=A4.str) (l:=([(ByteArray.mk #[97,108,108])]:List ByteArray)) .head ⟨_,_,O,⟨O,(by decide)⟩,O⟩ (by simp [maxLen]);obtain⟨b4,dr,li,gd⟩:=dq.pubs .head;refine Dt (cs':=[.string g.J,(.slice (some ⟨bk,0,none⟩) 1 1),vI g.P,bc,be,bf,bg,bh,bi,bj,vI g.Q]) O O O O mG.1 O dr .head O O λb5 ds lj=>AU ?_;refine AO (λa w=>∃(aw:Value) (b6:List AJ),IV B b4 b5 (174,[]) a w [(16,vP av 0),(13,vP aj 0),(11,af),(9,.bool ac),(5,q8),(4,q1),(3,vI c),(14,vI ag),(17,aw)] (OS BD 74 aw b6::Bx av 31 [.string g.J,(.slice (some ⟨bk,0,none⟩) 1 1),vI g.P,bc,be,bf,bg,bh,bi,bj,vI g.Q]::Bx aj 36 [vI t.B,b0,bq,br,bs,bt,bu]::OS BD 74 af W.2.1::L) λ_ _=>CN N g ai c ac W t ag b6=some true) ?_ ?_
 ·refine AX (λn3=>λa w=>∃(bl:Value) (an:List AJ) (ax:Int),IV B b4 b5 (174,[]) a w [(16,vP av 0),(13,vP aj 0),(11,af),(9,.bool ac),(5,q8),(4,q1),(3,vI c),(14,vI ag),(17,bl),(18,vI ax)] (OS BD 74 bl an::Bx av 31 [.string g.J,(.slice (some ⟨bk,0,none⟩) 1 1),vI g.P,bc,be,bf,bg,bh,bi,bj,vI g.Q]::Bx aj 36 [vI t.B,b0,bq,br,bs,bt,bu]::OS BD 74 af W.2.1::L) λ_ _=>AB ax∧CL N W (CN N g ai c ac W t ag) n3 an ax=some true) N ?_ ?_ ?_
  ·intro aa ww X hw;have dt:=ds.nil BD 74;exact⟨(vN),([]:List AJ),0,_,_,X.sub (kp [16,13,11,9,5,4,3,14,17,18] O),hw,dt,(B9.refl b4 b5),(iq (n:=0) O),E⟩
  ·rintro aa ww ⟨_,_,_,_,_,_,_,_,_,_,E⟩;rw[CL] at E;cases E
  rintro n3 aa ww ⟨bl,an,ax,lm,ln,X,hw,aq,ge,lo,E⟩;refine AK ?_ X hw;clear X hw ww aa;rw[CL] at E;refine AU ?_;refine AH O E (λgf E=>?_) (λgf E=>?_)
  ·refine AU ?_;refine AY (AU ?_);obtain⟨lp,du,E⟩:=bd E;refine BS aq (mt (mt (mt mh))) O O Ow.1 du O λlq dv=>?_;obtain⟨Y,dw,E⟩:=bd E;have gg:=aq.epAt (mt (mt (mt mh))) dw F9.id dv;refine P4 LD (λ_ x=>x) O gg Rp.1 CE O λlr gh=>AU ?_;refine CF T3 O aq λls lt dx gi=>?_;have gj:=gh.mono gi;obtain⟨lu,rfl,gl,gm,gn,gp,gq⟩:=BD.ex gj;refine DL O O O ON Rp.1 O dx .head O λlw a5 gr=>AU ?_;refine Bv (AU ?_);have gs:=gq.mono' gr;refine CQ E O O O K2 O a5 (λay dy=>Cn (St.all _) (gs.mono a5.ea.1 a5.ea.2) dy) λay E lx ly lz dz l0 l1 p=>?_;obtain⟨rfl,gt,kl⟩:=p;refine Dn (cs:=[vI ay]) HZ O O O O O O O dz λc3 l2 d0 l3=>AU ?_;have d1:=d0.bxos (r:=AC) (l:=([ay]:List Int)) .head ⟨_,_,O,⟨O,gt⟩,O⟩ (by simp [maxLen]);obtain⟨l4,d2,l5,gu⟩:=d1.pubs .head;refine Dt (cs':=[vI Y.B,vI Y.I,vI Y.C,vI Y.Bd,(.slice (some ⟨c3,0,none⟩) 1 1)]) O O O O G6.1 O d2 .head O O λl6 d3 l7=>AU ?_;refine Dn (cs:=[vI Y.B,vI Y.I,vI Y.C,vI Y.Bd,(.slice (some ⟨c3,0,none⟩) 1 1)]) PC O O O O O O O d3 λl8 l9 d4 ma=>?_;obtain⟨d5,E⟩:=LQ E;have gv:=gu.nw;refine Jc (r:=BD) (l:=an) (xs:=([({ Y with K:=([ay]:List Int)}:AJ)]:List AJ)) O O PC O mh ⟨_,_,O,⟨_,O,gl,gm,gn,gp,gv⟩,O⟩ O O d5 O d4 (λ_=>(.tail (.tail .head))) λgw mb d6 mc=>?_;have d7:=d6.drop .head;refine AU ?_;refine BE (AU ?_);refine WF.nil (λaa ww X hw=>?_);have d8:=d7.sel [1,1,1,1] 1 O;exact⟨gw,(an++([({ Y with K:=([ay]:List Int)}:AJ)]:List AJ)),(BC (ax+1)),_,_,X.sub (kp [16,13,11,9,5,4,3,14,17,18] O),hw,d8,EX,(BH _),E⟩
  refine BB O (λaa ww X hw=>?_);exact⟨bl,an,_,_,X.sub (kp [16,13,11,9,5,4,3,14,17] O),hw,aq,ge,E⟩
 rintro aa ww ⟨aw,b6,H,M,X,hw,U,md,E⟩;refine AK ?_ X hw;clear X hw ww aa;rw[CN] at E;refine AU ?_;obtain⟨c4,d9,E⟩:=bd E;obtain⟨c5,eb,E⟩:=bd E;obtain⟨c6,ec,E⟩:=bd E;refine Ms (m:=[(16,vP av 0),(13,vP aj 0),(11,af),(9,.bool ac),(5,q8),(4,q1),(3,vI c),(14,vI ag),(17,aw)]) 10 (λi v s=>match i with|0=>v= .agg #[.string g.J,(.slice (some ⟨bk,0,none⟩) 1 1),vI g.P,bc,be,bf,bg,bh,bi,bj,vI g.Q]∧g.J.size≤maxLen∧AB g.P∧AB g.Q|1=>Rd H s BV v g|2=>Rd H s A7 v ai|3=>Rd (SN H M s) s A7 v c4|4=>Rd H s BV v g|5=>v= .agg #[vI t.B,b0,bq,br,bs,bt,bu]∧AB t.B|6=>Rd (SN H M s) s A7 v c5|7=>v=aw|8=>v= .bool c6|9=>v= .bool (!c6)|_=>False) [[],[],[],[(1,89),(2,90)],[],[],[(4,92),(5,93)],[],[(0,88),(3,91),(6,94),(7,95)],[(8,96)]] [(9,97)] mo (by kernel_rfl) [16,13,11,9,5,4,3,14,17] O (by kernel_rfl) (by kernel_rfl) (by kernel_rfl) (kp [16,13,11,9,5,4,3,14,17] O) MO ?_ ?_
 ·refine AQ.cons O ?_ ?_
  ·intro mq s o;have d:=o.st U;refine AU ?_;exact A5 ⟨O,f3,f4,gc⟩
  refine AQ.cons O ?_ ?_
  ·intro mq s o;have d:=o.st U;have gx:=bb.nw;obtain⟨me,_,gy⟩:=gx.lv;refine AU ?_;exact A5 gy
  refine AQ.cons O ?_ ?_
  ·intro mq s o;have d:=o.st U;have gz:=cy.nw;obtain⟨mf,_,g0⟩:=gz.lv;refine AU ?_;exact A5 g0
  refine AQ.cons O ?_ ?_
  ·intro mq s o;intro g1 az g2 a0;have d:=SN.st U o;have az:=Rd.sn M az;have az:Rd _ _ BV g1 g:=az;have a0:=Rd.sn M a0;have a0:Rd _ _ A7 g2 ai:=a0;have ak:=d.fz;refine EQ O O O nK O (K3 ak az a0 d9) λmg mi mj g3 p=>?_;obtain⟨g4,ed⟩:=p;have b7:=Fz.done o g3 ed;exact A9 b7.1 (Rd.mono g4 b7.2)
  refine AQ.cons O ?_ ?_
  ·intro mq s o;have d:=o.st U;have g5:=bb.nw;obtain⟨ml,_,g6⟩:=g5.lv;refine AU ?_;exact A5 g6
  refine AQ.cons O D8 (AQ.cons O ?_ ?_)
  ·intro mq s o;intro g7 a1 mm g8;have d:=SN.st U o;have a1:=Rd.sn M a1;have a1:Rd _ _ BV g7 g:=a1;obtain⟨rfl,mn⟩:=g8;have ak:=d.fz;have bx:=cz.nw;refine EQ O O O nK O (K3 ak a1 bx eb) λmp mr ms g9 p=>?_;obtain⟨ha,ee⟩:=p;have b8:=Fz.done o g9 ee;exact A9 b8.1 (Rd.mono ha b8.2)
  refine AQ.cons O D8 (AQ.cons O ?_ ?_)
  ·intro mq s o;intro mu hc hd b9 he ca mv hg;have d:=SN.st U o;obtain⟨rfl,hi,hj,hk⟩:=hc;have b9:Rd _ _ A7 hd c4:=b9;have ca:Rd _ _ A7 he c5:=ca;cases hg;have hl:=gd.nw;have hm:=f5.nw;have hn:=f6.nw;have ho:=f7.nw;have hp:=f8.nw;have hq:=f9.nw;have hr:=ga.nw;have ht:=gb.nw;refine FA O O O Ue O d (IQ (St.all _) (BV.mk (x:=({ g with F:=([(ByteArray.mk #[97,108,108])]:List ByteArray)}:AF)) hi (hl.mono d.ea.1 d.ea.2) hj (hm.mono d.ea.1 d.ea.2) (hn.mono d.ea.1 d.ea.2) (ho.mono d.ea.1 d.ea.2) (hp.mono d.ea.1 d.ea.2) (hq.mono d.ea.1 d.ea.2) (hr.mono d.ea.1 d.ea.2) (ht.mono d.ea.1 d.ea.2) hk) (b9.mono d.ea) (ca.mono d.ea) (d.oslAll mh) ec) λmw mx my km mz c7 p=>?_;obtain⟨rfl,kn⟩:=p;exact A9 ⟨c7.siz,λb hb=>c7.same b hb⟩ O
  exact AQ.cons O D8 (trivial)
 intro ao hu m0 hv;have ef:=SN.st U hu;cases hv;refine AU ?_;refine QV O (λcb=>?_) (λcb=>?_)
 ·cases G2 cb E
 have E:=G3 cb E;have m1:=c0.nw;have hx:=bb.nw;refine AU ?_;refine QV O (λcc=>?_) (λcc=>?_)
 ·cases G2 cc E
 have E:=G3 cc E;refine AU ?_;refine CF MC O ef λc8 m2 eg m3=>?_;have hy:=kj.nw;have hz:=ki.nw;have h0:=kh.nw;have h1:=kg.nw;have h2:=kf.nw;have m4:=c0.nw;refine DL O O O ON Ho.1 O eg .head O λm5 eh m6=>AU ?_;refine Vc (r:=(A4.sl AC)) Mo O O eh λm7 m8 ei m9=>AU ?_;have h4:=c0.nw;obtain⟨ej,E⟩:=LQ E;refine Io (r:=(A4.sl AC)) (l:=([]:List (List Int))) (xs:=t.D) O O Mo O (Sl.src h4) O ej O ei (λ_=> .head) λna nb cd nc=>AU ?_;obtain⟨a6,ar,rfl,nd⟩:=cd.oslen mh;refine Dt (cs':=[vI t.B,(.slice a6 (([]:List (List Int))++t.D).length ar),bq,br,bs,bt,bu]) O O O O Rq.1 O cd (.tail .head) O O λce Z ne=>AU ?_;refine Rk (kp [20,13,11,9,5,4,3,14] O) ?_;obtain⟨bm,ek,E⟩:=bd E;obtain⟨cf,el,E⟩:=bd E;obtain⟨nf,em,E⟩:=bd E;refine Ms (m:=[(20,vP c8 0),(13,vP aj 0),(11,af),(9,.bool ac),(5,q8),(4,q1),(3,vI c),(14,vI ag)]) 9 (λi v s=>match i with|0=>v=vP c8 1|1=>v=(.slice a6 (([]:List (List Int))++t.D).length ar)|2=>v=vP aj 1|3=>Sl (SN H M ao) s (A4.sl AC) v t.D|4=>Pt (SN H M ao) s (A4.sl AC) v bm|5=>Sl (SN H M ao) s AC v bm|6=>Sl (SN (SN H M ao) ce s) s AC v ([1]:List Int)∧∃ad,v= .slice (some ad) 1 1|7=>Sl (SN (SN H M ao) ce s) s AC v cf|8=>EP (.slice a6 (([]:List (List Int))++t.D).length ar) ((0:Int).toNat*((A4.sl AC)).sz+0) v|_=>False) [[],[(0,111)],[],[(2,113)],[(3,114)],[(4,115)],[],[(5,116),(6,117)],[(1,112)]] [(7,118),(8,119)] mo (by kernel_rfl) [20,13,11,9,5,4,3,14] O (by kernel_rfl) (by kernel_rfl) (by kernel_rfl) (kp [20,13,11,9,5,4,3,14] O) MO ?_ ?_
 ·refine AQ.cons O D8 (AQ.cons O D8 (AQ.cons O D8 (AQ.cons O ?_ ?_)))
  ·intro mq s o;intro ng h5;have d:=o.st Z;cases h5;refine AU ?_;have h6:=c0.nw;exact A5 h6
  refine AQ.cons O ?_ ?_
  ·intro mq s o;intro h7 cg;have d:=o.st Z;have cg:Sl _ _ (A4.sl AC) h7 t.D:=cg;refine AU ?_;refine K6 O O cg H6.1 ek O λnh h8=>AU ?_;exact A5 h8
  refine AQ.cons O ?_ ?_
  ·intro mq s o;intro h9 ch;have d:=o.st Z;have ch:Pt _ _ (A4.sl AC) h9 bm:=ch;obtain⟨ni,_,ia⟩:=ch.ll;refine AU ?_;exact A5 ia
  refine AQ.cons O ?_ ?_
  ·intro mq s o;have d:=SN.st Z o;have ak:=d.fz;refine Dn (cs:=[vI 1]) HZ O O O O O O O ak λnj nk en nl=>?_;have eo:=en.bxos (r:=AC) (l:=([1]:List Int)) .head ⟨_,_,O,⟨O,(iq (n:=1) O)⟩,O⟩ (by simp [maxLen]);obtain⟨nm,ep,nn,ib⟩:=eo.pubs .head;have ci:=Fz.done o EX ep;exact A9 ci.1 ⟨Sl.mono' ib ci.2,_,O⟩
  refine AQ.cons O ?_ ?_
  ·intro mq s o;intro ic a2 no cj;have d:=SN.st Z o;have a2:=Sl.mono' (S':=(SN (SN H M ao) ce s)) a2 ⟨λb hb=> .inl hb,λ_ _=>rfl,Abd _⟩;have a2:Sl _ _ AC ic bm:=a2;obtain⟨cj,ko,rfl⟩:=cj;have ak:=d.fz;refine FA O O O Ya O ak (MM (St.all _) (a2.mono ak.ea.1 ak.ea.2) (cj.mono ak.ea.1 ak.ea.2) el) λnp nq nr kr ns ie p=>?_;have eq:=p;have ck:=ak.join ie eq ⟨OS.flat (λ{_ _ _ _ _ _} k=>k),trivial⟩;simp only[Abw,Abj] at ck;obtain⟨nt,er,nu,ig⟩:=ck.pubs .head;have cl:=Fz.done o EX er;exact A9 cl.1 (Sl.mono' ig cl.2)
  refine AQ.cons O ?_ ?_
  ·intro mq s o;intro nv ih;have d:=o.st Z;cases ih;refine AU ?_;refine BS d mh O O H6.1 em O λnx es=>AU ?_;exact A5 es
  exact trivial
 intro ny ii ij cm nz ik;have eu:=SN.st Z ii;have cm:Sl _ _ AC ij cf:=cm;obtain⟨il,ev,E⟩:=bd E;refine E9 (r:=(A4.sl AC)) (l:=(([]:List (List Int))++t.D)) (i:=0) (x:=il) O O (OC cm) ik ev NT.id G6.1 (λ_=>rfl) eu .head λn0 y n2=>AU ?_;refine BY (.inl O) y ?_;have c9:=hx.nw;obtain⟨n4,_,im⟩:=c9.lv;have da:=cy.nw;obtain⟨n5,_,io⟩:=da.lv;refine AU ?_;have ip:=h2.nw;have ir:=h1.nw;have it:=h0.nw;have iu:=hz.nw;have iv:=hy.nw;obtain⟨n6,ew,E⟩:=bd E;refine Jt O O O Ue O (λh' o=>IQ (St.all h') (im.mono (o.all y.1)) (io.mono (o.all y.1)) (A7.mk (x:=({ t with D:=(upd (([]:List (List Int))++t.D) 0 cf)}:AE)) ke ((y.oslAll mh).mono (λb hb=>Aa9 hb o.siz) (λb hb=>o.same b hb)) (ip.mono' (o.all y.1)) (ir.mono' (o.all y.1)) (it.mono' (o.all y.1)) (iu.mono' (o.all y.1)) (iv.mono' (o.all y.1))) ((y.oslAll (mt (mt (mt (mt (mt mh)))))).mono (λb hb=>Aa9 hb o.siz) (λb hb=>o.same b hb)) ew) (BJ (kp [124,13,11,9,5,4,3,14] O) λn7 a7 n8=>QV O (λcn=>?_) (λcn=>?_))
 ·cases G2 cn E
 have E:=G3 cn E;refine AU ?_;refine AH O E (λiw E=>?_) (λiw E=>?_)
 ·exact RT
 refine AU ?_;obtain⟨n9,ey,E⟩:=bd E;refine BS a7 (mt (mt (mt (mt (mt mh))))) O O Ow.1 ey O λoa ez=>?_;obtain⟨db,e0,E⟩:=bd E;have iy:=a7.epAt (mt (mt (mt (mt (mt mh))))) e0 F9.id ez;refine P4 LD (λ_ x=>x) O iy Rp.1 CE O λob iz=>AU ?_;refine CF T3 O a7 λi0 oc e1 i1=>?_;have i2:=iz.mono i1;obtain⟨od,rfl,oe,og,oh,oi,i3⟩:=BD.ex i2;refine DL O O O ON Rp.1 O e1 .head O λdc e2 oj=>AU ?_;obtain⟨bn,j,ok,bo⟩:=e2.pubs (.tail (.tail (.tail (.tail (.tail (.tail .head))))));obtain⟨bp,co,E⟩:=bd E;obtain⟨cp,cq,E⟩:=bd E;refine tJ (m:=[(21,vP i0 0),(13,vP aj 0),(11,af),(9,.bool ac),(5,q8),(4,q1),(3,vI c),(14,vI ag)]) [0,4,9,10] [1,2,3,5,6,7,8] [] (λi v s=>match i with|1=>Sl bn s BD v W.2.1|2=>v=vI c∧AB c|3=>Sl bn s BD v bp|5=>Sl bn s BD v W.2.1|6=>v=vI c∧AB c|7=>v=vI (BC (c+1))∧AB (BC (c+1))|8=>Sl bn s BD v cp|_=>False) [[],[],[],[(1,139),(2,140)],[],[],[],[(6,144)],[(5,143),(7,145)],[],[]] [(3,141),(8,146)] mo (by kernel_rfl) [21,13,11,9,5,4,3,14] O (by kernel_rfl) (by kernel_rfl) (by kernel_rfl) O (kp [21,13,11,9,5,4,3,14] O) MO (by kernel_rfl) fU ?_ ?_ ?_
 ·refine LG.cons [] (by kernel_rfl) O O (by kernel_rfl) ?_ ?_
  ·intro mq s o;have d:=o.st j;intro a X;have i4:=bo.mono' (o.ext j.1);exact⟨af,Jv X O,i4⟩
  refine LG.cons [] (by kernel_rfl) O O (by kernel_rfl) ?_ ?_
  ·intro mq s o;intro a X;exact⟨vI c,Jv X O,⟨O,au⟩⟩
  refine LG.cons [(1,139),(2,140)] (by kernel_rfl) O O (by kernel_rfl) ?_ ?_
  ·intro mq s o;intro i5 cr ol i6;have d:=o.st j;have cr:Sl _ _ BD i5 W.2.1:=cr;obtain⟨rfl,om⟩:=i6;exact Vp O O cr Ow.1 co (λu h=>h)
  refine LG.cons [] (by kernel_rfl) O O (by kernel_rfl) ?_ ?_
  ·intro mq s o;have d:=o.st j;intro a X;have i7:=bo.mono' (o.ext j.1);exact⟨af,Jv X O,i7⟩
  refine LG.cons [] (by kernel_rfl) O O (by kernel_rfl) ?_ ?_
  ·intro mq s o;intro a X;exact⟨vI c,Jv X O,⟨O,au⟩⟩
  refine LG.cons [(6,144)] (by kernel_rfl) O O (by kernel_rfl) ?_ ?_
  ·intro mq s o;intro oo i8;obtain⟨rfl,op⟩:=i8;intro a X;exact⟨vI (BC (c+1)),ZG X O O,⟨O,(BH _)⟩⟩
  refine LG.cons [(5,143),(7,145)] (by kernel_rfl) O O (by kernel_rfl) ?_ ?_
  ·intro mq s o;intro i9 ct oq ja;have d:=o.st j;have ct:Sl _ _ BD i9 W.2.1:=ct;obtain⟨rfl,os⟩:=ja;exact Vq O O ct Ow.1 cq (λu h=>h)
  exact trivial
 ·refine Cx.skip (by kernel_rfl) (Cx.cons O O O ?_ ?_)
  ·intro mq s o;have d:=o.st j;refine AU ?_;have jb:=bo.mono' (o.ext j.1);exact A5 jb
  refine Cx.cons O O O D8 (Cx.cons O O O ?_ ?_)
  ·intro mq s o;intro jc cu ot jd;have d:=o.st j;have cu:Sl _ _ BD jc W.2.1:=cu;obtain⟨rfl,ou⟩:=jd;refine LU 1 (kZ O O cu Ow.1 co O λov je=>AU ?_);exact A5 je
  refine Cx.skip (by kernel_rfl) (Cx.cons O O O ?_ ?_)
  ·intro mq s o;have d:=o.st j;refine AU ?_;have jf:=bo.mono' (o.ext j.1);exact A5 jf
  refine Cx.cons O O O D8 (Cx.cons O O O D8 (Cx.cons O O O ?_ ?_))
  ·intro mq s o;intro jg cv ow jh;have d:=o.st j;have cv:Sl _ _ BD jg W.2.1:=cv;obtain⟨rfl,ox⟩:=jh;refine LU 1 (lB O O cv Ow.1 cq O λoy ji=>AU ?_);exact A5 ji
  exact Cx.skip (by kernel_rfl) (Cx.skip (by kernel_rfl) (trivial))
 intro oz jj jk a3 jl a4 ks;have e3:=SN.st j jj;have a3:=Sl.sn dc a3;have a3:Sl _ _ BD jk bp:=a3;have a4:=Sl.sn dc a4;have a4:Sl _ _ BD jl cp:=a4;refine Vc (r:=BD) PC O O e3 λo0 o1 e4 jm=>?_;have jn:=a3.mono' jm;obtain⟨e6,E⟩:=LQ E;refine Io (r:=BD) (l:=([]:List AJ)) (xs:=bp) O O PC O (Sl.src jn) O e6 O e4 (λ_=> .head) λo2 o3 e7 o4=>?_;have jo:=a4.nw;obtain⟨e8,E⟩:=LQ E;refine Io (r:=BD) (l:=(([]:List AJ)++bp)) (xs:=cp) O O PC O (Sl.src jo) O e8 O e7 (λ_=> .head) λo5 o6 ah o7=>AU ?_;refine BY (.inl O) ah (AU ?_);obtain⟨jp,z,E⟩:=bd E;refine AZ 24 173 (.bool jp) ?_ ?_
 ·cases dd:ac
  ·have z:=G3 dd z;cases z;exact BG O O
  have z:=G2 dd z;refine AU ?_;have jq:=i3.nw;refine B7 z O O O K2 O (λde e9 h' o=>Cn (St.all h') (jq.mono' (o.all ah.1)) e9) λde z jr=>?_;have o8:=jr;refine AU ?_;obtain⟨js,V,z⟩:=bd z;refine AZ 7 172 (.bool js) ?_ ?_
  ·cases df:(((decide (de=0))||(decide (db.I=db.C)))||(decide (0<ag)))
   ·have V:=G3 df V;have jt:=c9.nw;obtain⟨o9,_,ju⟩:=jt.lv;have jv:=da.nw;obtain⟨pa,_,jw⟩:=jv.lv;refine AU ?_;have bz:=cz.nw;obtain⟨pb,fa,V⟩:=bd V;refine Jt O O O Ue O (λh' o=>IQ (St.all h') (ju.mono (o.all ah.1)) (jw.mono (o.all ah.1)) (bz.mono (o.all ah.1)) ((ah.oslAll mh).mono (λb hb=>Aa9 hb o.siz) (λb hb=>o.same b hb)) fa) (AU ?_);cases V;exact A0 O
   have V:=G2 df V;cases V;exact BG O O
  refine AU ?_;cases z;exact A0 O
 refine AU ?_;exact BJ (kp [8] O) λpc kt pd=>RT
abbrev Df {α}(x:Option α):Prop:=∃v,x=some v
def NU (n:Int):IntKind.u64.wrap n=n%18446744073709551616:=by simp [IntKind.wrap,IntKind.bits,IntKind.signed]
def Em (a:Nat) (b:a<18446744073709551616):IntKind.u64.wrap (a:Int)=a:=by rw[NU];omega
def RG {n:Int}(a:IntKind.u64.has n):IntKind.u64.wrap n=n:=by
 simp [IntKind.has,IntKind.min,IntKind.max,IntKind.bits,IntKind.signed] at a;rw[NU];omega
def OX {n:Int}:IntKind.u64.has n↔0≤n∧n≤18446744073709551615:=by simp [IntKind.has,IntKind.min,IntKind.max,IntKind.bits,IntKind.signed]
def dV {n:Int}(b:IntKind.u64.has n):∃a:Nat,n=a∧a<18446744073709551616:=by
 rw[OX] at b;exact⟨n.toNat,by omega,by omega⟩
def W8 (a j:Nat) (b:j≤64):EZ .u64 (a:Int) j=((a/2^j:Nat):Int):=by
 unfold EZ;have e:min j IntKind.u64.bits=j:=by simp [IntKind.bits];omega
 rw[e,Int.fdiv_eq_ediv_of_nonneg _ (Int.le_of_lt (Int.pow_pos (by decide)))];simp
def zN (a b:Nat) (g:a<18446744073709551616) (i:b<18446744073709551616):FX .and .u64 (a:Int) (b:Int)=((a&&&b:Nat):Int):=by
 have c:(BitVec.ofInt 64 (a:Int)).toNat=a:=by rw[BitVec.ofInt_natCast,BitVec.toNat_ofNat];exact Adx (by omega)
 have d:(BitVec.ofInt 64 (b:Int)).toNat=b:=by rw[BitVec.ofInt_natCast,BitVec.toNat_ofNat];exact Adx (by omega)
 have j:a&&&b<2^64:=Nat.and_lt_two_pow _ (by omega);show IntKind.u64.wrap (((BitVec.ofInt 64 (a:Int))&&&(BitVec.ofInt 64 (b:Int))).toNat:Int)=_
 rw[BitVec.toNat_and,c,d,Em _ (by omega)]
def TI (a:Nat) (b:a<18446744073709551616):FX .and .u64 (a:Int) 4294967295=((a%4294967296:Nat):Int):=by
 have c:=zN a 4294967295 b (by omega);have e:a&&&4294967295=a%4294967296:=Nat.and_two_pow_sub_one_eq_mod a 32;rw[e] at c;exact c
def Oy (a:Nat):EZ .u64 (a:Int) 32=((a/4294967296:Nat):Int):=W8 a 32 (by omega)
def Qu (a b:Nat):(a:Int)*(b:Int)=((a*b:Nat):Int):=(Int.natCast_mul a b).symm
def Uf (a b:Nat):(a:Int)+(b:Int)=((a+b:Nat):Int):=(Int.natCast_add a b).symm
def mD (a:Nat):IntKind.u64.wrap (a:Int)=((a%18446744073709551616:Nat):Int):=by rw[NU];omega
def TH (N x y:Nat) (k:x<18446744073709551616) (l:y<18446744073709551616):Hf N (x:Int) (y:Int)=some (((x*y/18446744073709551616:Nat):Int),((x*y%18446744073709551616:Nat):Int)):=by
 obtain⟨bd,m,n,c⟩:=Lib.mul64_hi x y k l;have p:=Lib.half_mul_le (a:=x/4294967296) (b:=y/4294967296) (by omega) (by omega);have q:=Lib.half_mul_le (a:=x/4294967296) (b:=y%4294967296) (by omega) (by omega);have s:=Lib.half_mul_le (a:=x%4294967296) (b:=y/4294967296) (by omega) (by omega);have d:x/4294967296*(y/4294967296)<18446744073709551616:=by omega
 have g:x/4294967296*(y%4294967296)<18446744073709551616:=by omega
 have i:x%4294967296*(y/4294967296)<18446744073709551616:=by omega
 have j:x/4294967296*(y/4294967296)+(x/4294967296*(y%4294967296)+x%4294967296*(y%4294967296)/4294967296)/4294967296<18446744073709551616:=by omega
 have o:x/4294967296*(y/4294967296)+(x/4294967296*(y%4294967296)+x%4294967296*(y%4294967296)/4294967296)/4294967296+((x/4294967296*(y%4294967296)+x%4294967296*(y%4294967296)/4294967296)%4294967296+x%4294967296*(y/4294967296))/4294967296<18446744073709551616:=by omega
 simp only[Hf,Oy,TI x k,TI y l,Qu,Uf,Em _ bd,Em _ g,Em _ m,TI _ m,Em _ i,Em _ n,Em _ d,Em _ j,Em _ o,mD (x*y)];rw[c]
def Ln (x n:Nat):Prop:=1≤n∧2^(n-1)≤x∧x<2^n
def Ln.shift {x m s:Nat}(g:Ln (x/2^s) m):Ln x (m+s):=by
 obtain⟨d,b,c⟩:=g;have a:0<2^s:=Ad8 s;refine⟨by omega,?_,?_⟩
 ·have:2^(m-1)*2^s≤x:=(Nat.le_div_iff_mul_le a).1 b;rw[show m+s-1=(m-1)+s by omega,Nat.pow_add];exact this
 ·have:=(Aem a).1 c;rw[Nat.pow_add];exact this
set_option maxRecDepth 20000 in
def yU:∀k:Nat,k<256→VM NK (k:Int)=some (((if k=0 then 0 else k.log2+1:Nat)):Int):=by decide +kernel
def iQ {k:Nat}(h0:0<k) (a:k<256):∃n:Nat,VM NK (k:Int)=some (n:Int)∧Ln k n∧n≤8:=by
 have e:=yU k a;rw[Aaw (by omega)] at e;refine⟨_,e,⟨by omega,?_,Nat.lt_log2_self⟩,?_⟩
 ·rw[Nat.add_sub_cancel];exact Nat.log2_self_le (by omega)
 ·have:k.log2<8:=(Nat.log2_lt (by omega)).2 a;omega
def dK (N:Nat){x:Nat}(h0:0<x) (u:x<18446744073709551616):∃n:Nat,Ie N (x:Int)=some (n:Int)∧Ln x n∧n≤64:=by
 have c:∀a:Nat,a<9223372036854775808→BC (a:Int)=a:=λa v=>RI (by unfold AB;omega);have l:∀a:Nat,a<256→IntKind.u8.wrap (a:Int)=a:=λa v=>by simp [IntKind.wrap,IntKind.bits,IntKind.signed];omega
 have o:∀a b:Nat,0<a→a<256→b≤56→∃n:Nat,GV N (a:Int) (b:Int)=some ((n+b:Nat):Int)∧Ln a n∧n≤8:=λa b j k p=>by
  obtain⟨n,d,g,i⟩:=iQ j k;refine⟨n,?_,g,i⟩;simp only[GV,l a k,d,Aav,c n (by omega),Uf,Nat.add_comm b n,c (n+b) (by omega)]
 have q:∀a b:Nat,0<a→a<65536→b≤48→∃n:Nat,GW N (a:Int) (b:Int)=some ((n+b:Nat):Int)∧Ln a n∧n≤16:=λa b j k p=>by
  unfold GW;by_cases s:256≤a
  ·rw[show decide ((256:Int)≤(a:Int))=true by simp;omega,Aax,W8 a 8 (by omega)];have m:BC ((b:Int)+8)=((b+8:Nat):Int):=by rw[show ((b:Int)+8)=((b+8:Nat):Int) by omega];exact c _ (by omega)
   rw[m];obtain⟨n,d,g,i⟩:=o (a/2^8) (b+8) (by omega) (by omega) (by omega);exact⟨n+8,by rw[d,show n+(b+8)=n+8+b by omega],g.shift,by omega⟩
  ·rw[show decide ((256:Int)≤(a:Int))=false by simp;omega,Aa0];obtain⟨n,d,g,i⟩:=o a b j (by omega) (by omega);exact⟨n,d,g,by omega⟩
 have t:∀a b:Nat,0<a→a<4294967296→b≤32→∃n:Nat,GX N (a:Int) (b:Int)=some ((n+b:Nat):Int)∧Ln a n∧n≤32:=λa b j k p=>by
  unfold GX;by_cases s:65536≤a
  ·rw[show decide ((65536:Int)≤(a:Int))=true by simp;omega,Aax,W8 a 16 (by omega)];have m:BC ((b:Int)+16)=((b+16:Nat):Int):=by rw[show ((b:Int)+16)=((b+16:Nat):Int) by omega];exact c _ (by omega)
   rw[m];obtain⟨n,d,g,i⟩:=q (a/2^16) (b+16) (by omega) (by omega) (by omega);exact⟨n+16,by rw[d,show n+(b+16)=n+16+b by omega],g.shift,by omega⟩
  ·rw[show decide ((65536:Int)≤(a:Int))=false by simp;omega,Aa0];obtain⟨n,d,g,i⟩:=q a b j (by omega) (by omega);exact⟨n,d,g,by omega⟩
 unfold Ie;by_cases s:4294967296≤x
 ·rw[show decide ((4294967296:Int)≤(x:Int))=true by simp;omega,Aax,W8 x 32 (by omega)];obtain⟨n,d,g,i⟩:=t (x/2^32) 32 (by omega) (by omega) (by omega);exact⟨n+32,by rw[show ((32:Int))=((32:Nat):Int) from rfl,d],g.shift,by omega⟩
 ·rw[show decide ((4294967296:Int)≤(x:Int))=false by simp;omega,Aa0];obtain⟨n,d,g,i⟩:=t x 0 h0 (by omega) (by omega);exact⟨n,d,g,by omega⟩
def mU (N:Nat){y:Nat}(h0:0<y) (a:y<18446744073709551616):∃s:Nat,Ez N (y:Int)=some (s:Int)∧s≤63∧9223372036854775808≤y*2^s∧y*2^s<18446744073709551616:=by
 obtain⟨n,b,⟨g,c,d⟩,i⟩:=dK N h0 a;refine⟨64-n,?_,by omega,?_,?_⟩
 ·simp only[Ez,b,Aav];rw[RI (by unfold AB;omega)];congr 1;omega
 ·have:=Acq (2^(64-n)) c;rw[←Nat.pow_add,show n-1+(64-n)=63 by omega] at this;exact this
 ·have:=Nat.mul_lt_mul_of_pos_right d (Ad8 (64-n));rw[←Nat.pow_add,show n+(64-n)=64 by omega] at this;exact this
def Df.mk {α}(v:α):Df (some v):=⟨v,rfl⟩
def Df.bind {α β}{a:Option α}{f:α→Option β}(d:Df a) (k:∀v,a=some v→Df (f v)):Df (a.bind f):=by
 obtain⟨v,b⟩:=d;obtain⟨u,c⟩:=k v b;exact⟨u,by rw[b];exact c⟩
def Df.cond {α}{b:Bool}{x y:Option α}(a:b=true→Df x) (c:b=false→Df y):Df (cond b x y):=by
 cases b
 ·exact c rfl
 ·exact a rfl
def F6 {α}(b:Bool) (x y:α):cond b (some x) (some y)=some (cond b x y):=by cases b<;>rfl
def BI {α}{l:List α}{i:Nat}(a:i<l.length):ix l (i:Int)=some l[i]:=by simp [ix,a]
def Df.ix {α}{l:List α}{i:Int}(h0:0≤i) (a:i<l.length):Df (ix l i):=by
 obtain⟨j,rfl⟩:∃j:Nat,i=j:=⟨i.toNat,by omega⟩
 exact⟨_,BI (by omega)⟩
def DJ {n:Int}(h0: -9223372036854775808≤n) (a:n≤9223372036854775807):BC n=n:=RI ⟨h0,a⟩
def qU {n:Int}:∃j,QN (IntKind.u64.wrap n)=some j∧(j:Int)=IntKind.u64.wrap n:=by
 have:=(OX.1 (Cw .u64 n)).1;exact⟨(IntKind.u64.wrap n).toNat,by unfold QN;rw[Aaw (by omega)],by omega⟩
def XE {k:IntKind}{x y:Int}(a:y≠0):Df (SK k x y):=⟨_,by unfold SK;rw[Aaw a]⟩
def pG {x y:Int}(a:y≠0):Df (Uy x y):=⟨_,by unfold Uy;rw[Aaw a]⟩
def eN (N:Nat) (c y:Int) (b a:Nat) (kj:Int→Option (Int×Int)) (d:∀v,Df (kj v)):∀(n:Nat) (q r:Int),IntKind.u64.has q→q.toNat<n→Df (DH N c y b a kj n q r)
 |0,q,r,k,g=>by omega
 |n+1,q,r,k,g=>by
  have j:=OX.1 k;unfold DH;refine Df.cond (λi=>?_) λ_=>d _;have h0:q≠0:=by
   rintro rfl;have:=(OX.1 (Cw .u64 (IntKind.u64.wrap (4294967296*r)+EZ .u64 (Do .u64 c a) 32))).1;simp [NU] at i this;omega
  have e:IntKind.u64.wrap (q-1)=q-1:=RG (OX.2 (by omega));refine Df.cond (λ_=>d _) λ_=>?_;exact eN N c y b a kj d n _ _ (Cw _ _) (by rw[e];omega)
def eM (N:Nat) (c y:Int) (b a:Nat) (kj:Int→Option (Int×Int)) (d:∀v,Df (kj v)):∀(n:Nat) (r q:Int),IntKind.u64.has q→q.toNat<n→Df (Dd N c y b a kj n r q)
 |0,r,q,k,g=>by omega
 |n+1,r,q,k,g=>by
  have j:=OX.1 k;unfold Dd;refine Df.cond (λi=>?_) λ_=>d _;have h0:q≠0:=by
   rintro rfl;have:=(OX.1 (Cw .u64 (IntKind.u64.wrap (4294967296*r)+FX .and .u64 (Do .u64 c a) 4294967295))).1;simp [NU] at i this;omega
  have e:IntKind.u64.wrap (q-1)=q-1:=RG (OX.2 (by omega));refine Df.cond (λ_=>d _) λ_=>?_;exact eM N c y b a kj d n _ _ (Cw _ _) (by rw[e];omega)
def BN:Nat:=36893488147419103232
def xY:18446744073709551616<BN:=by decide
def jG {a s:Nat}(j:s≤63) (c:9223372036854775808≤a*2^s) (b:a*2^s<18446744073709551616):EZ .u64 (Do .u64 (a:Int) s) 32≠0:=by
 have d:Do .u64 (a:Int) s=((a*2^s:Nat):Int):=by
  unfold Do;have g:min s IntKind.u64.bits=s:=by simp [IntKind.bits];omega
  have i:((a:Int)*2^s)=((a*2^s:Nat):Int):=by simp
  rw[g,i];exact Em _ b
 rw[d,Oy];generalize a*2^s=t at c b
 omega
def qR (N:Nat) (i k y g:Int) (a b c d:Nat) (q v:Int):Df (E0 N i k y g a b c d q v):=by
 unfold E0;obtain⟨j,l,_⟩:=qU (n:=g);rw[l];exact Df.mk _
def qS {N:Nat}(o:18446744073709551616<N) (l k y m:Int) (b g i c:Nat) (q:Int) (hd:EZ .u64 (Do .u64 y b) 32≠0):Df (De N l k y m b g i c q):=by
 unfold De;refine Df.bind (XE hd) λj d=>?_;have a:=O4 d;have n:=(OX.1 a)
 exact eM N k y b c _ (λv=>qR _ _ _ _ _ _ _ _ _ _ _) N _ j a (by omega)
def Wc {N:Nat}(A:18446744073709551616<N){o q y:Int}(B:IntKind.u64.has o) (h2:IntKind.u64.has q) (C:IntKind.u64.has y) (h:o<y):Df (Fl N o q y):=by
 have g1:=OX.1 B;have g:y≠0:=by omega
 have t:¬y≤o:=by omega
 unfold Fl;refine Df.cond (λp=>absurd (Adf p) g) λ_=>Df.cond (λp=>absurd (Adf p) t) λ_=>Df.cond (λ_=>?_) λ_=>?_
 ·exact Df.bind (XE g) λ_ _=>Df.bind (pG g) λ_ _=>Df.mk _
 ·obtain⟨D,u,F⟩:=dV C;obtain⟨s,G,H,I,J⟩:=mU N (show 0<D by omega) F;have hd:∀j:Nat,(j:Int)=IntKind.u64.wrap (s:Int)→EZ .u64 (Do .u64 y j) 32≠0:=λj K=>by
   rw[Em s (by omega)] at K;have:j=s:=by omega
   rw[this,u];exact jG H I J
  rw[u,G];rw[←u];refine Df.bind (Df.mk _) λw x=>?_;have i:w=(s:Int):=(Aa1 x).symm;obtain⟨k,M,Q⟩:=qU (n:=w);obtain⟨U,V,_⟩:=qU (n:=(64-IntKind.u64.wrap w));have l:=hd k (by rw[Q,i]);rw[M,V];refine Df.bind (Df.mk _) λa W=>Df.bind (Df.mk _) λb hb=>Df.bind (Df.mk _) λc p=>Df.bind (Df.mk _) λd X=>?_;have Y:=Aa1 W;rw[←Y];refine Df.bind (XE l) λz Z=>?_;have m:=O4 Z;have aa:=OX.1 m;exact eN N q y k d _ (λv=>qS A _ _ _ _ _ _ _ _ _ l) N z _ m (by omega)
def cA {N:Nat}(g:18446744073709551616<N) (a num den:Int):Df (Fx N a num den):=by
 unfold Fx;refine Df.cond (λ_=>Df.mk _) λb=>?_;simp only[Abu,Abp] at b;obtain⟨⟨⟨⟨⟨l,m⟩,o⟩,p⟩,q⟩,s⟩:=b;obtain⟨c,i⟩:∃n:Nat,a=n:=⟨a.toNat,by omega⟩
 obtain⟨d,j⟩:∃n:Nat,num=n:=⟨num.toNat,by omega⟩
 subst i;subst j;rw[Em c (by omega),Em d (by omega),TH N c d (by omega) (by omega)];simp only[Aav];have hd:IntKind.u64.wrap den=den:=RG (OX.2 (by omega));rw[hd];refine Df.cond (λ_=>Df.mk _) λb=>?_;simp only[Abp] at b;have k:c*d<18446744073709551616*18446744073709551616:=Nat.mul_lt_mul'' (by omega) (by omega);refine Df.bind (Wc g (OX.2 ⟨by omega,by omega⟩) (OX.2 ⟨by omega,by omega⟩) (OX.2 (by omega)) (by omega)) λv _=>?_;exact Df.cond (λ_=>Df.mk _) λ_=>Df.mk _
def NY {N:Nat}(c:18446744073709551616<N){num den:Int}(h0:0≤num) (k:0≤den) (l:den≤9223372036854775807):Df (Fy N num den):=by
 unfold Fy;refine Df.cond (λ_=>Df.mk _) λd=>?_;simp only[Abp] at d;refine Df.cond (λ_=>Df.mk _) λa=>?_;simp only[Abp] at a;obtain⟨b,g⟩:∃n:Nat,num=n:=⟨num.toNat,by omega⟩
 obtain⟨i,j⟩:∃n:Nat,den=n:=⟨den.toNat,by omega⟩
 subst g;subst j;rw[Em b (by omega),Em i (by omega),show(1099511627776:Int)=((1099511627776:Nat):Int) from rfl,TH N b 1099511627776 (by omega) (by omega)];simp only[Aav];refine Df.bind (Wc c (OX.2 ⟨by omega,by omega⟩) (OX.2 ⟨by omega,by omega⟩) (OX.2 (by omega)) (by omega)) λv _=>?_;exact Df.cond (λ_=>Df.mk _) λ_=>Df.mk _
def pX {i j:Nat}(b:i+j<9223372036854775808):BC (EZ .u64 (IntKind.u64.wrap (BC ((i:Int)+(j:Int)))) 1)=(((i+j)/2:Nat):Int):=by
 have a:BC ((i:Int)+(j:Int))=((i+j:Nat):Int):=by rw[DJ (by omega) (by omega)];rfl
 rw[a,Em _ (by omega),W8 _ 1 (by omega),DJ (by omega) (by omega)]
def RO {N:Nat}(f:Int→Option Bool) (L:Nat) (c:L<4611686018427387904) (a:∀i:Nat,i<L→Df (f i)) (kj:Int→Option Int):∀(n i j:Nat),i≤j→j≤L→j-i<n→(0<i→f ((i-1:Nat):Int)=some false)→(j<L→f (j:Int)=some true)→
  ∃r:Nat,GS N f kj n (i:Int) (j:Int)=kj (r:Int)∧r≤L∧(0<r→f ((r-1:Nat):Int)=some false)∧(r<L→f (r:Int)=some true)
 |0,i,j,_,_,p,_,_=>by omega
 |n+1,i,j,m,d,o,g,k=>by
  unfold GS;by_cases l:i<j
  ·rw[show decide ((i:Int)<(j:Int))=true by simp;omega,Aax,pX (by omega)];obtain⟨v,b⟩:=a ((i+j)/2) (by omega);rw[b];simp only[Aav];cases v
   ·simp only[Bool.not_false,Aax];have e:BC ((((i+j)/2:Nat):Int)+1)=(((i+j)/2+1:Nat):Int):=by rw[DJ (by omega) (by omega)];rfl
    rw[e];exact RO f L c a kj n _ j (by omega) d (by omega) (λ_=>by rw[Nat.add_sub_cancel];exact b) k
   ·simp only[Ab4,Aa0];exact RO f L c a kj n i _ (by omega) (by omega) (by omega) g (λ_=>b)
  ·have e:i=j:=by omega
   subst e;rw[show decide ((i:Int)<(i:Int))=false by simp,Aa0];exact⟨i,rfl,d,g,k⟩
def ZR {N:Nat}(f:Int→Option Bool) (L:Nat) (a:L<4611686018427387904) (g:L<N) (b:∀i:Nat,i<L→Df (f i)):∃r:Nat,Lc N (L:Int) f=some (r:Int)∧r≤L∧(0<r→f ((r-1:Nat):Int)=some false)∧(r<L→f (r:Int)=some true):=by
 obtain⟨r,c,d⟩:=RO (N:=N) f L a b (Iu N) N 0 L (Aa4 _) (Abd _) (by omega) (λj=>absurd j (by omega)) (λj=>absurd j (by omega));exact⟨r,c,d⟩
def JI (n:Int):Prop:=0≤n∧n≤1125899906842624
def IH (c:List BT):Prop:=1≤c.length∧c.length≤32∧∀(k:Nat) p,c[k]? =some p→JI p.R∧JI p.W∧∀q,0<k→c[k-1]? =some q→q.R<p.R∧q.W≤p.W
def We {N:Nat}(c:List BT) (o:c.length≤32):∀(n k:Nat),c.length<n+k→k≤c.length→∃v,Ea N c (HE N) n (k:Int)=some v∧(v=true→∀(i:Nat) p,k≤i→c[i]? =some p→JI p.R∧JI p.W∧∀q,0<i→c[i-1]? =some q→q.R<p.R∧q.W≤p.W)
 |0,k,A,s=>by omega
 |n+1,k,A,s=>by
  unfold Ea;by_cases g:k<c.length
  ·rw[show decide ((k:Int)<(c.length:Int))=true by simp;omega,Aax,BI g];simp only[Aav];cases t:(decide ((c[k]).R<0)||decide (1125899906842624<(c[k]).R)||decide ((c[k]).W<0)||decide (1125899906842624<(c[k]).W))
   ·simp only[Aa0];simp only[Abu,Abp] at t;obtain⟨v,u,l⟩:=We (N:=N) c o n (k+1) (by omega) (by omega);have w:BC ((k:Int)+1)=((k+1:Nat):Int):=by rw[DJ (by omega) (by omega)];rfl
    rw[w,u];by_cases h0:0<k
    ·have x:BC ((k:Int)-1)=((k-1:Nat):Int):=by rw[DJ (by omega) (by omega)];omega
     rw[show decide ((0:Int)<(k:Int))=true by simp;omega,x,BI (show k-1<c.length by omega)];simp only[Aax,Aav,F6];cases b:cond (decide ((c[k]).R≤(c[k-1]).R)) true (decide ((c[k]).W<(c[k-1]).W))
     ·simp only[Aa0];refine⟨v,rfl,λd i p m a=>?_⟩;by_cases e:i=k
      ·subst e;have:p=c[i]:=by simpa [g] using a.symm
       subst this;refine⟨⟨by omega,by omega⟩,⟨by omega,by omega⟩,λq _ y=>?_⟩;have:q=c[i-1]:=by simpa [show i-1<c.length by omega] using y.symm
       subst this;cases j:decide ((c[i]).R≤(c[i-1]).R) with
       |true=>rw[j] at b;simp at b
       |false=>
        rw[j] at b;simp only[Aa0,Abp] at b j;omega
      ·exact l d i p (by omega) a
     ·exact⟨false,rfl,λA=>by cases A⟩
    ·have z:k=0:=by omega
     subst z;rw[show decide ((0:Int)<((0:Nat):Int))=false by simp];simp only[Aa0,Aav];refine⟨v,rfl,λd i p m a=>?_⟩;by_cases e:i=0
     ·subst e;have:p=c[0]:=by simpa [g] using a.symm
      subst this;exact⟨⟨by omega,by omega⟩,⟨by omega,by omega⟩,λq A _=>absurd A (by omega)⟩
     ·exact l d i p (by omega) a
   ·exact⟨false,rfl,λA=>by cases A⟩
  ·rw[show decide ((k:Int)<(c.length:Int))=false by simp;omega,Aa0];refine⟨true,rfl,λ_ i p m a=>?_⟩;have:=(Aba.1 a).1;omega
def Jr {N:Nat}(j:33<N) (c:List BT):∃v,Eb N c=some v∧(v=true→IH c):=by
 unfold Eb;cases a:(decide ((c.length:Int)<1)||decide (32<(c.length:Int)))
 ·simp only[Abu,Abp] at a;obtain⟨v,b,d⟩:=We (N:=N) c (by omega) N 0 (by omega) (by omega);exact⟨v,b,λg=>⟨by omega,by omega,λk p i=>d g k p (by omega) i⟩⟩
 ·exact⟨false,rfl,λl=>by cases l⟩
def Si {N:Nat}(b:18446744073709551616<N){c:List BT}(l:1≤c.length) (m:c.length≤32) (x:Int):Df (Il N c x):=by
 unfold Il;obtain⟨r,d,n,_⟩:=ZR (N:=N) (λy=>IW N c x y) c.length (by omega) (by omega) λi g=>by
  unfold IW;rw[BI g];exact Df.mk _
 rw[d];simp only[Aav];refine Df.cond (λ_=>Df.bind (Df.ix (by omega) (by omega)) λ_ _=>Df.mk _) λj=>?_;simp only[Abp] at j;have k:BC ((r:Int)-1)=((r-1:Nat):Int):=by rw[DJ (by omega) (by omega)];omega
 rw[k];refine Df.bind (Df.ix (by omega) (by omega)) λ_ _=>Df.cond (λ_=>Df.mk _) λa=>?_;simp only[Abp] at a;exact Df.bind (Df.ix (by omega) (by omega)) λ_ _=>Df.bind (Df.ix (by omega) (by omega)) λ_ _=>Df.bind (cA b _ _ _) λ_ _=>Df.mk _
end Go.Proofs.YtedgiljmffngoaaGreat
