import Derived.Test.YtedgiljmffngoaaGreatFFacts
import Derived.Test.YtedgiljmffngoaaGreatFForms
import Derived.Test.YtedgiljmffngoaaGreatFInst
import Derived.Test.YtedgiljmffngoaaGreatFSort5
import Derived.Test.YtedgiljmffngoaaGreatFWalk2
import Derived.Test.YtedgiljmffngoaaGreatFWalk9
import Derived.Test.YtedgiljmffngoaaGreatFWalk18
namespace Go.Proofs.YtedgiljmffngoaaGreat
set_option linter.all false
open Go.RowKit
open Go.Proofs.Tryz
set_option maxRecDepth 10000
set_option maxHeartbeats 2000000
variable {N:Nat}{S:Nat→Prop}{L:List HP}{h:AT}
def N7 (hs:St S L h) {o:Value}{l:AJ}(x:Rd S h A7 o l) {b:Value}{c:(List AX)}(d:Sl S h BJ b c) {r:Bool}(E:G0 N l c=some r):
 B0 prog 35 #[o,b] S h (λv S' h'=>v= .bool r∧St S' (L) h'):=by
 refine BA 89 func35 O ntmps35 O λB=>?_;rw[G0] at E;refine AU ?_;refine B4 O x CE O hs λU S2 V W e5 k6=>?_;have aw:=d.mono' e5;refine AU ?_;refine AF O E (λX E=>?_) (λX E=>?_)
 ·exact RT
 refine AU ?_;refine AK (λa w=>IV B S2 V (89,[]) a w [(2,U),(1,b)] (L) λ_ _=>FY N l c=some r) ?_ ?_
 ·refine AY (λn1=>λa w=>∃(p:Int),IV B S2 V (89,[]) a w [(2,U),(1,b),(5,vI p)] (L) λ_ _=>AA p∧D9 N l (FY N l c) n1 p=some r) N ?_ ?_ ?_
  ·intro j k g i;exact⟨0,_,_,g.sub (kp [2,1,5] O),i,W,(B6.refl S2 V),(iq (n:=0) O),E⟩
  ·rintro j k ⟨_,_,_,_,_,_,_,_,E⟩;rw[D9] at E;cases E
  rintro n1 j k ⟨p,ax,ay,g,i,y,C,az,E⟩;refine AI ?_ g i;clear g i k j;rw[D9] at E;have Y:=k6.mono C;refine AU ?_;refine AF O E (λZ E=>?_) (λZ E=>?_)
  ·refine AU ?_;refine AZ ?_;have ab:=Y.fl Dg;obtain⟨a0,_,ac⟩:=ab.ll;refine AU ?_;refine A9 E O O ac sl_32.1 O λa1 E a2 a3=>AU ?_;refine AF O E (λad E=>?_) (λad E=>?_)
   ·exact RT
   refine AU ?_;refine BD (AU ?_);refine WF.nil (λj k g i=>?_);exact⟨(BG (p+1)),_,_,g.sub (kp [2,1,5] O),i,y,C,(BF _),E⟩
  refine A8 O (λj k g i=>?_);exact⟨_,_,g.sub (kp [2,1] O),i,y,C,E⟩
 rintro j k ⟨D,F,g,i,H,a4,E⟩;refine AI ?_ g i;clear g i k j;rw[FY] at E;refine AU ?_;refine AK (λa w=>IV B D F (89,[]) a w [(1,b)] (L) λ_ _=>FX N c=some r) ?_ ?_
 ·refine AY (λn3=>λa w=>∃(q:Int),IV B D F (89,[]) a w [(2,U),(1,b),(6,vI q)] (L) λ_ _=>AA q∧D8 N l (FX N c) n3 q=some r) N ?_ ?_ ?_
  ·intro j k g i;exact⟨0,_,_,g.sub (kp [2,1,6] O),i,H,(B6.refl D F),(iq (n:=0) O),E⟩
  ·rintro j k ⟨_,_,_,_,_,_,_,_,E⟩;rw[D8] at E;cases E
  rintro n3 j k ⟨q,a5,a6,g,i,z,I,a7,E⟩;refine AI ?_ g i;clear g i k j;rw[D8] at E;have ae:=k6.nw;refine AU ?_;refine AF O E (λaf E=>?_) (λaf E=>?_)
  ·refine AU ?_;refine AZ ?_;have ag:=ae.fl Dt;obtain⟨a8,_,ah⟩:=ag.ll;refine AU ?_;refine A9 E O O ah sl_33.1 O λa9 E ba bb=>AU ?_;refine AF O E (λJ E=>?_) (λJ E=>?_)
   ·exact RT
   refine AU ?_;refine BD (AU ?_);refine WF.nil (λj k g i=>?_);exact⟨(BG (q+1)),_,_,g.sub (kp [2,1,6] O),i,z,I,(BF _),E⟩
  refine A8 O (λj k g i=>?_);exact⟨_,_,g.sub (kp [1] O),i,z,I,E⟩
 rintro j k ⟨s,t,g,i,G,aj,E⟩;refine AI ?_ g i;clear g i k j;rw[FX] at E;refine AU ?_;refine AK (λa w=>IV B s t (89,[]) a w [] (L) λ_ _=>FW N=some r) ?_ ?_
 ·refine AY (λn5=>λa w=>∃(m:Int),IV B s t (89,[]) a w [(1,b),(7,vI m)] (L) λ_ _=>AA m∧DX N c (FW N) n5 m=some r) N ?_ ?_ ?_
  ·intro j k g i;exact⟨0,_,_,g.sub (kp [1,7] O),i,G,(B6.refl s t),(iq (n:=0) O),E⟩
  ·rintro j k ⟨_,_,_,_,_,_,_,_,E⟩;rw[DX] at E;cases E
  rintro n5 j k ⟨m,ak,al,g,i,u,A,am,E⟩;refine AI ?_ g i;clear g i k j;rw[DX] at E;have an:=d.nw;refine AU ?_;refine AF O E (λK E=>?_) (λK E=>?_)
  ·refine AU ?_;refine AZ (AU ?_);have M:=d.nw;refine A9 E O O M sl_70.1 O λao E ap aq=>AU ?_;refine AF O E (λQ E=>?_) (λQ E=>?_)
   ·exact RT
   refine AU ?_;refine BD (AU ?_);refine WF.nil (λj k g i=>?_);exact⟨(BG (m+1)),_,_,g.sub (kp [1,7] O),i,u,A,(BF _),E⟩
  refine A8 O (λj k g i=>?_);exact⟨_,_,g.sub MC,i,u,A,E⟩
 rintro j k ⟨ar,au,g,i,ai,av,E⟩;refine AI ?_ g i;clear g i k j;rw[FW] at E;exact RT
def RC (W:St S L h) {b:Value}{l:(List Int)}(p:Sl S h AB b l) {r:Int×Bool}(E:Ko N l=some r):
 B0 prog 37 #[b] S h (λv S' h'=>v= .tuple #[vI r.1,.bool r.2]∧AA r.1∧St S' (L) h'):=by
 refine BA 40 func37 O ntmps37 O λB=>?_;rw[Ko] at E;refine AU ?_;refine AK (λa w=>∃(I:Int) (J:Int),IV B S h (40,[]) a w [(4,.int .u64 I),(5,.int .u64 J)] (L) λ_ _=>IntKind.has .u64 I∧IntKind.has .u64 J∧EL N I J=some r) ?_ ?_
 ·refine AY (λV=>λa w=>∃(i:Int) (d:Int) (o:Int),IV B S h (40,[]) a w [(10,vI (↑l.length:Int)),(9,b),(4,.int .u64 i),(5,.int .u64 d),(11,vI o)] (L) λ_ _=>IntKind.has .u64 i∧IntKind.has .u64 d∧AA o∧EK N l (EL N) V i d o=some r) N ?_ ?_ ?_
  ·intro q s g k;exact⟨0,0,0,_,_,g.sub (kp [10,9,4,5,11] O),k,W,(B6.refl S h),(show IntKind.has .u64 0 by first|assumption|exact⟨by decide,by decide⟩),(show IntKind.has .u64 0 by first|assumption|exact⟨by decide,by decide⟩),(iq (n:=0) O),E⟩
  ·rintro q s ⟨_,_,_,_,_,_,_,_,_,_,_,_,E⟩;rw[EK] at E;cases E
  rintro V q s ⟨i,d,o,X,Y,g,k,t,D,z,A,Z,E⟩;refine AI ?_ g k;clear g k s q;rw[EK] at E;refine AU ?_;refine AF O E (λK E=>?_) (λK E=>?_)
  ·refine AU ?_;refine AZ (AU ?_);have M:=p.mono' D;refine A9 E O O M sl_29.1 O λm E ab ac=>AU ?_;refine BZ (.inl O) t (AU ?_);refine Ca O Jp Fi O ?_;have C:=P9 (x:=d) (y:=(IntKind.wrap .u64 m)) (c:=0) A (CT _ _) aV;refine TB O O (TJ _ _ _ A (CT _ _) aV) O (AU ?_);refine BL (kp [8,5,7,10,9,4,11] O) λad F ae=>BZ (.inl O) F (AU ?_);refine HH (j:=63) O O O O (Ca O Jp Fi O (AU ?_));have Q:=P9 (x:=i) (y:=(IntKind.wrap .u64 (Dn .i64 m 63))) (c:=((GG d (IntKind.wrap .u64 m) 0).2)) z (CT _ _) C.2.2;refine TB O O (TJ _ _ _ z (CT _ _) C.2.2) O (AU ?_);refine BL (kp [4,5,10,9,11] O) λaf G ag=>BD (AU ?_);refine WF.nil (λq s g k=>?_);exact⟨(GG i (IntKind.wrap .u64 (Dn .i64 m 63)) ((GG d (IntKind.wrap .u64 m) 0).2)).1,(GG d (IntKind.wrap .u64 m) 0).1,(BG (o+1)),_,_,g.sub (kp [10,9,4,5,11] O),k,G,EX,Q.1,C.1,(BF _),E⟩
  refine A8 O (λq s g k=>?_);exact⟨i,d,_,_,g.sub (kp [4,5] O),k,t,D,z,A,E⟩
 rintro q s ⟨I,J,ah,ai,g,k,u,H,r3,r5,E⟩;refine AI ?_ g k;clear g k s q;rw[EL] at E;refine AU ?_;refine Ca O Fi Jp O (HH (j:=63) O O O O (Ca O Jp Fi O (AU ?_)));refine AF O E (λU E=>?_) (λU E=>?_)
 ·refine AU ?_;refine BS (λq s g k=>?_);cases E;exact Hk g O k (Eg (GE g (v:=_) O) (Eg (GE g (v:=_) O) Hj)) O H ⟨O,(iq (n:=0) O),u⟩
 refine AU ?_;refine Ca O Fi Jp O (AU ?_);refine BS (λq s g k=>?_);cases E;exact Hk g O k (Eg (GE g (v:=_) O) (Eg (GE g (v:=_) O) Hj)) O H ⟨O,(BF _),u⟩
def Na (C:St S L h) {b:Value}{g:(List Int)}(d:Sl S h AB b g) {c:Value}{i:(List Int)}(m:Sl S h AB c i) {r:Bool}(E:E0 N g i=some r):
 B0 prog 33 #[b,c] S h (λv S' h'=>v= .bool r∧St S' (L) h'):=by
 refine BA 26 func33 O ntmps33 O λB=>?_;rw[E0] at E;refine AU ?_;refine AF O E (λD E=>?_) (λD E=>?_)
 ·exact RT
 refine AU ?_;refine AK (λa w=>IV B S h (26,[]) a w [] (L) λ_ _=>Ep N=some r) ?_ ?_
 ·refine AY (λz=>λa w=>∃(s:Int),IV B S h (26,[]) a w [(0,b),(1,c),(5,vI s)] (L) λ_ _=>AA s∧DI N g i (Ep N) z s=some r) N ?_ ?_ ?_
  ·intro p q j k;exact⟨0,_,_,j.sub (kp [0,1,5] O),k,C,(B6.refl S h),(iq (n:=0) O),E⟩
  ·rintro p q ⟨_,_,_,_,_,_,_,_,E⟩;rw[DI] at E;cases E
  rintro z p q ⟨s,W,X,j,k,o,l,Y,E⟩;refine AI ?_ j k;clear j k q p;rw[DI] at E;have F:=d.mono' l;refine AU ?_;refine AF O E (λt E=>?_) (λt E=>?_)
  ·refine AU ?_;refine AZ (AU ?_);refine EF (.inr ⟨mo,by kernel_rfl⟩) (AU ?_);have u:=d.mono' l;refine A9 E O O u sl_29.1 O λG E H I=>AU ?_;have x:=m.mono' l;refine A9 E O O x sl_29.1 O λJ E K M=>AU ?_;refine AF O E (λy E=>?_) (λy E=>?_)
   ·exact RT
   refine AU ?_;refine BD (AU ?_);refine WF.nil (λp q j k=>?_);exact⟨(BG (s+1)),_,_,j.sub (kp [0,1,5] O),k,o,l,(BF _),E⟩
  refine A8 O (λp q j k=>?_);exact⟨_,_,j.sub MC,k,o,l,E⟩
 rintro p q ⟨Q,U,j,k,A,V,E⟩;refine AI ?_ j k;clear j k q p;rw[Ep] at E;exact RT
def L9 (hs:St S L h) {j:Value}{i:(List AX)}(s:Sl S h BJ j i) {m:Int}(K:AA m) {c:Int}(I:AA c) {g:Int}(M:AA g) {d:Int}(G:AA d) (d9:DG N=some true) (E:EQ N i m c g d=some true):
 B0 prog 7 #[j,vI m,vI c,vI g,vI d] S h (λv S' h'=>v= .bool true∧St S' (L) h'):=by
 refine BA (l:=[j,vI m,vI c,vI g,vI d]) 190 func7 O ntmps7 O λB=>?_;rw[EQ] at E;refine BV (Bz O (kp [0,1,2,3,4] O) (BI (BZ (.inl O) hs ?_)));obtain⟨Z,ea,E⟩:=bd E;refine Ht O O O dO O (λh' o=>Nb (St.all h') d9 ea) (CM O (BL (kp [11,0,1,2,3,4] O) λh3 c1 e5=>BI (BI (BZ (.inl O) c1 (Dd (cs:=[vI 0,vN,vN,vN,vN,vN,vN]) VO O O O (AD O ?_))))));have k6:=s.mono' e5;obtain⟨y7,eb,E⟩:=bd E;refine Ht O O O dJ O (λh' o=>N7 (St.all h') (A7.mk (x:=(⟨0,[],[],[],[],[],[]⟩:AJ)) (iq (n:=0) O) (.inl ⟨O,O⟩) (.inl ⟨O,O⟩) (.inl ⟨O,O⟩) (.inl ⟨O,O⟩) (.inl ⟨O,O⟩) (.inl ⟨O,O⟩)) (k6.mono' (o.all c1.1)) eb) (HI O (AD O (AS 3 31 (.bool ((!y7)||(decide (c<0)))) ?_ ?_)))
 ·cases c9:(!y7)
  ·exact AM O (AD O (AM O (DN O (BP O (AQ O)))))
  exact A6 O O
 refine AD O (AS 4 36 (.bool (((!y7)||(decide (c<0)))||(decide (g<c)))) ?_ ?_)
 ·cases gl:((!y7)||(decide (c<0)))
  ·exact AM O (AD O (AM O (AD O (AM O (EC O (BP O (AQ O)))))))
  exact A6 O O
 refine AD O (AS 4 41 (.bool ((((!y7)||(decide (c<0)))||(decide (g<c)))||(decide (d<g)))) ?_ ?_)
 ·cases gm:(((!y7)||(decide (c<0)))||(decide (g<c)))
  ·exact AM O (AD O (AM O (AD O (AM O (EC O (BP O (AQ O)))))))
  exact A6 O O
 refine AD O (AS 5 47 (.bool (((((!y7)||(decide (c<0)))||(decide (g<c)))||(decide (d<g)))||(decide ((BG (c+200))<d)))) ?_ ?_)
 ·cases gn:((((!y7)||(decide (c<0)))||(decide (g<c)))||(decide (d<g)))
  ·exact AM O (AD O (AM O (AD O (AM O (DK O (AM O (EC O (BP O (AQ O)))))))))
  exact A6 O O
 refine AD O (AS 3 51 (.bool ((((((!y7)||(decide (c<0)))||(decide (g<c)))||(decide (d<g)))||(decide ((BG (c+200))<d)))||(decide (16777216<d)))) ?_ ?_)
 ·cases gp:(((((!y7)||(decide (c<0)))||(decide (g<c)))||(decide (d<g)))||(decide ((BG (c+200))<d)))
  ·exact AM O (AD O (AM O (EC O (BP O (AQ O)))))
  exact A6 O O
 refine BL (kp [51,11,0,1,2,3,4] O) λbu bl af=>AF O E (λec E=>?_) (λec E=>?_)
 ·refine BV (AD O (Bz O (kp [10] O) (BS (λC F t u=>?_))));cases E;exact Oo t u O O (e5.trans af) ⟨O,bl⟩
 refine CA (BV (Bz O (kp [12,11,0,1,2,3,4] O) (BI (BV (Bz O (kp [13,12,11,0,1,2,3,4] O) (AK (λa w=>∃(ay:Int),IV B S bu (190,[]) a w [(11,.bool Z),(0,j),(1,vI m),(2,vI c),(3,vI g),(4,vI d),(12,vI ay)] (L) λ_ _=>AA ay∧By N i m c g d Z ay=some true) ?_ ?_))))))
 ·refine AY (λn1=>λa w=>∃(V:Int) (W:Int),IV B S bu (190,[]) a w [(11,.bool Z),(0,j),(1,vI m),(2,vI c),(3,vI g),(4,vI d),(12,vI V),(13,vI W)] (L) λ_ _=>AA V∧AA W∧Bw N i m c d Z (By N i m c g d Z) n1 V W=some true) N ?_ ?_ ?_
  ·intro C F t u;exact⟨0,0,_,_,t.sub (kp [11,0,1,2,3,4,12,13] O),u,bl,(B6.refl S bu),(iq (n:=0) O),(iq (n:=0) O),E⟩
  ·rintro C F ⟨_,_,_,_,_,_,_,_,_,_,E⟩;rw[Bw] at E;cases E
  rintro n1 C F ⟨V,W,bh,ed,t,u,a0,a1,c2,gq,E⟩;refine AI ?_ t u;clear t u F C;rw[Bw] at E;refine BI (BV (AD O (AD O ?_)));have c3:=e5.trans (af.trans a1);have ee:=s.mono' c3;refine E3 O ee sl_70.1 O λgr=>DN O (B7 (kp [56,11,0,1,2,3,4,12,13] O) (AF O E (λef E=>?_) (λef E=>?_)))
  ·refine CA (BI (AK (λa w=>∃(a2:Int),IV B bh ed (190,[]) a w [(11,.bool Z),(0,j),(1,vI m),(2,vI c),(3,vI g),(4,vI d),(13,vI W),(12,vI a2)] (L) λ_ _=>AA a2∧Ch N W (Bw N i m c d Z (By N i m c g d Z) n1) a2=some true) ?_ ?_))
   ·refine WF.sl (BO 4 (AD O (AD O ?_)));have c4:=e5.trans (af.trans a1);have eg:=s.mono' c4;obtain⟨z,c5,E⟩:=bd E;refine Hg O O eg sl_70.1 c5 O λgs eh=>JJ FC a0.1 O eh ty_74.1 (λe=>by cases e) O λgt ei=>BQ (CG SW O a0 λbi gu c6 bj=>?_);have ej:=ei.mono bj;obtain⟨bk,rfl,gv,gw,gx,gz,a3⟩:=BJ.ex ej;refine Ld (vs:=[vI z.A,vI z.D,vI z.B,vI z.Aw,bk]) (cs':=[vI z.A,vI z.D,vI z.B,vI z.Aw,bk]) O O O (A4 O (A4 O (A4 O (A4 O (A4 a3.one HB))))) ty_74.1 O c6 .head O O λbv c7 am=>LF.nil (kp [14,11,0,1,2,3,4,12,13] O) (BI (BV (Bz O (kp [15,14,11,0,1,2,3,4,12,13] O) (AK (λa w=>IV B bh bv (190,[]) a w [(14,vP bi 0),(11,.bool Z),(0,j),(1,vI m),(2,vI c),(3,vI g),(4,vI d),(12,vI V),(13,vI W)] (Bx bi 74 [vI z.A,vI z.D,vI z.B,vI z.Aw,bk]::L) λ_ _=>C3 N m c d V z (Ch N W (Bw N i m c d Z (By N i m c g d Z) n1))=some true) ?_ ?_))))
    ·refine AY (λn4=>λa w=>∃(a4:Int),IV B bh bv (190,[]) a w [(14,vP bi 0),(11,.bool Z),(0,j),(1,vI m),(2,vI c),(3,vI g),(4,vI d),(12,vI V),(13,vI W),(15,vI a4)] (Bx bi 74 [vI z.A,vI z.D,vI z.B,vI z.Aw,bk]::L) λ_ _=>AA a4∧CQ N Z z (C3 N m c d V z (Ch N W (Bw N i m c d Z (By N i m c g d Z) n1))) n4 a4=some true) N ?_ ?_ ?_
     ·intro C F t u;exact⟨0,_,_,t.sub (kp [14,11,0,1,2,3,4,12,13,15] O),u,c7,(B6.refl bh bv),(iq (n:=0) O),E⟩
     ·rintro C F ⟨_,_,_,_,_,_,_,_,E⟩;rw[CQ] at E;cases E
     rintro n4 C F ⟨a4,g0,g1,t,u,Q,az,g2,E⟩;refine AI ?_ t u;clear t u F C;rw[CQ] at E;refine BI (BV (AD O (DJ O fa_74_4.1 O (E4 FC Q O mh O ty_29.1 O ?_))));have ek:=a3.mono' (am.trans az);refine E3 O ek sl_29.1 O λg3=>DN O (B7 (kp [67,14,11,0,1,2,3,4,12,13,15] O) (AF O E (λel E=>?_) (λel E=>?_)))
     ·refine CA (BI (AZ (BV (DJ O fa_74_4.1 O (E4 FC Q O mh O ty_29.1 O (AD O ?_))))));have em:=a3.mono' (am.trans az);obtain⟨en,c8,E⟩:=bd E;refine Hg O O em sl_29.1 c8 O λg4 eo=>C8 FC Q.1 O eo ty_3.1 O λg5=>DN O (AD O ?_);obtain⟨ep,U,E⟩:=bd E;refine AS 7 83 (.bool ep) ?_ ?_
      ·cases da:(decide (en<0))
       ·have U:=Em da U;refine AM O (DJ O fa_74_4.1 O (AM O (E4 FC Q O mh O ty_29.1 O (AM O (AD O (AM O ?_))))));have eq:=a3.mono' (am.trans az);obtain⟨g6,db,U⟩:=bd U;refine Hg O O eq sl_29.1 db O λg7 er=>AM O (C8 FC Q.1 O er ty_3.1 O λg8=>AM O (EC O (BP O ?_)));cases U;exact AQ O
       have U:=El da U;cases U;exact A6 O O
      refine B7 (kp [83,14,11,0,1,2,3,4,12,13,15] O) (AF O E (λes E=>?_) (λes E=>?_))
      ·refine BV (AD O (Bz O (kp [10] O) (BS (λC F t u=>?_))));have dc:=Q.drop .head;cases E;have dd:=e5.trans (af.trans (a1.trans (bj.trans (am.trans az))));exact Oo t u O O dd ⟨O,dc⟩
      refine CA (BD (EF (.inl O) (AD O (DK O (Bz O (kp [15,14,11,0,1,2,3,4,12,13] O) (WF.nil (λC F t u=>?_)))))));exact⟨(BG (a4+1)),_,_,t.sub (kp [14,11,0,1,2,3,4,12,13,15] O),u,Q,az,(BF _),E⟩
     refine A8 O (λC F t u=>?_);exact⟨_,_,t.sub (kp [14,11,0,1,2,3,4,12,13] O),u,Q,az,E⟩
    rintro C F ⟨g9,ha,t,u,X,bw,E⟩;refine AI ?_ t u;clear t u F C;rw[C3] at E;refine BV (DJ O fa_74_1.1 O (E4 FC X O mh O ty_3.1 O (AD O (II O (AD O (AS 5 94 (.bool ((decide (z.D=m))&&(decide (c≤z.A)))) ?_ ?_))))))
    ·cases hc:(decide (z.D=m))
     ·exact A6 O O
     exact AM O (DJ O fa_74_0.1 O (AM O (E4 FC X O mh O ty_3.1 O (AM O (AD O (AM O (Ua O (BP O (AQ O)))))))))
    refine AD O (AS 5 100 (.bool (((decide (z.D=m))&&(decide (c≤z.A)))&&(decide (z.A<d)))) ?_ ?_)
    ·cases hd:((decide (z.D=m))&&(decide (c≤z.A)))
     ·exact A6 O O
     exact AM O (DJ O fa_74_0.1 O (AM O (E4 FC X O mh O ty_3.1 O (AM O (AD O (AM O (DN O (BP O (AQ O)))))))))
    refine B7 (kp [100,14,11,0,1,2,3,4,12,13] O) (AF O E (λeu E=>?_) (λeu E=>?_))
    ·refine BZ (.inl O) X (AD O (DJ O fa_74_4.1 O (E4 Lr X O mh O ty_29.1 O ?_)));have ev:=a3.mono' (am.trans bw);obtain⟨ew,de,E⟩:=bd E;refine Kz O O O Ls O (λh' o=>Ci (St.all h') (ev.mono' (o.all X.1)) de) λey=>?_;have he:=ey;refine DK O (CM O (BL (kp [12,11,0,1,2,3,4,13] O) λhg df ez=>WF.nil (λC F t u=>?_)));have bx:=df.drop .head;have bz:=bj.trans (am.trans (bw.trans ez));exact⟨(BG (V+ew)),_,_,t.sub (kp [11,0,1,2,3,4,13,12] O),u,bx,bz,(BF _),E⟩
    refine CA (WF.nil (λC F t u=>?_));have b0:=X.drop .head;have b1:=bj.trans (am.trans bw);exact⟨V,_,_,t.sub (kp [11,0,1,2,3,4,13,12] O),u,b0,b1,c2,E⟩
   rintro C F ⟨a2,e8,e9,t,u,b2,dg,e0,E⟩;refine AI ?_ t u;clear t u F C;rw[Ch] at E;refine EF (.inl O) (AD O (DK O (Bz O (kp [13,11,0,1,2,3,4,12] O) (WF.nil (λC F t u=>?_)))));exact⟨a2,(BG (W+1)),_,_,t.sub (kp [11,0,1,2,3,4,12,13] O),u,b2,(a1.trans dg),e0,(BF _),E⟩
  refine A8 O (λC F t u=>?_);exact⟨V,_,_,t.sub (kp [11,0,1,2,3,4,12] O),u,a0,a1,c2,E⟩
 rintro C F ⟨ay,bm,fa,t,u,an,av,hh,E⟩;refine AI ?_ t u;clear t u F C;rw[By] at E;refine WF.sl (BO 4 (AD O (AD O (AD O (AD O (BQ ?_))))));have ao:=e5.trans (af.trans av);have dh:=s.mono' ao;obtain⟨ag,b3,E⟩:=bd E;refine Cn O O O Re O an (If (St.all _) (dh.mono (λb hb=>an.1 b hb) (λ_ _=>rfl)) K I G b3) λaw fb fc e1 ah di p=>?_;have b4:=p;have ac:=an.join di b4 ⟨OS.flat (λ{_ _ _ _ _ _} k=>k),trivial⟩;simp only[gZ,gQ] at ac;refine BO 1 (CM O (BQ (LF.nil (kp [16,11,0,1,2,3,4,12] O) (WF.sl (BO 4 (AD O (AD O (AD O (AD O (BQ ?_))))))))));have dj:=s.mono' (ao.trans ah);obtain⟨bn,b5,E⟩:=bd E;refine Cn O O O Re O ac (If (St.all _) (dj.mono (λb hb=>ac.1 b hb) (λ_ _=>rfl)) K I M b5) λfd fe ff e2 ax dk p=>?_;have b6:=p;have ad:=ac.join dk b6 ⟨OS.flat (λ{_ _ _ _ _ _} k=>k),trivial⟩;simp only[gZ,gQ] at ad;refine BO 1 (CM O (BQ (LF.nil (kp [17,16,11,0,1,2,3,4,12] O) (WF.sl (BO 4 (AD O (AD O (AD O (AD O (BQ ?_))))))))));have b7:=ao.trans (ah.trans ax);have dl:=s.mono' b7;obtain⟨dm,b8,E⟩:=bd E;refine Cn O O O Re O ad (If (St.all _) (dl.mono (λb hb=>ad.1 b hb) (λ_ _=>rfl)) K M G b8) λfg fh fi e3 a5 dn p=>?_;have b9:=p;have ap:=ad.join dn b9 ⟨OS.flat (λ{_ _ _ _ _ _} k=>k),trivial⟩;simp only[gZ,gQ] at ap;refine BO 1 (CM O (BQ (LF.nil (kp [18,17,16,11,0,1,2,4,12] O) (BI (BZ (.inl O) ap (AD O ?_))))));obtain⟨ab,ca,E⟩:=bd E;refine Kz O O O dI O (λh' o=>RC (St.all h') ((ap.oslAll (mt (mt mh))).mono (λb hb=>gJ hb o.siz) (λb hb=>o.same b hb)) ca) λdp=>?_;have fj:=dp;refine AD O (FD O (FD O (CM O (CM O (BL (kp [20,19,18,17,16,11,0,1,2,4,12] O) λbo aq a6=>BI (BI (EZ (λa w=>∃(a7:Bool),IV B bm bo (190,[]) a w [(16,aw),(11,.bool Z),(0,j),(1,vI m),(2,vI c),(4,vI d),(150,.bool a7)] (OS AB 3 aw ag::L) λ_ _=>C2 N i m c d Z ag a7=some true) ?_ ?_)))))))
 ·refine B5 (BO 7 (AD O (Kk aq (mt (mt mh)) O sl_29.1 O λfk=>AD O (AD O (Kq O (Hs O (AD O (BQ ?_))))))));cases bp:(decide ((↑ag.length:Int)≠(BG (d-c))))
  ·have E:=Em bp E;refine BO 1 (AM O (AD O (BQ (TD O O O (Tn (r:=AB) GC O O aq λfm fn a8 dq=>BO 1 (AM O (AD O (BQ (TD O O O ?_)))))))));obtain⟨cb,E⟩:=LA E;refine IJ (r:=AB) (l:=([]:List Int)) (xs:=bn) O O GC O (St.src a8 (mt (mt mh))) O cb O a8 (λ_=> .head) λfo fp a9 dr=>BO 1 (AM O (AD O (BQ (TD O O O ?_))));obtain⟨cc,E⟩:=LA E;refine IJ (r:=AB) (l:=(([]:List Int)++bn)) (xs:=dm) O O GC O (St.src a9 (mt mh)) O cc O a9 (λ_=> .head) λfq fr ar ds=>TD O O O ?_;obtain⟨ai,cd,E⟩:=bd E;refine Cn O O O dL O ar (Na (St.all _) (ar.oslAll (mt (mt (mt mh)))) (ar.oslAll mh) cd) λfs ft fu ce dt fv p=>?_;obtain⟨rfl,e4⟩:=p;refine BO 1 (AM O (HI O (BQ (BO 2 (BP O (AD O (BQ (BO 3 (AS 3 145 (.bool ((!ai)||(!ab.2))) ?_ ?_)))))))))
   ·cases fw:(!ai)
    ·exact AM O (AD O (AM O (HI O (BP O (AQ O)))))
    exact A6 O O
   refine BQ (BO 1 (AD O (BQ (BO 4 (AS 4 150 (.bool (((!ai)||(!ab.2))||(decide (ab.1≠ay)))) ?_ ?_)))))
   ·cases fx:((!ai)||(!ab.2))
    ·exact AM O (AD O (AM O (AD O (AM O (Hs O (BP O (AQ O)))))))
    exact A6 O O
   refine BQ (LF.nil (kp [150,16,11,0,1,2,4] O) (WF.nil (λC F t u=>?_)));have cf:=ce.sel [3] 3 O;have cg:=dq.trans (dr.trans (ds.trans dt));exact⟨(((!ai)||(!ab.2))||(decide (ab.1≠ay))),_,_,t.sub (kp [16,11,0,1,2,4,150] O),u,cf,cg,E⟩
  have E:=El bp E;refine BO 1 (KX O O O O O (BQ (BO 1 (KX O O O O O (BQ (BO 1 (KX O O O O O (BQ (BO 1 (KX O O O O O (BQ (BO 1 (KX O O O O O (BQ (BO 1 (KX O O O O O (BQ (BO 1 (KX O O O O O (BQ (BO 1 (KX O O O O O (BQ (BO 2 (BP O (AD O (BQ (BO 1 (KX O O O O O ?_)))))))))))))))))))))))))))));refine BQ (BO 1 (KX O O O O O (BQ (BO 2 (BP O (AD O (BQ (BO 1 (KX O O O O O (BQ (BO 1 (KX O O O O O (BQ (BO 1 (KX O O O O O (BQ (BO 1 (BP O (BQ (LF.nil (kp [150,16,11,0,1,2,4] O) (WF.nil (λC F t u=>?_))))))))))))))))))))));have ch:=aq.sel [2] 2 O;exact⟨true,_,_,t.sub (kp [16,11,0,1,2,4,150] O),u,ch,(B6.refl bm bo),E⟩
 rintro C F ⟨a7,ba,bb,t,u,ci,bc,E⟩;refine AI ?_ t u;clear t u F C;rw[C2] at E;refine Qi O (λbe=>?_) (λbe=>?_)
 ·cases El be E
 have E:=Em be E;refine CA (BI (BV (Bz O (kp [21,16,11,0,1,2,4] O) (AK (λa w=>IV B ba bb (190,[]) a w [(11,.bool Z),(0,j),(1,vI m),(2,vI c),(4,vI d)] (L) λ_ _=>Cg N i m c d Z=some true) ?_ ?_))))
 ·refine AY (λn7=>λa w=>∃(aj:Int),IV B ba bb (190,[]) a w [(16,aw),(11,.bool Z),(0,j),(1,vI m),(2,vI c),(4,vI d),(21,vI aj)] (OS AB 3 aw ag::L) λ_ _=>AA aj∧CW N i m c ag (Cg N i m c d Z) n7 aj=some true) N ?_ ?_ ?_
  ·intro C F t u;exact⟨0,_,_,t.sub (kp [16,11,0,1,2,4,21] O),u,ci,(B6.refl ba bb),(iq (n:=0) O),E⟩
  ·rintro C F ⟨_,_,_,_,_,_,_,_,E⟩;rw[CW] at E;cases E
  rintro n7 C F ⟨aj,fy,fz,t,u,Y,bf,f0,E⟩;refine AI ?_ t u;clear t u F C;rw[CW] at E;refine BI (BV (AD O (AD O (Kk Y mh O sl_29.1 O λf1=>DN O (B7 (kp [154,16,11,0,1,2,4,21] O) (AF O E (λdu E=>?_) (λdu E=>?_)))))))
  ·refine CA (BI (AZ (WF.sl (BO 9 (AD O (AD O (AD O (AD O (DK O (AD O (AD O (DK O (DK O (BQ ?_))))))))))))));have cj:=e5.trans (af.trans (av.trans (ah.trans (ax.trans (a5.trans (a6.trans (bc.trans bf)))))));have dv:=s.mono' cj;obtain⟨dw,ck,E⟩:=bd E;refine Cn O O O Re O Y (If (St.all _) (dv.mono (λb hb=>Y.1 b hb) (λ_ _=>rfl)) K (BF _) (BF _) ck) λf2 f3 f4 e6 dx dy p=>?_;have cl:=p;have J:=Y.join dy cl ⟨OS.flat (λ{_ _ _ _ _ _} k=>k),trivial⟩;simp only[gZ,gQ] at J;refine BO 1 (CM O (BQ (LF.nil (kp [22,16,11,0,1,2,4,21] O) (BI (EF (.inr ⟨mo,by kernel_rfl⟩) (AD O (Kk J mh O sl_29.1 O λf5=>Hs O (AD O ?_))))))));obtain⟨dz,y,E⟩:=bd E;refine AS 9 179 (.bool dz) ?_ ?_
   ·cases bq:(decide ((↑dw.length:Int)≠1))
    ·have y:=Em bq y;refine AM O (AD O (AM O ?_));obtain⟨f6,cm,y⟩:=bd y;refine BT J mh O O sl_29.1 cm O λf7 cn=>AM O ?_;obtain⟨f8,co,y⟩:=bd y;have d0:=J.epAt mh co Co.id cn;refine C8 FC (λ_ x=>x) O d0 ty_3.1 O λf9=>AM O (AD O (AM O (AD O (AM O ?_))));obtain⟨ga,cp,y⟩:=bd y;refine BT J (mt mh) O O sl_29.1 cp O λgb cq=>AM O ?_;obtain⟨gc,cr,y⟩:=bd y;have d1:=J.epAt (mt mh) cr Co.id cq;refine C8 FC (λ_ x=>x) O d1 ty_3.1 O λgd=>AM O (Hs O (BP O ?_));cases y;exact AQ O
    have y:=El bq y;cases y;exact A6 O O
   refine B7 (kp [179,16,11,0,1,2,4,21] O) (Qi O (λbg=>?_) (λbg=>?_))
   ·cases El bg E
   have E:=Em bg E;refine CA (BD (EF (.inl O) (AD O (DK O (Bz O (kp [21,16,11,0,1,2,4] O) (WF.nil (λC F t u=>?_)))))));have ct:=J.sel [1] 1 O;exact⟨(BG (aj+1)),_,_,t.sub (kp [16,11,0,1,2,4,21] O),u,ct,(bf.trans dx),(BF _),E⟩
  refine A8 O (λC F t u=>?_);have cu:=Y.drop .head;exact⟨_,_,t.sub (kp [11,0,1,2,4] O),u,cu,bf,E⟩
 rintro C F ⟨br,bs,t,u,ae,bt,E⟩;refine AI ?_ t u;clear t u F C;rw[Cg] at E;refine BI ?_;obtain⟨d2,H,E⟩:=bd E;refine EZ (λa w=>IV B br bs (190,[]) a w [(10,.bool d2)] (L) λ_ _=>True) ?_ ?_
 ·rcases Wn Z with ak|ak
  ·have H:=Em ak H;have d3:=gC H;subst d3;refine B5 (BO 1 (AD O (BQ (YH ak (BO 1 (AD O (BQ (BO 1 (Mr O (BQ (BO 1 (Mr O (BQ (BO 1 (Mr O (BQ (BO 1 (Mr O (BQ (BO 1 (Mr O (BQ (BO 1 (Mr O (BQ (BO 1 (Mr O (BQ (BO 1 ?_)))))))))))))))))))))))))))));exact BP O (BQ (BO 1 (CM O (BQ (LF.nil (kp [10] O) (WF.nil (λC F t u=>⟨_,_,t.sub (kp [10] O),u,ae,(B6.refl br bs),trivial⟩)))))))
  have H:=El ak H;obtain⟨ge,cv,H⟩:=bd H;have d4:=gC H;subst d4;refine B5 (BO 1 (AD O (BQ (YH ak (BO 1 (AD O (BQ (BO 1 (AM O (AD O (BQ (BO 1 (AM O (AD O (BQ (BO 1 (AM O (AD O (BQ (BO 1 (AM O (AD O (BQ (TD O O O ?_))))))))))))))))))))))));have cw:=e5.trans (af.trans (av.trans (ah.trans (ax.trans (a5.trans (a6.trans (bc.trans bt)))))));have d5:=s.mono' cw;refine Cn O O O Re O ae (If (St.all _) (d5.mono (λb hb=>ae.1 b hb) (λ_ _=>rfl)) K G I cv) λgf gg gh e7 d6 d7 p=>?_;have cx:=p;have au:=ae.join d7 cx ⟨OS.flat (λ{_ _ _ _ _ _} k=>k),trivial⟩;simp only[gZ,gQ] at au;refine BO 1 (AM O (Kk au mh O sl_29.1 O λgi=>BQ (BO 1 (AM O (II O (BQ (BO 1 (BP O (BQ (BO 1 (CM O (BQ (LF.nil (kp [10] O) ?_)))))))))))));have cy:=au.drop .head;exact WF.nil (λC F t u=>⟨_,_,t.sub (kp [10] O),u,cy,d6,trivial⟩)
 rintro C F ⟨gj,gk,t,u,cz,d8,_⟩;refine AI ?_ t u;clear t u F C;refine BS (λC F t u=>?_);cases E;have c0:=e5.trans (af.trans (av.trans (ah.trans (ax.trans (a5.trans (a6.trans (bc.trans (bt.trans d8))))))));exact Oo t u O O c0 ⟨O,cz⟩
end Go.Proofs.YtedgiljmffngoaaGreat
