import Derived.Test.YtedgiljmffngoaaGreatGInst
import Derived.Test.YtedgiljmffngoaaGreatGForms
import Derived.Test.YtedgiljmffngoaaGreatGWalk1
import Derived.Test.YtedgiljmffngoaaGreatGWalk3
import Derived.Test.YtedgiljmffngoaaGreatGWalk11
import Derived.Test.YtedgiljmffngoaaGreatGWalk18
import Derived.Test.YtedgiljmffngoaaGreatGWalk17
namespace Go.Proofs.YtedgiljmffngoaaGreat
set_option linter.all false
open Go.RowKit
open Go.Proofs.Tryz
set_option maxRecDepth 10000
set_option maxHeartbeats 20000000
variable {N:Nat}{S:Nat→Prop}{L:List HP}{h:AW}
def Ob (C:St S L h) {b:Value}{g:(List Int)}(d:Sl S h AB b g) {c:Value}{i:(List Int)}(m:Sl S h AB c i) {r:Bool}(E:Hy N g i=some r):
 B0 prog 33 #[b,c] S h (λv S' h'=>v= .bool r∧St S' (L) h'):=by
 refine BA 26 func33 O ntmps33 O λB=>?_;rw[Hy] at E;refine AU ?_;refine AH O E (λD E=>?_) (λD E=>?_)
 ·exact RT
 refine AU ?_;refine AO (λa w=>IV B S h (26,[]) a w [] (L) λ_ _=>Ff N=some r) ?_ ?_
 ·refine A4 (λz=>λa w=>∃(s:Int),IV B S h (26,[]) a w [(0,b),(1,c),(5,vI s)] (L) λ_ _=>AA s∧Dp N g i (Ff N) z s=some r) N ?_ ?_ ?_
  ·intro p q j k;exact⟨0,_,_,j.sub (kp [0,1,5] O),k,C,(CB.refl S h),(iq (n:=0) O),E⟩
  ·rintro p q ⟨_,_,_,_,_,_,_,_,E⟩;rw[Dp] at E;cases E
  rintro z p q ⟨s,W,X,j,k,o,l,Y,E⟩;refine AJ ?_ j k;clear j k q p;rw[Dp] at E;have F:=d.mono' l;refine AU ?_;refine AH O E (λt E=>?_) (λt E=>?_)
  ·refine AU ?_;refine A5 (AU ?_);refine Iy (.inr ⟨mo,by kernel_rfl⟩) (AU ?_);have u:=d.mono' l;refine AZ E O O u sl_29.1 O λG E H I=>AU ?_;have x:=m.mono' l;refine AZ E O O x sl_29.1 O λJ E K M=>AU ?_;refine AH O E (λy E=>?_) (λy E=>?_)
   ·exact RT
   refine AU ?_;refine BE (AU ?_);refine WF.nil (λp q j k=>?_);exact⟨(BD (s+1)),_,_,j.sub (kp [0,1,5] O),k,o,l,(BI _),E⟩
  refine BC O (λp q j k=>?_);exact⟨_,_,j.sub NA,k,o,l,E⟩
 rintro p q ⟨Q,U,j,k,A,V,E⟩;refine AJ ?_ j k;clear j k q p;rw[Ff] at E;exact RT
def N6 (hs:St S L h) {i:Value}{j:AF}(u:Rd S h BO i j) {k:Value}{l:AE}(x:Rd S h AM k l) {c:Value}{g:(List Ch)}(d:Sl S h CN c g) {r:Bool}(E:HX N j l g=some r):
 B0 prog 25 #[i,k,c] S h (λv S' h'=>v= .bool r∧St S' (L) h'):=by
 refine BA 80 func25 O ntmps25 O λB=>?_;rw[HX] at E;refine AU ?_;refine By O u CE O hs λq1 S2 h3 ac e5 k6=>?_;have k7:=x.mono e5;refine By O k7 CE O ac λq8 S9 F K ad ae=>?_;have af:=k6.mono ad;have a3:=d.nw;refine AU ?_;refine AH O E (λag E=>?_) (λag E=>?_)
 ·exact RT
 refine AU ?_;refine AO (λa w=>IV B S9 F (80,[]) a w [(4,q8),(3,q1)] (L) λ_ _=>C0 N j l=some r) ?_ ?_
 ·refine A4 (λn1=>λa w=>∃(p:Int),IV B S9 F (80,[]) a w [(4,q8),(3,q1),(2,c),(7,vI p)] (L) λ_ _=>AA p∧Cz N g (C0 N j l) n1 p=some r) N ?_ ?_ ?_
  ·intro G H q s;exact⟨0,_,_,q.sub (kp [4,3,2,7] O),s,K,(CB.refl S9 F),(iq (n:=0) O),E⟩
  ·rintro G H ⟨_,_,_,_,_,_,_,_,E⟩;rw[Cz] at E;cases E
  rintro n1 G H ⟨p,a4,a5,q,s,y,ah,a6,E⟩;refine AJ ?_ q s;clear q s H G;rw[Cz] at E;have a7:=d.nw;refine AU ?_;refine AH O E (λai E=>?_) (λai E=>?_)
  ·refine AU ?_;refine A5 (AU ?_);have aj:=d.nw;refine AZ E O O aj sl_78.1 O λa8 E a9 ak=>?_;obtain⟨ba,_,am⟩:=ak.lv;refine AU ?_;refine CO YZ O y λbb bc M an=>?_;have ao:=am.mono an;obtain⟨be,bf,bg,bh,bi,rfl,ap,aq,ar,au,av⟩:=CN.ex ao;refine Dk O O O ON ty_60.1 O M .head O λbj Q t=>?_;have bk:=ap.mono' t;have bl:=aq.mono' t;have bm:=ar.mono' t;have bn:=au.mono' t;have bo:=av.mono' t;refine AU ?_;refine AH O E (λaw E=>?_) (λaw E=>?_)
   ·exact RT
   refine AU ?_;refine BE (AU ?_);refine WF.nil (λG H q s=>?_);have U:=Q.drop .head;exact⟨(BD (p+1)),_,_,q.sub (kp [4,3,2,7] O),s,U,EX,(BI _),E⟩
  refine BC O (λG H q s=>?_);exact⟨_,_,q.sub (kp [4,3] O),s,y,ah,E⟩
 rintro G H ⟨bp,bq,q,s,m,z,E⟩;refine AJ ?_ q s;clear q s H G;rw[C0] at E;refine AU ?_;refine BX (.inl O) m ?_;have A:=af.mono z;obtain⟨ay,_,V⟩:=A.lv;refine AU ?_;refine A8 E O O O fW O (λC I h' o=>Nu (St.all h') (V.mono (o.all m.1)) I) λC E=>AU ?_;obtain⟨W,b,E⟩:=bd E;refine AY 4 79 (.bool W) ?_ ?_
 ·cases D:C
  ·have b:=GW D b;cases b;exact BF O O
  have b:=GV D b;obtain⟨az,_,X⟩:=A.lv;have Y:=ae.mono z;obtain⟨a0,_,Z⟩:=Y.lv;refine AU ?_;refine A8 b O O O Zy O (λab J h' o=>ME (St.all h') (X.mono (o.all m.1)) (Z.mono (o.all m.1)) J) λab b=>AU ?_;cases b;exact A0 O
 refine AU ?_;exact BK (kp [6] O) λa1 ax a2=>RT
def Mg (hs:St S L h) {k:Value}{p:(List AK)}(b:Sl S h BB k p) {l:Value}{q:(List AK)}(j:Sl S h BB l q) {r:Bool}(E:GO N p q=some r):
 B0 prog 31 #[k,l] S h (λv S' h'=>v= .bool r∧St S' (L) h'):=by
 refine BA 83 func31 O ntmps31 O λB=>?_;rw[GO] at E;refine AU ?_;refine AH O E (λc3 E=>?_) (λc3 E=>?_)
 ·exact RT
 refine AU ?_;refine AO (λa w=>IV B S h (83,[]) a w [] (L) λ_ _=>D2 N=some r) ?_ ?_
 ·refine A4 (λn1=>λa w=>∃(z:Int),IV B S h (83,[]) a w [(0,k),(1,l),(5,vI z)] (L) λ_ _=>AA z∧Cn N p q (D2 N) n1 z=some r) N ?_ ?_ ?_
  ·intro x y s t;exact⟨0,_,_,s.sub (kp [0,1,5] O),t,hs,(CB.refl S h),(iq (n:=0) O),E⟩
  ·rintro x y ⟨_,_,_,_,_,_,_,_,E⟩;rw[Cn] at E;cases E
  rintro n1 x y ⟨z,S8,h9,s,t,m,u,r7,E⟩;refine AJ ?_ s t;clear s t y x;rw[Cn] at E;have ar:=b.mono' u;refine AU ?_;refine AH O E (λU E=>?_) (λU E=>?_)
  ·refine AU ?_;refine A5 (AU ?_);refine BX (.inr ⟨mo,by kernel_rfl⟩) m (AU ?_);have V:=b.mono' u;refine AZ E O O V sl_70.1 O λau E av W=>?_;have X:=W.fl AK.f_Part;obtain⟨aw,_,Y⟩:=X.ll;refine AU ?_;have Z:=j.mono' u;refine AZ E O O Z sl_70.1 O λax E ay ab=>?_;have ac:=ab.fl AK.f_Part;obtain⟨az,_,ad⟩:=ac.ll;refine AU ?_;refine A8 E O O O Qq O (λA C h' o=>Ec (St.all h') (Y.mono' (o.all m.1)) (ad.mono' (o.all m.1)) C) λA E=>AU ?_;refine BK (kp [6,0,1,5] O) λa0 D a1=>AU ?_;refine Iy (.inr ⟨mo,by kernel_rfl⟩) (AU ?_);obtain⟨F,c,E⟩:=bd E;refine AY 12 43 (.bool F) ?_ ?_
   ·cases G:(!A)
    ·have c:=GW G c;refine AU ?_;have ae:=b.nw;refine AZ c O O ae sl_70.1 O λa2 c a3 a4=>AU ?_;have af:=j.nw;refine AZ c O O af sl_70.1 O λa5 c a6 a7=>AU ?_;cases c;exact A0 O
    have c:=GV G c;cases c;exact BF O O
   refine AU ?_;obtain⟨H,d,E⟩:=bd E;refine AY 12 56 (.bool H) ?_ ?_
   ·cases I:F
    ·have d:=GW I d;refine AU ?_;have ag:=b.nw;refine AZ d O O ag sl_70.1 O λa8 d a9 ba=>AU ?_;have ah:=j.nw;refine AZ d O O ah sl_70.1 O λbb d bc be=>AU ?_;cases d;exact A0 O
    have d:=GV I d;cases d;exact BF O O
   refine AU ?_;obtain⟨J,g,E⟩:=bd E;refine AY 12 69 (.bool J) ?_ ?_
   ·cases K:H
    ·have g:=GW K g;refine AU ?_;have ai:=b.nw;refine AZ g O O ai sl_70.1 O λbf g bg bh=>AU ?_;have aj:=j.nw;refine AZ g O O aj sl_70.1 O λbi g bj bk=>AU ?_;cases g;exact A0 O
    have g:=GV K g;cases g;exact BF O O
   refine AU ?_;obtain⟨ak,i,E⟩:=bd E;refine AY 12 82 (.bool ak) ?_ ?_
   ·cases M:J
    ·have i:=GW M i;refine AU ?_;have al:=b.nw;refine AZ i O O al sl_70.1 O λbl i bm bn=>AU ?_;have am:=j.nw;refine AZ i O O am sl_70.1 O λbo i bp bq=>AU ?_;cases i;exact A0 O
    have i:=GV M i;cases i;exact BF O O
   refine AU ?_;refine AH O E (λQ E=>?_) (λQ E=>?_)
   ·exact RT
   refine AU ?_;refine BE (AU ?_);refine WF.nil (λx y s t=>?_);exact⟨(BD (z+1)),_,_,s.sub (kp [0,1,5] O),t,D,EX,(BI _),E⟩
  refine BC O (λx y s t=>?_);exact⟨_,_,s.sub NA,t,m,u,E⟩
 rintro x y ⟨ao,ap,s,t,an,aq,E⟩;refine AJ ?_ s t;clear s t y x;rw[D2] at E;exact RT
def Mk (hs:St S L h) {bx:Value}{af:AF}(dx:Rd S h BO bx af) {bz:Value}{ap:AE}(dy:Rd S h AM bz ap) {K:Value}{d:(List Ch)}(k:Sl S h CN K d) {ad:Int}(a0:AA ad) (ri:Ee N=some true) (E:GS N af ap d ad=some true):
 B0 prog 6 #[bx,bz,K,vI ad] S h (λv S' h'=>v= .bool true∧St S' (L) h'):=by
 refine BA 200 func6 O ntmps6 O λB=>?_;rw[GS] at E;refine AU ?_;refine By O dx CE O hs λq1 S2 h3 rj e5 k6=>?_;have k7:=dy.mono e5;refine By O k7 CE O rj λq8 S9 xk k5 xl rk=>AU ?_;refine BX (.inl O) k5 ?_;refine A8 E O O O pW O (λav k8 h' o=>Oc (St.all h') ri k8) λav E=>AU ?_;refine BK (kp [9,5,4,2,3] O) λxm b0 rm=>AU ?_;refine BX (.inl O) b0 ?_;have k9:=k6.nw;obtain⟨xn,_,rn⟩:=k9.lv;have la:=rk.mono rm;obtain⟨xo,_,ro⟩:=la.lv;refine AU ?_;have rp:=k.nw;refine A8 E O O O pV O (λrq lb h' o=>N6 (St.all h') (rn.mono (o.all b0.1)) (ro.mono (o.all b0.1)) (rp.mono' (o.all b0.1)) lb) λrq E=>?_;have xp:=k.nw;refine AU ?_;refine BK (kp [37,9,5,4,2,3] O) λxq lc lf=>AH O E (λrr E=>?_) (λrr E=>?_)
 ·exact RT
 refine AU ?_;refine Bw ?_;have ba:=k9.mono lf;obtain⟨xr,_,rs⟩:=ba.lv;have ca:=la.mono lf;obtain⟨xt,_,rt⟩:=ca.lv;refine AU ?_;have ru:=k.nw;refine BQ E O O O W4 O (λa7 lg=>KZ lc rs rt ru lg) λa7 E xu D H xv p=>?_;obtain⟨ax,e7,cb,rfl,aq⟩:=p;refine AU ?_;obtain⟨lh,li,E⟩:=bd E;obtain⟨ay,lj,E⟩:=bd E;refine O4 (m:=[(12,cb),(11,e7),(10,ax),(9,.bool av),(5,q8),(4,q1),(2,K),(3,vI ad)]) [7] [] [6] (λX i v g=>match i with|0=>Rd D g BO v af|1=>Rd D g AM v ap|2=>Sl D g CN v d|3=>v=vI ad∧AA ad|4=>Sl D g CN v lh|5=>Rd (SX D H g X) g AM v ay|6=>Xj H 36 [vI 0,vN,vN,vN,vN,vN,vN] v g|_=>False) [[],[],[],[],[(2,49),(3,50)],[(0,47),(1,48),(4,51)],[],[]] [(5,52),(6,13)] mo (by kernel_rfl) [12,11,10,9,5,4,2,3] O (by kernel_rfl) (by kernel_rfl) (by kernel_rfl) O (kp [12,11,10,9,5,4,2,3] O) (λi v h1 h2 X X' o1 o2 u1 u2 M=>?_) (by kernel_rfl) (SQ (T:=36) (λ_=>rfl) O3) ?_ ?_ ?_
 ·match i,M with
   |0,M|1,M=>exact(Rd.mono M (o2.ext λb Y=>tZ (aq.1 b Y) o1.siz))
   |2,M|4,M=>exact(Sl.mono' M (o2.ext λb Y=>tZ (aq.1 b Y) o1.siz))
   |3,M=>exact M
   |5,M=>exact(Rd.mono M (SX.mono aq.1 o1 o2 u1 u2))
   |6,M=>exact M.mono o2
   |_+7,M=>exact M.elim
 ·exact trivial
 ·refine CM.cons O O O ?_ ?_
  ·intro X U g o hX;have c:=o.st aq;have rv:=ba.nw;obtain⟨xw,_,rx⟩:=rv.lv;refine AU ?_;exact AS rx
  refine CM.cons O O O ?_ ?_
  ·intro X U g o hX;have c:=o.st aq;have ry:=ca.nw;obtain⟨xx,_,rz⟩:=ry.lv;refine AU ?_;exact AS rz
  refine CM.cons O O O ?_ ?_
  ·intro X U g o hX;have c:=o.st aq;refine AU ?_;have r0:=k.nw;exact AS r0
  refine CM.cons O O O ?_ ?_
  ·intro X U g o hX;have c:=o.st aq;refine AU ?_;exact AS ⟨O,a0⟩
  refine CM.cons O O O ?_ ?_
  ·intro X U g o hX;intro r1 e8 xy r2;have c:=o.st aq;have e8:Sl _ _ CN r1 d:=e8;obtain⟨rfl,xz⟩:=r2;refine Ku 1 (XQ O O e8 sl_78.1 li O λx0 r3=>AU ?_);exact AS r3
  refine CM.cons O O O ?_ ?_
  ·intro X U g o hX;intro r4 cc r5 cd r6 ce;have c:=Gd (X:=X) aq o;have cc:=Rd.mono (S':=(SX D H g X)) cc ⟨λb Y=>(SX.ext aq.1 o hX).sub b Y,λ_ _=>rfl,tX _⟩;have cc:Rd _ _ BO r4 af:=cc;have cd:=Rd.mono (S':=(SX D H g X)) cd ⟨λb Y=>(SX.ext aq.1 o hX).sub b Y,λ_ _=>rfl,tX _⟩;have cd:Rd _ _ AM r5 ap:=cd;have ce:=Sl.mono' (S':=(SX D H g X)) ce ⟨λb Y=>(SX.ext aq.1 o hX).sub b Y,λ_ _=>rfl,tX _⟩;have ce:Sl _ _ CN r6 lh:=ce;have a1:=c.fz;refine Dh O O O VP O (KY a1 cc cd ce lj) λx1 x2 x3 ll p=>?_;obtain⟨lm,e9⟩:=p;have cf:=SX.done o hX ll e9;exact A9 cf.1 (Rd.mono lm cf.2)
  exact CM.al (λ_=>rfl) L8 O (CM.skip (by kernel_rfl) (trivial))
 intro u y ln fa lo cg tl lp r7 fb;obtain⟨az,rfl,lq,lr,ls⟩:=lp;have fc:=(VX.cons (VX.nil aq ln fa) lq lr ls uL (fb.at_ (s:=13) (by kernel_rfl) O O)).st;have cg:Rd _ _ AM lo ay:=cg;obtain⟨bb,bc,be,bf,bg,bh,rfl,d3,d4,d5,d6,d7,d8,d9⟩:=AM.ex cg;refine Dk O O O ON ty_36.1 O fc .head O λC F tm=>AU ?_;obtain⟨eb,fd,E⟩:=bd E;obtain⟨t,fe,E⟩:=bd E;refine O4 (m:=[(13,vP az 0),(12,cb),(11,e7),(10,ax),(9,.bool av),(5,q8),(4,q1),(2,K),(3,vI ad)]) [] [] [] (λX i v g=>match i with|0=>Rd (SX D H u y) g BO v af|1=>Rd (SX D H u y) g AM v ap|2=>Sl (SX D H u y) g CN v d|3=>v=vI ad∧AA ad|4=>Sl (SX D H u y) g CN v eb|5=>∃w0 w1 w2:Value,v= .tuple #[w0,w1,w2]∧(Sl (SX (SX D H u y) C g X) g AM w0 t.1)∧(Sl (SX (SX D H u y) C g X) g BB w1 t.2.1)∧(Sl (SX (SX D H u y) C g X) g (A7.sl AB) w2 t.2.2)|6=>∃w0 w1 w2:Value,v= .tuple #[w0,w1,w2]∧(Sl (SX (SX D H u y) C g X) g AM w0 t.1)∧(Sl (SX (SX D H u y) C g X) g BB w1 t.2.1)∧(Sl (SX (SX D H u y) C g X) g (A7.sl AB) w2 t.2.2)|7=>Sl (SX (SX D H u y) C g X) g AM v t.1|8=>Sl (SX (SX D H u y) C g X) g BB v t.2.1|9=>Sl (SX (SX D H u y) C g X) g (A7.sl AB) v t.2.2|10=>Sl (SX (SX D H u y) C g X) g AM v t.1|11=>Sl (SX (SX D H u y) C g X) g BB v t.2.1|12=>Sl (SX (SX D H u y) C g X) g (A7.sl AB) v t.2.2|_=>False) [[],[],[],[],[(2,56),(3,57)],[(0,54),(1,55),(4,58)],[(5,59)],[(6,53)],[(6,53)],[(6,53)],[(7,60)],[(8,61)],[(9,62)]] [(10,14),(11,15),(12,16)] mo (by kernel_rfl) [13,12,11,10,9,5,4,2,3] O (by kernel_rfl) (by kernel_rfl) (by kernel_rfl) O (kp [13,12,11,10,9,5,4,2,3] O) (λi v h1 h2 X X' o1 o2 u1 u2 M=>?_) (by kernel_rfl) O3 ?_ ?_ ?_
 ·match i,M with
   |0,M|1,M=>exact(Rd.mono M (o2.ext λb Y=>tZ (F.1 b Y) o1.siz))
   |2,M|4,M=>exact(Sl.mono' M (o2.ext λb Y=>tZ (F.1 b Y) o1.siz))
   |3,M=>exact M
   |5,M|6,M=>obtain⟨w0,w1,w2,e,k0,k1,k2⟩:=M;exact⟨w0,w1,w2,e,(Sl.mono' k0 (SX.mono F.1 o1 o2 u1 u2)),(Sl.mono' k1 (SX.mono F.1 o1 o2 u1 u2)),(Sl.mono' k2 (SX.mono F.1 o1 o2 u1 u2))⟩
   |7,M|8,M|9,M|10,M|11,M|12,M=>exact(Sl.mono' M (SX.mono F.1 o1 o2 u1 u2))
   |_+13,M=>exact M.elim
 ·exact trivial
 ·refine CM.cons O O O ?_ ?_
  ·intro X U g o hX;have c:=o.st F;have lt:=ba.nw;obtain⟨tn,_,lu⟩:=lt.lv;refine AU ?_;exact AS lu
  refine CM.cons O O O ?_ ?_
  ·intro X U g o hX;have c:=o.st F;have lw:=ca.nw;obtain⟨tp,_,lx⟩:=lw.lv;refine AU ?_;exact AS lx
  refine CM.cons O O O ?_ ?_
  ·intro X U g o hX;have c:=o.st F;refine AU ?_;have ly:=k.nw;exact AS ly
  refine CM.cons O O O ?_ ?_
  ·intro X U g o hX;have c:=o.st F;refine AU ?_;exact AS ⟨O,a0⟩
  refine CM.cons O O O ?_ ?_
  ·intro X U g o hX;intro lz ch tq l0;have c:=o.st F;have ch:Sl _ _ CN lz d:=ch;obtain⟨rfl,tr⟩:=l0;refine Ku 1 (XQ O O ch sl_78.1 fd O λts l1=>AU ?_);exact AS l1
  refine CM.cons O O O ?_ ?_
  ·intro X U g o hX;intro l2 bi l3 bj l4 bk;have c:=Gd (X:=X) F o;have bi:=Rd.mono (S':=(SX (SX D H u y) C g X)) bi ⟨λb Y=>(SX.ext F.1 o hX).sub b Y,λ_ _=>rfl,tX _⟩;have bi:Rd _ _ BO l2 af:=bi;have bj:=Rd.mono (S':=(SX (SX D H u y) C g X)) bj ⟨λb Y=>(SX.ext F.1 o hX).sub b Y,λ_ _=>rfl,tX _⟩;have bj:Rd _ _ AM l3 ap:=bj;have bk:=Sl.mono' (S':=(SX (SX D H u y) C g X)) bk ⟨λb Y=>(SX.ext F.1 o hX).sub b Y,λ_ _=>rfl,tX _⟩;have bk:Sl _ _ CN l4 eb:=bk;have a1:=c.fz;refine Dh O O O W4 O (KZ a1 bi bj bk fe) λtt tu tv tw p=>?_;obtain⟨tx,ty,tz,rfl,ff⟩:=p;obtain⟨t0,fg,t1,l5⟩:=ff.pubs .head;obtain⟨t2,fh,t3,l6⟩:=fg.pubs .head;obtain⟨t4,fi,l7,l8⟩:=fh.pubs .head;have l9:=l5.nw;have ma:=l6.mono' l7;have a8:=SX.done o hX EX fi;exact A9 a8.1 ⟨_,_,_,O,(Sl.mono' l9 a8.2),(Sl.mono' ma a8.2),(Sl.mono' l8 a8.2)⟩
  refine CM.cons O O O ?_ ?_
  ·intro X U g o hX;intro t5 mb;have c:=Gd (X:=X) F o;obtain⟨mc,md,me,rfl,ci,cj,ck⟩:=mb;have ci:Sl _ _ AM mc t.1:=ci;have cj:Sl _ _ BB md t.2.1:=cj;have ck:Sl _ _ (A7.sl AB) me t.2.2:=ck;refine AU ?_;exact AS ⟨_,_,_,O,ci,cj,ck⟩
  refine CM.cons O O O ?_ ?_
  ·intro X U g o hX;intro t6 mf;have c:=Gd (X:=X) F o;obtain⟨mg,mi,mj,rfl,cl,ec,ed⟩:=mf;have cl:Sl _ _ AM mg t.1:=cl;have ec:Sl _ _ BB mi t.2.1:=ec;have ed:Sl _ _ (A7.sl AB) mj t.2.2:=ed;refine AU ?_;exact AS cl
  refine CM.cons O O O ?_ ?_
  ·intro X U g o hX;intro t7 ml;have c:=Gd (X:=X) F o;obtain⟨mm,mn,mp,rfl,ee,cm,ef⟩:=ml;have ee:Sl _ _ AM mm t.1:=ee;have cm:Sl _ _ BB mn t.2.1:=cm;have ef:Sl _ _ (A7.sl AB) mp t.2.2:=ef;refine AU ?_;exact AS cm
  refine CM.cons O O O ?_ ?_
  ·intro X U g o hX;intro t8 mr;have c:=Gd (X:=X) F o;obtain⟨ms,mu,mv,rfl,eg,eh,cn⟩:=mr;have eg:Sl _ _ AM ms t.1:=eg;have eh:Sl _ _ BB mu t.2.1:=eh;have cn:Sl _ _ (A7.sl AB) mv t.2.2:=cn;refine AU ?_;exact AS cn
  refine CM.cons O O O ?_ ?_
  ·intro X U g o hX;intro mw co;have c:=Gd (X:=X) F o;have co:Sl _ _ AM mw t.1:=co;refine AU ?_;exact AS co
  refine CM.cons O O O ?_ ?_
  ·intro X U g o hX;intro mx cp;have c:=Gd (X:=X) F o;have cp:Sl _ _ BB mx t.2.1:=cp;refine AU ?_;exact AS cp
  refine CM.cons O O O ?_ ?_
  ·intro X U g o hX;intro my cq;have c:=Gd (X:=X) F o;have cq:Sl _ _ (A7.sl AB) my t.2.2:=cq;refine AU ?_;exact AS cq
  exact trivial
 intro A Z mz fj ei cr ej cs ek ct r8 r9;have G:=(VX.nil F mz fj).st;have cr:Sl _ _ AM ei t.1:=cr;have cs:Sl _ _ BB ej t.2.1:=cs;have ct:Sl _ _ (A7.sl AB) ek t.2.2:=ct;refine AU ?_;obtain⟨el,fk,E⟩:=bd E;obtain⟨z,fl,E⟩:=bd E;refine O4 (m:=[(16,ek),(15,ej),(14,ei),(13,vP az 0),(12,cb),(11,e7),(10,ax),(9,.bool av),(5,q8),(4,q1),(2,K),(3,vI ad)]) [] [] [] (λX i v g=>match i with|0=>Rd (SX (SX D H u y) C A Z) g BO v af|1=>v= .agg #[vI ay.B,bb,bc,be,bf,bg,bh]∧AA ay.B|2=>Sl (SX (SX D H u y) C A Z) g CN v d|3=>v=vI ad∧AA ad|4=>Sl (SX (SX D H u y) C A Z) g CN v el|5=>∃w0 w1 w2:Value,v= .tuple #[w0,w1,w2]∧(Sl (SX (SX (SX D H u y) C A Z) A g X) g AM w0 z.1)∧(Sl (SX (SX (SX D H u y) C A Z) A g X) g BB w1 z.2.1)∧(Sl (SX (SX (SX D H u y) C A Z) A g X) g (A7.sl AB) w2 z.2.2)|6=>∃w0 w1 w2:Value,v= .tuple #[w0,w1,w2]∧(Sl (SX (SX (SX D H u y) C A Z) A g X) g AM w0 z.1)∧(Sl (SX (SX (SX D H u y) C A Z) A g X) g BB w1 z.2.1)∧(Sl (SX (SX (SX D H u y) C A Z) A g X) g (A7.sl AB) w2 z.2.2)|7=>Sl (SX (SX (SX D H u y) C A Z) A g X) g AM v z.1|8=>Sl (SX (SX (SX D H u y) C A Z) A g X) g BB v z.2.1|9=>Sl (SX (SX (SX D H u y) C A Z) A g X) g (A7.sl AB) v z.2.2|10=>Sl (SX (SX (SX D H u y) C A Z) A g X) g AM v z.1|11=>Sl (SX (SX (SX D H u y) C A Z) A g X) g BB v z.2.1|12=>Sl (SX (SX (SX D H u y) C A Z) A g X) g (A7.sl AB) v z.2.2|_=>False) [[],[],[],[],[(2,66),(3,67)],[(0,64),(1,65),(4,68)],[(5,69)],[(6,63)],[(6,63)],[(6,63)],[(7,70)],[(8,71)],[(9,72)]] [(10,17),(11,18),(12,19)] mo (by kernel_rfl) [16,15,14,13,12,11,10,9,5,4,2,3] O (by kernel_rfl) (by kernel_rfl) (by kernel_rfl) O (kp [16,15,14,13,12,11,10,9,5,4,2,3] O) (λi v h1 h2 X X' o1 o2 u1 u2 M=>?_) (by kernel_rfl) O3 ?_ ?_ ?_
 ·match i,M with
   |0,M=>exact(Rd.mono M (o2.ext λb Y=>tZ (G.1 b Y) o1.siz))
   |1,M|3,M=>exact M
   |2,M|4,M=>exact(Sl.mono' M (o2.ext λb Y=>tZ (G.1 b Y) o1.siz))
   |5,M|6,M=>obtain⟨w0,w1,w2,e,k0,k1,k2⟩:=M;exact⟨w0,w1,w2,e,(Sl.mono' k0 (SX.mono G.1 o1 o2 u1 u2)),(Sl.mono' k1 (SX.mono G.1 o1 o2 u1 u2)),(Sl.mono' k2 (SX.mono G.1 o1 o2 u1 u2))⟩
   |7,M|8,M|9,M|10,M|11,M|12,M=>exact(Sl.mono' M (SX.mono G.1 o1 o2 u1 u2))
   |_+13,M=>exact M.elim
 ·exact trivial
 ·refine CM.cons O O O ?_ ?_
  ·intro X U g o hX;have c:=o.st G;have m0:=ba.nw;obtain⟨t9,_,m1⟩:=m0.lv;refine AU ?_;exact AS m1
  refine CM.cons O O O ?_ ?_
  ·intro X U g o hX;have c:=o.st G;refine AU ?_;exact AS ⟨O,d3⟩
  refine CM.cons O O O ?_ ?_
  ·intro X U g o hX;have c:=o.st G;refine AU ?_;have m2:=k.nw;exact AS m2
  refine CM.cons O O O ?_ ?_
  ·intro X U g o hX;have c:=o.st G;refine AU ?_;exact AS ⟨O,a0⟩
  refine CM.cons O O O ?_ ?_
  ·intro X U g o hX;intro m3 cu ua m4;have c:=o.st G;have cu:Sl _ _ CN m3 d:=cu;obtain⟨rfl,ub⟩:=m4;refine Ku 1 (XS O O cu sl_78.1 fk O λuc m5=>AU ?_);exact AS m5
  refine CM.cons O O O ?_ ?_
  ·intro X U g o hX;intro m6 bl ud m7 m8 bm;have c:=Gd (X:=X) G o;have bl:=Rd.mono (S':=(SX (SX (SX D H u y) C A Z) A g X)) bl ⟨λb Y=>(SX.ext G.1 o hX).sub b Y,λ_ _=>rfl,tX _⟩;have bl:Rd _ _ BO m6 af:=bl;obtain⟨rfl,m9⟩:=m7;have bm:=Sl.mono' (S':=(SX (SX (SX D H u y) C A Z) A g X)) bm ⟨λb Y=>(SX.ext G.1 o hX).sub b Y,λ_ _=>rfl,tX _⟩;have bm:Sl _ _ CN m8 el:=bm;have a1:=c.fz;have na:=d4.nw;have nb:=d5.nw;have nc:=d6.nw;have nd:=d7.nw;have ne:=d8.nw;have nf:=d9.nw;refine Dh O O O W4 O (KZ a1 bl (AM.mk (x:=ay) m9 na nb nc nd ne nf) bm fl) λue uf ug uh p=>?_;obtain⟨ui,uj,uk,rfl,fm⟩:=p;obtain⟨ul,fn,um,ng⟩:=fm.pubs .head;obtain⟨un,fo,uo,nh⟩:=fn.pubs .head;obtain⟨up,fp,ni,nj⟩:=fo.pubs .head;have nk:=ng.nw;have nl:=nh.mono' ni;have a9:=SX.done o hX EX fp;exact A9 a9.1 ⟨_,_,_,O,(Sl.mono' nk a9.2),(Sl.mono' nl a9.2),(Sl.mono' nj a9.2)⟩
  refine CM.cons O O O ?_ ?_
  ·intro X U g o hX;intro uq nm;have c:=Gd (X:=X) G o;obtain⟨nn,no,np,rfl,cv,cw,cx⟩:=nm;have cv:Sl _ _ AM nn z.1:=cv;have cw:Sl _ _ BB no z.2.1:=cw;have cx:Sl _ _ (A7.sl AB) np z.2.2:=cx;refine AU ?_;exact AS ⟨_,_,_,O,cv,cw,cx⟩
  refine CM.cons O O O ?_ ?_
  ·intro X U g o hX;intro ur nq;have c:=Gd (X:=X) G o;obtain⟨nr,ns,nt,rfl,cy,em,en⟩:=nq;have cy:Sl _ _ AM nr z.1:=cy;have em:Sl _ _ BB ns z.2.1:=em;have en:Sl _ _ (A7.sl AB) nt z.2.2:=en;refine AU ?_;exact AS cy
  refine CM.cons O O O ?_ ?_
  ·intro X U g o hX;intro us nu;have c:=Gd (X:=X) G o;obtain⟨nv,nx,ny,rfl,eo,cz,ep⟩:=nu;have eo:Sl _ _ AM nv z.1:=eo;have cz:Sl _ _ BB nx z.2.1:=cz;have ep:Sl _ _ (A7.sl AB) ny z.2.2:=ep;refine AU ?_;exact AS cz
  refine CM.cons O O O ?_ ?_
  ·intro X U g o hX;intro ut nz;have c:=Gd (X:=X) G o;obtain⟨n0,n2,n3,rfl,eq,er,c0⟩:=nz;have eq:Sl _ _ AM n0 z.1:=eq;have er:Sl _ _ BB n2 z.2.1:=er;have c0:Sl _ _ (A7.sl AB) n3 z.2.2:=c0;refine AU ?_;exact AS c0
  refine CM.cons O O O ?_ ?_
  ·intro X U g o hX;intro n4 c1;have c:=Gd (X:=X) G o;have c1:Sl _ _ AM n4 z.1:=c1;refine AU ?_;exact AS c1
  refine CM.cons O O O ?_ ?_
  ·intro X U g o hX;intro n5 c2;have c:=Gd (X:=X) G o;have c2:Sl _ _ BB n5 z.2.1:=c2;refine AU ?_;exact AS c2
  refine CM.cons O O O ?_ ?_
  ·intro X U g o hX;intro n6 c3;have c:=Gd (X:=X) G o;have c3:Sl _ _ (A7.sl AB) n6 z.2.2:=c3;refine AU ?_;exact AS c3
  exact trivial
 intro c4 c5 n7 fq n8 c6 n9 c7 oa c8 sa sc;have fr:=(VX.nil G n7 fq).st;have c6:Sl _ _ AM n8 z.1:=c6;have c7:Sl _ _ BB n9 z.2.1:=c7;have c8:Sl _ _ (A7.sl AB) oa z.2.2:=c8;refine AU ?_;refine Sb (r:=AM) VI O O fr λuu uv fs uw=>AU ?_;have ob:=cr.nw;obtain⟨ft,E⟩:=LA E;refine H4 (r:=AM) (l:=([]:List AE)) (xs:=t.1) O O VI O (Sl.src ob) O ft O fs (λ_=> .head) λux uy fu uz=>AU ?_;have oc:=c6.nw;obtain⟨fv,E⟩:=LA E;refine H4 (r:=AM) (l:=(([]:List AE)++t.1)) (xs:=z.1) O O VI O (Sl.src oc) O fv O fu (λ_=> .head) λes u0 fw u3=>AU ?_;refine Sb (r:=BB) QG O O fw λu4 u5 fx u6=>AU ?_;have od:=cs.nw;obtain⟨fy,E⟩:=LA E;refine H4 (r:=BB) (l:=([]:List AK)) (xs:=t.2.1) O O QG O (Sl.src od) O fy O fx (λ_=> .head) λu7 u8 f0 u9=>AU ?_;have oe:=c7.nw;obtain⟨f1,E⟩:=LA E;refine H4 (r:=BB) (l:=(([]:List AK)++t.2.1)) (xs:=z.2.1) O O QG O (Sl.src oe) O f1 O f0 (λ_=> .head) λva vb f2 vc=>AU ?_;refine Sb (r:=(A7.sl AB)) Ms O O f2 λvd ve f3 vf=>AU ?_;have og:=ct.nw;obtain⟨f4,E⟩:=LA E;refine H4 (r:=(A7.sl AB)) (l:=([]:List (List Int))) (xs:=t.2.2) O O Ms O (Sl.src og) O f4 O f3 (λ_=> .head) λvg vh f5 vi=>AU ?_;have oh:=c8.nw;obtain⟨f6,E⟩:=LA E;refine H4 (r:=(A7.sl AB)) (l:=(([]:List (List Int))++t.2.2)) (xs:=z.2.2) O O Ms O (Sl.src oh) O f6 O f5 (λ_=> .head) λeu vj bt vk=>AU ?_;refine BX (.inl O) bt ?_;have vl:=k.nw;have vm:=k.nw;have vn:=k.nw;have vo:=k.nw;refine AU ?_;obtain⟨oi,au,E⟩:=bd E;refine AY 5 119 (.bool oi) ?_ ?_
 ·cases ev:((((decide ((↑a7.1.length:Int)≠(↑d.length:Int)))||(decide ((↑((([]:List AE)++t.1)++z.1).length:Int)≠(↑d.length:Int))))||(decide ((↑a7.2.2.length:Int)≠(↑d.length:Int))))||(decide ((↑((([]:List (List Int))++t.2.2)++z.2.2).length:Int)≠(↑d.length:Int))))
  ·have au:=GW ev au;refine AU ?_;refine A8 au O O O pU O (λoj f7 h' o=>Mg (St.all h') ((bt.oslAll (mt (mt (mt (mt (mt mh)))))).mono (λb Y=>tZ Y o.siz) (λb Y=>o.same b Y)) ((bt.oslAll (mt mh)).mono (λb Y=>tZ Y o.siz) (λb Y=>o.same b Y)) f7) λoj au=>AU ?_;cases au;exact O8 O
  have au:=GV ev au;cases au;exact SU O O
 refine BK (kp [119,16,14,13,12,10,9,5,4,2,3] O) λc9 f8 vp=>SS O (λda=>?_) (λda=>?_)
 ·cases GV da E
 have E:=GW da E;refine AU ?_;refine AO (λa w=>IV B (SX (SX (SX D H u y) C A Z) A c4 c5) c9 (200,[]) a w [(13,vP az 0),(10,ax),(9,.bool av),(5,q8),(4,q1),(2,K),(3,vI ad)] (Bx az 36 [vI ay.B,bb,bc,be,bf,bg,bh]::OS AM 36 ax a7.1::L) λ_ _=>Cr N af ap d ad av a7 ay=some true) ?_ ?_
 ·refine A4 (λn1=>λa w=>∃(bn:Int),IV B (SX (SX (SX D H u y) C A Z) A c4 c5) c9 (200,[]) a w [(16,eu),(14,es),(13,vP az 0),(12,cb),(10,ax),(9,.bool av),(5,q8),(4,q1),(2,K),(3,vI ad),(20,vI bn)] (OS (A7.sl AB) 29 eu ((([]:List (List Int))++t.2.2)++z.2.2)::OS AM 36 es ((([]:List AE)++t.1)++z.1)::Bx az 36 [vI ay.B,bb,bc,be,bf,bg,bh]::OS AM 36 ax a7.1::OS (A7.sl AB) 29 cb a7.2.2::L) λ_ _=>AA bn∧CY N af ap d a7 t z (Cr N af ap d ad av a7 ay) n1 bn=some true) N ?_ ?_ ?_
  ·intro aa ww hf hw;have f9:=f8.sel [0,1,1,1,2] 2 O;exact⟨0,_,_,hf.sub (kp [16,14,13,12,10,9,5,4,2,3,20] O),hw,f9,(CB.refl (SX (SX (SX D H u y) C A Z) A c4 c5) c9),(iq (n:=0) O),E⟩
  ·rintro aa ww ⟨_,_,_,_,_,_,_,_,E⟩;rw[CY] at E;cases E
  rintro n1 aa ww ⟨bn,vq,vr,hf,hw,I,ok,vs,E⟩;refine AJ ?_ hf hw;clear hf hw ww aa;rw[CY] at E;have vt:=k.nw;refine AU ?_;refine AH O E (λol E=>?_) (λol E=>?_)
  ·refine AU ?_;refine A5 (AU ?_);refine BX (.inr ⟨mo,by kernel_rfl⟩) I (AU ?_);obtain⟨vu,ga,E⟩:=bd E;refine BR I (mt (mt (mt mh))) O O sl_80.1 ga O λvv gb=>?_;obtain⟨vw,gc,E⟩:=bd E;have om:=I.epAt (mt (mt (mt mh))) gc FW.id gb;refine Nv NI (λ_ x=>x) O om ty_36.1 CE O λvx oo=>AU ?_;obtain⟨vy,gd,E⟩:=bd E;refine BR I (mt mh) O O sl_80.1 gd O λvz ge=>?_;obtain⟨v0,gf,E⟩:=bd E;have op:=I.epAt (mt mh) gf FW.id ge;refine Nv NI (λ_ x=>x) O op ty_36.1 CE O λv2 oq=>?_;refine A8 E O O O TX O (λew gg h' o=>GU (St.all h') (oo.mono (o.all I.1)) (oq.mono (o.all I.1)) gg) λew E=>AU ?_;obtain⟨ey,V,E⟩:=bd E;refine AY 11 147 (.bool ey) ?_ ?_
   ·cases ez:(!ew)
    ·have V:=GW ez V;refine AU ?_;obtain⟨v3,gh,V⟩:=bd V;refine BR I (mt (mt (mt (mt mh)))) O O sl_32.1 gh O λv4 gi=>AU ?_;obtain⟨v5,gj,V⟩:=bd V;have os:=I.epAt (mt (mt (mt (mt mh)))) gj FW.id gi;refine If NI (λ_ x=>x) O os ty_29.1 O λv6 ot=>AU ?_;obtain⟨v7,gl,V⟩:=bd V;refine BR I mh O O sl_32.1 gl O λv8 gm=>AU ?_;obtain⟨v9,gn,V⟩:=bd V;have ou:=I.epAt mh gn FW.id gm;refine If NI (λ_ x=>x) O ou ty_29.1 O λwa ov=>AU ?_;refine A8 V O O O pT O (λow gp h' o=>Ob (St.all h') (ot.mono' (o.all I.1)) (ov.mono' (o.all I.1)) gp) λow V=>AU ?_;cases V;exact O8 O
    have V:=GV ez V;cases V;exact SU O O
   refine AU ?_;obtain⟨e0,am,E⟩:=bd E;refine AY 12 160 (.bool e0) ?_ ?_
   ·cases e1:ey
    ·have am:=GW e1 am;refine AU ?_;obtain⟨wb,gq,am⟩:=bd am;refine BR I (mt (mt (mt mh))) O O sl_80.1 gq O λwc gr=>AU ?_;refine UO O gr fa_36_0.1 O λwd gs=>AU ?_;obtain⟨we,gt,am⟩:=bd am;have ox:=I.epAt (mt (mt (mt mh))) gt AE.f_Hour gs;refine F8 NI (λ_ x=>x) O ox ty_3.1 O λwf=>?_;have wg:=ca.nw;refine AU ?_;cases am;exact O8 O
    have am:=GV e1 am;cases am;exact SU O O
   refine AU ?_;obtain⟨oy,ah,E⟩:=bd E;refine AY 8 169 (.bool oy) ?_ ?_
   ·cases e2:e0
    ·have ah:=GW e2 ah;have oz:=ba.nw;obtain⟨wh,_,o0⟩:=oz.lv;refine AU ?_;obtain⟨wi,gu,ah⟩:=bd ah;refine BR I (mt (mt (mt mh))) O O sl_80.1 gu O λwj gv=>AU ?_;obtain⟨wk,gw,ah⟩:=bd ah;have o3:=I.epAt (mt (mt (mt mh))) gw FW.id gv;refine Nv NI (λ_ x=>x) O o3 ty_36.1 CE O λwl o4=>AU ?_;refine A8 ah O O O Zy O (λo5 gx h' o=>ME (St.all h') (o0.mono (o.all I.1)) (o4.mono (o.all I.1)) gx) λo5 ah=>AU ?_;cases ah;exact O8 O
    have ah:=GV e2 ah;cases ah;exact SU O O
   refine BK (kp [169,16,14,13,12,10,9,5,4,2,3,20] O) λwm gy wn=>SS O (λdb=>?_) (λdb=>?_)
   ·cases GV db E
   have E:=GW db E;refine AU ?_;refine BE (AU ?_);refine WF.nil (λaa ww hf hw=>?_);exact⟨(BD (bn+1)),_,_,hf.sub (kp [16,14,13,12,10,9,5,4,2,3,20] O),hw,gy,EX,(BI _),E⟩
  refine BC O (λaa ww hf hw=>?_);have gz:=I.sel [2,2] 3 O;exact⟨_,_,hf.sub (kp [13,10,9,5,4,2,3] O),hw,gz,ok,E⟩
 rintro aa ww ⟨J,Q,hf,hw,ai,wo,E⟩;refine AJ ?_ hf hw;clear hf hw ww aa;rw[Cr] at E;refine AU ?_;obtain⟨e3,g0,E⟩:=bd E;obtain⟨ar,g1,E⟩:=bd E;refine O4 (m:=[(13,vP az 0),(10,ax),(9,.bool av),(5,q8),(4,q1),(2,K),(3,vI ad)]) [7] [] [6] (λX i v g=>match i with|0=>Rd J g BO v af|1=>v= .agg #[vI ay.B,bb,bc,be,bf,bg,bh]∧AA ay.B|2=>Sl J g CN v d|3=>v=vI ad∧AA ad|4=>Sl J g CN v e3|5=>Rd (SX J Q g X) g AM v ar|6=>Xj Q 36 [vI 0,vN,vN,vN,vN,vN,vN] v g|_=>False) [[],[],[],[],[(2,172),(3,173)],[(0,170),(1,171),(4,174)],[],[]] [(5,175),(6,21)] mo (by kernel_rfl) [13,10,9,5,4,2,3] O (by kernel_rfl) (by kernel_rfl) (by kernel_rfl) O (kp [13,10,9,5,4,2,3] O) (λi v h1 h2 X X' o1 o2 u1 u2 M=>?_) (by kernel_rfl) (SQ (T:=36) (λ_=>rfl) O3) ?_ ?_ ?_
 ·match i,M with
   |0,M=>exact(Rd.mono M (o2.ext λb Y=>tZ (ai.1 b Y) o1.siz))
   |1,M|3,M=>exact M
   |2,M|4,M=>exact(Sl.mono' M (o2.ext λb Y=>tZ (ai.1 b Y) o1.siz))
   |5,M=>exact(Rd.mono M (SX.mono ai.1 o1 o2 u1 u2))
   |6,M=>exact M.mono o2
   |_+7,M=>exact M.elim
 ·exact trivial
 ·refine CM.cons O O O ?_ ?_
  ·intro X U g o hX;have c:=o.st ai;have o6:=ba.nw;obtain⟨wp,_,o7⟩:=o6.lv;refine AU ?_;exact AS o7
  refine CM.cons O O O ?_ ?_
  ·intro X U g o hX;have c:=o.st ai;refine AU ?_;exact AS ⟨O,d3⟩
  refine CM.cons O O O ?_ ?_
  ·intro X U g o hX;have c:=o.st ai;refine AU ?_;have o8:=k.nw;exact AS o8
  refine CM.cons O O O ?_ ?_
  ·intro X U g o hX;have c:=o.st ai;refine AU ?_;exact AS ⟨O,a0⟩
  refine CM.cons O O O ?_ ?_
  ·intro X U g o hX;intro o9 dc wq pa;have c:=o.st ai;have dc:Sl _ _ CN o9 d:=dc;obtain⟨rfl,wr⟩:=pa;refine Ku 1 (XS O O dc sl_78.1 g0 O λws pb=>AU ?_);exact AS pb
  refine CM.cons O O O ?_ ?_
  ·intro X U g o hX;intro pc bo wt pd pe bp;have c:=Gd (X:=X) ai o;have bo:=Rd.mono (S':=(SX J Q g X)) bo ⟨λb Y=>(SX.ext ai.1 o hX).sub b Y,λ_ _=>rfl,tX _⟩;have bo:Rd _ _ BO pc af:=bo;obtain⟨rfl,pf⟩:=pd;have bp:=Sl.mono' (S':=(SX J Q g X)) bp ⟨λb Y=>(SX.ext ai.1 o hX).sub b Y,λ_ _=>rfl,tX _⟩;have bp:Sl _ _ CN pe e3:=bp;have a1:=c.fz;have pg:=d4.nw;have ph:=d5.nw;have pi:=d6.nw;have pj:=d7.nw;have pk:=d8.nw;have pl:=d9.nw;refine Dh O O O VP O (KY a1 bo (AM.mk (x:=ay) pf pg ph pi pj pk pl) bp g1) λwu wv wx pm p=>?_;obtain⟨pn,g2⟩:=p;have dd:=SX.done o hX pm g2;exact A9 dd.1 (Rd.mono pn dd.2)
  exact CM.al (λ_=>rfl) L8 O (CM.skip (by kernel_rfl) (trivial))
 intro ab ac po g3 pp de wy pq sd g4;obtain⟨df,rfl,pr,ps,pt⟩:=pq;have g5:=(VX.cons (VX.nil ai po g3) pr ps pt uL (g4.at_ (s:=21) (by kernel_rfl) O O)).st;have de:Rd _ _ AM pp ar:=de;obtain⟨b1,b2,b3,b4,b5,b6,rfl,dg,dh,di,dj,dk,dl,dm⟩:=AM.ex de;refine Dk O O O ON ty_36.1 O g5 .head O λaw j wz=>AU ?_;obtain⟨w3,an,E⟩:=bd E;obtain⟨pu,ao,E⟩:=bd E;refine Gq (λa w=>IV B (SX J Q ab ac) aw (200,[]) a w [(8,.bool pu)] (Bx df 36 [vI ar.B,b1,b2,b3,b4,b5,b6]::Bx az 36 [vI ay.B,bb,bc,be,bf,bg,bh]::OS AM 36 ax a7.1::L) λ_ _=>True) ?_ ?_
 ·rcases YW av with ag|ag
  ·have an:=GW ag an;have pv:=tN an;subst pv;cases ao;cases E
  have an:=GV ag an;obtain⟨b7,dn,an⟩:=bd an;obtain⟨a2,dp,an⟩:=bd an;have pw:=tN an;subst pw;rcases YW a2 with ak|ak
  ·have ao:=GW ak ao;cases ao;cases E
  have ao:=GV ak ao;obtain⟨w4,aj,ao⟩:=bd ao;rcases YW (decide ((↑d.length:Int)=0)) with W|W
  ·have aj:=GW W aj;obtain⟨w5,g6,aj⟩:=bd aj;obtain⟨e4,g7,aj⟩:=bd aj;obtain⟨b8,g8,aj⟩:=bd aj;have px:=tN aj;subst px;have py:=tN ao;subst py;refine Mt (m:=[(21,vP df 0),(10,ax),(9,.bool av),(5,q8),(4,q1),(2,K)]) 25 (λi v g=>match i with|0=>v= .bool av|1=>v= .bool av|2=>v= .agg #[vI ar.B,b1,b2,b3,b4,b5,b6]∧AA ar.B|3=>Rd (SX J Q ab ac) g BO v af|4=>Rd (SX J Q ab ac) g AM v ap|5=>Sl (SX J Q ab ac) g CN v d|6=>Rd (SN (SX J Q ab ac) aw g) g AM v b7|7=>v= .bool a2|8=>v= .bool a2|9=>v= .bool a2|10=>Sl (SX J Q ab ac) g CN v d|11=>v=vI (↑d.length:Int)∧AA (↑d.length:Int)|12=>v= .bool (decide ((↑d.length:Int)=0))|13=>v= .bool (decide ((↑d.length:Int)=0))|14=>v= .agg #[vI ar.B,b1,b2,b3,b4,b5,b6]∧AA ar.B|15=>v=ax|16=>Sl (SX J Q ab ac) g CN v d|17=>v=vI (↑d.length:Int)∧AA (↑d.length:Int)|18=>v=vI (BD ((↑d.length:Int)-1))∧AA (BD ((↑d.length:Int)-1))|19=>EP ax ((BD ((↑d.length:Int)-1)).toNat*(AM).sz+0) v|20=>Rd (SX J Q ab ac) g AM v e4|21=>v= .bool b8|22=>v= .bool b8|23=>v= .bool b8|24=>v= .bool b8|_=>False) [[],[(0,176)],[(1,177)],[(1,177)],[(1,177)],[(1,177)],[(3,179),(4,180),(5,181),(1,177)],[(2,178),(6,182),(1,177)],[(1,177),(7,183)],[(8,184)],[(9,185)],[(10,186),(9,185)],[(11,187),(9,185)],[(12,188),(9,185)],[(13,189)],[(13,189)],[(13,189)],[(16,192),(13,189)],[(17,193),(13,189)],[(15,191),(18,194),(13,189)],[(19,195),(13,189)],[(14,190),(20,196),(13,189)],[(13,189),(21,197),(9,185)],[(9,185),(22,198)],[(23,199)]] [(24,8)] mo (by kernel_rfl) [21,10,9,5,4,2] O (by kernel_rfl) (by kernel_rfl) (by kernel_rfl) (kp [21,10,9,5,4,2] O) MO ?_ ?_
   ·refine AQ.cons O EH (AQ.cons O EH (AQ.cons O ?_ ?_))
    ·intro U g o;intro pz p0;have c:=o.st j;obtain rfl:pz= .bool true:=tP p0 (tK Value.bool ag);refine⟨177,O,.inl ⟨O,?_⟩⟩;refine AU ?_;exact AS ⟨O,dg⟩
    refine AQ.cons O ?_ ?_
    ·intro U g o;intro p1 p2;have c:=o.st j;obtain rfl:p1= .bool true:=tP p2 (tK Value.bool ag);refine⟨177,O,.inl ⟨O,?_⟩⟩;have p3:=ba.nw;obtain⟨w6,_,p4⟩:=p3.lv;refine AU ?_;exact AS p4
    refine AQ.cons O ?_ ?_
    ·intro U g o;intro p5 p6;have c:=o.st j;obtain rfl:p5= .bool true:=tP p6 (tK Value.bool ag);refine⟨177,O,.inl ⟨O,?_⟩⟩;have p7:=ca.nw;obtain⟨w7,_,p8⟩:=p7.lv;refine AU ?_;exact AS p8
    refine AQ.cons O ?_ ?_
    ·intro U g o;intro p9 qa;have c:=o.st j;obtain rfl:p9= .bool true:=tP qa (tK Value.bool ag);refine⟨177,O,.inl ⟨O,?_⟩⟩;refine AU ?_;have qb:=k.nw;exact AS qb
    refine AQ.cons O ?_ ?_
    ·intro U g o;intro qc bq qd br qe bs qf qg;have c:=SN.st j o;have bq:=Rd.mono (S':=(SN (SX J Q ab ac) aw g)) bq ⟨λb Y=> .inl Y,λ_ _=>rfl,tX _⟩;have bq:Rd _ _ BO qc af:=bq;have br:=Rd.mono (S':=(SN (SX J Q ab ac) aw g)) br ⟨λb Y=> .inl Y,λ_ _=>rfl,tX _⟩;have br:Rd _ _ AM qd ap:=br;have bs:=Sl.mono' (S':=(SN (SX J Q ab ac) aw g)) bs ⟨λb Y=> .inl Y,λ_ _=>rfl,tX _⟩;have bs:Sl _ _ CN qe d:=bs;obtain rfl:qf= .bool true:=tP qg (tK Value.bool ag);refine⟨177,O,.inl ⟨O,?_⟩⟩;have a1:=c.fz;refine Dh O O O VP O (KY a1 bq br bs dn) λw8 w9 xa qh p=>?_;obtain⟨qi,g9⟩:=p;have dq:=Fz.done o qh g9;exact A9 dq.1 (Rd.mono qi dq.2)
    refine AQ.cons O ?_ ?_
    ·intro U g o;intro xb qj qk dr ql qm;have c:=SN.st j o;obtain⟨rfl,qn⟩:=qj;have dr:Rd _ _ AM qk b7:=dr;obtain rfl:ql= .bool true:=tP qm (tK Value.bool ag);refine⟨177,O,.inl ⟨O,?_⟩⟩;have qo:=dh.nw;have qp:=di.nw;have qq:=dj.nw;have qr:=dk.nw;have qs:=dl.nw;have qt:=dm.nw;refine E6 O O O TX O c (GU (St.all _) (AM.mk (x:=ar) qn (qo.mono c.ea.1 c.ea.2) (qp.mono c.ea.1 c.ea.2) (qq.mono c.ea.1 c.ea.2) (qr.mono c.ea.1 c.ea.2) (qs.mono c.ea.1 c.ea.2) (qt.mono c.ea.1 c.ea.2)) (dr.mono c.ea) dp) λxc xd xe se xf e6 p=>?_;obtain⟨rfl,sf⟩:=p;exact A9 ⟨e6.siz,λb Y=>e6.same b Y⟩ O
    refine AQ.cons O ?_ ?_
    ·intro U g o;intro qu qv xg qw;have c:=o.st j;obtain rfl:qu= .bool true:=tP qv (tK Value.bool ag);cases qw;refine AU ?_;exact AS O
    refine AQ.cons O EH (AQ.cons O ?_ ?_)
    ·intro U g o;intro qx qy;have c:=o.st j;obtain rfl:qx= .bool true:=tP qy (tK Value.bool ak);refine⟨185,O,.inl ⟨O,?_⟩⟩;refine AU ?_;have q0:=k.nw;exact AS q0
    refine AQ.cons O ?_ ?_
    ·intro U g o;intro q2 ds q3 q4;have c:=o.st j;have ds:Sl _ _ CN q2 d:=ds;obtain rfl:q3= .bool true:=tP q4 (tK Value.bool ak);refine⟨185,O,.inl ⟨O,?_⟩⟩;have q5:=ds.le;refine AU ?_;exact AS ⟨O,(Je q5)⟩
    refine AQ.cons O ?_ ?_
    ·intro U g o;intro xh q6 q7 q9;have c:=o.st j;obtain⟨rfl,xi⟩:=q6;obtain rfl:q7= .bool true:=tP q9 (tK Value.bool ak);refine⟨185,O,.inl ⟨O,?_⟩⟩;refine AU ?_;exact AS O
    refine AQ.cons O ?_ ?_
    ·intro U g o;intro xj rb ha hc;have c:=o.st j;cases rb;obtain rfl:ha= .bool true:=tP hc (tK Value.bool ak);refine⟨185,O,.inl ⟨O,?_⟩⟩;refine AU ?_;exact AS O
    refine AQ.cons O ?_ ?_
    ·intro U g o;intro hd he;have c:=o.st j;obtain rfl:hd= .bool false:=tP he (tK Value.bool W);refine⟨189,O,.inl ⟨O,?_⟩⟩;refine AU ?_;exact AS ⟨O,dg⟩
    refine AQ.cons O ?_ ?_
    ·intro U g o;intro hg hi;have c:=o.st j;obtain rfl:hg= .bool false:=tP hi (tK Value.bool W);refine⟨189,O,.inl ⟨O,?_⟩⟩;refine AU ?_;exact AS O
    refine AQ.cons O ?_ ?_
    ·intro U g o;intro hj hk;have c:=o.st j;obtain rfl:hj= .bool false:=tP hk (tK Value.bool W);refine⟨189,O,.inl ⟨O,?_⟩⟩;refine AU ?_;have hl:=k.nw;exact AS hl
    refine AQ.cons O ?_ ?_
    ·intro U g o;intro hm bu hn ho;have c:=o.st j;have bu:Sl _ _ CN hm d:=bu;obtain rfl:hn= .bool false:=tP ho (tK Value.bool W);refine⟨189,O,.inl ⟨O,?_⟩⟩;have hp:=bu.le;refine AU ?_;exact AS ⟨O,(Je hp)⟩
    refine AQ.cons O ?_ ?_
    ·intro U g o;intro sg hq ht hu;have c:=o.st j;obtain⟨rfl,sh⟩:=hq;obtain rfl:ht= .bool false:=tP hu (tK Value.bool W);refine⟨189,O,.inl ⟨O,?_⟩⟩;refine AU ?_;exact AS ⟨O,(BI _)⟩
    refine AQ.cons O ?_ ?_
    ·intro U g o;intro si hv sj hx hy hz;have c:=o.st j;cases hv;obtain⟨rfl,sk⟩:=hx;obtain rfl:hy= .bool false:=tP hz (tK Value.bool W);refine⟨189,O,.inl ⟨O,?_⟩⟩;refine AU ?_;refine BR c (mt (mt mh)) O O sl_80.1 g6 O λsm dz=>AU ?_;exact AS dz
    refine AQ.cons O ?_ ?_
    ·intro U g o;intro sn h0 h4 h5;have c:=o.st j;obtain rfl:h4= .bool false:=tP h5 (tK Value.bool W);refine⟨189,O,.inl ⟨O,?_⟩⟩;refine AU ?_;have h6:=c.epAt (mt (mt mh)) g7 FW.id h0;refine Nv K9 (λ_ x=>x) O h6 ty_36.1 CE O λso h7=>AU ?_;exact AS h7
    refine AQ.cons O ?_ ?_
    ·intro U g o;intro sp h8 h9 a3 ia ib;have c:=SN.st j o;obtain⟨rfl,ic⟩:=h8;have a3:=Rd.mono (S':=(SN (SX J Q ab ac) aw g)) a3 ⟨λb Y=> .inl Y,λ_ _=>rfl,tX _⟩;have a3:Rd _ _ AM h9 e4:=a3;obtain rfl:ia= .bool false:=tP ib (tK Value.bool W);refine⟨189,O,.inl ⟨O,?_⟩⟩;have ie:=dh.nw;have ig:=di.nw;have ih:=dj.nw;have ii:=dk.nw;have ij:=dl.nw;have ik:=dm.nw;refine E6 O O O TX O c (GU (St.all _) (AM.mk (x:=ar) ic (ie.mono c.ea.1 c.ea.2) (ig.mono c.ea.1 c.ea.2) (ih.mono c.ea.1 c.ea.2) (ii.mono c.ea.1 c.ea.2) (ij.mono c.ea.1 c.ea.2) (ik.mono c.ea.1 c.ea.2)) (a3.mono c.ea) g8) λsq sr ss rd su dt p=>?_;obtain⟨rfl,re⟩:=p;exact A9 ⟨dt.siz,λb Y=>dt.same b Y⟩ O
    refine AQ.cons O ?_ ?_
    ·intro U g o;intro il im sv io ip ir;have c:=o.st j;obtain rfl:il= .bool false:=tP im (tK Value.bool W);cases io;obtain rfl:ip= .bool true:=tP ir (tK Value.bool ak);refine⟨185,O,.inl ⟨O,?_⟩⟩;refine AU ?_;exact AS O
    refine AQ.cons O ?_ ?_
    ·intro U g o;intro it iu sw iv;have c:=o.st j;obtain rfl:it= .bool true:=tP iu (tK Value.bool ak);cases iv;refine AU ?_;exact AS O
    exact AQ.cons O EH (trivial)
   intro sx du sy iw;have d0:=SN.st j du;cases iw;refine AU ?_;exact WF.nil (λaa ww hf hw=>⟨_,_,hf.sub (kp [8] O),hw,d0,(SN.ext j.1 du),trivial⟩)
  have aj:=GV W aj;have iy:=tN aj;subst iy;have iz:=tN ao;subst iz;refine Mt (m:=[(21,vP df 0),(10,ax),(9,.bool av),(5,q8),(4,q1),(2,K)]) 25 (λi v g=>match i with|0=>v= .bool av|1=>v= .bool av|2=>v= .agg #[vI ar.B,b1,b2,b3,b4,b5,b6]∧AA ar.B|3=>Rd (SX J Q ab ac) g BO v af|4=>Rd (SX J Q ab ac) g AM v ap|5=>Sl (SX J Q ab ac) g CN v d|6=>Rd (SN (SX J Q ab ac) aw g) g AM v b7|7=>v= .bool a2|8=>v= .bool a2|9=>v= .bool a2|10=>Sl (SX J Q ab ac) g CN v d|11=>v=vI (↑d.length:Int)∧AA (↑d.length:Int)|12=>v= .bool (decide ((↑d.length:Int)=0))|13=>v= .bool (decide ((↑d.length:Int)=0))|14=>v=undef|15=>v=undef|16=>v=undef|17=>v=undef|18=>v=undef|19=>v=undef|20=>v=undef|21=>v=undef|22=>v= .bool true|23=>v= .bool true|24=>v= .bool true|_=>False) [[],[(0,176)],[(1,177)],[(1,177)],[(1,177)],[(1,177)],[(3,179),(4,180),(5,181),(1,177)],[(2,178),(6,182),(1,177)],[(1,177),(7,183)],[(8,184)],[(9,185)],[(10,186),(9,185)],[(11,187),(9,185)],[(12,188),(9,185)],[(13,189)],[(13,189)],[(13,189)],[(13,189)],[(13,189)],[(13,189)],[(13,189)],[(13,189)],[(13,189),(21,197),(9,185)],[(9,185),(22,198)],[(23,199)]] [(24,8)] mo (by kernel_rfl) [21,10,9,5,4,2] O (by kernel_rfl) (by kernel_rfl) (by kernel_rfl) (kp [21,10,9,5,4,2] O) MO ?_ ?_
  ·refine AQ.cons O EH (AQ.cons O EH (AQ.cons O ?_ ?_))
   ·intro U g o;intro i0 i1;have c:=o.st j;obtain rfl:i0= .bool true:=tP i1 (tK Value.bool ag);refine⟨177,O,.inl ⟨O,?_⟩⟩;refine AU ?_;exact AS ⟨O,dg⟩
   refine AQ.cons O ?_ ?_
   ·intro U g o;intro i2 i3;have c:=o.st j;obtain rfl:i2= .bool true:=tP i3 (tK Value.bool ag);refine⟨177,O,.inl ⟨O,?_⟩⟩;have i4:=ba.nw;obtain⟨s0,_,i5⟩:=i4.lv;refine AU ?_;exact AS i5
   refine AQ.cons O ?_ ?_
   ·intro U g o;intro i6 i7;have c:=o.st j;obtain rfl:i6= .bool true:=tP i7 (tK Value.bool ag);refine⟨177,O,.inl ⟨O,?_⟩⟩;have i8:=ca.nw;obtain⟨s1,_,i9⟩:=i8.lv;refine AU ?_;exact AS i9
   refine AQ.cons O ?_ ?_
   ·intro U g o;intro ja jb;have c:=o.st j;obtain rfl:ja= .bool true:=tP jb (tK Value.bool ag);refine⟨177,O,.inl ⟨O,?_⟩⟩;refine AU ?_;have jc:=k.nw;exact AS jc
   refine AQ.cons O ?_ ?_
   ·intro U g o;intro jd a4 je a5 jf a6 jg jh;have c:=SN.st j o;have a4:=Rd.mono (S':=(SN (SX J Q ab ac) aw g)) a4 ⟨λb Y=> .inl Y,λ_ _=>rfl,tX _⟩;have a4:Rd _ _ BO jd af:=a4;have a5:=Rd.mono (S':=(SN (SX J Q ab ac) aw g)) a5 ⟨λb Y=> .inl Y,λ_ _=>rfl,tX _⟩;have a5:Rd _ _ AM je ap:=a5;have a6:=Sl.mono' (S':=(SN (SX J Q ab ac) aw g)) a6 ⟨λb Y=> .inl Y,λ_ _=>rfl,tX _⟩;have a6:Sl _ _ CN jf d:=a6;obtain rfl:jg= .bool true:=tP jh (tK Value.bool ag);refine⟨177,O,.inl ⟨O,?_⟩⟩;have a1:=c.fz;refine Dh O O O VP O (KY a1 a4 a5 a6 dn) λs2 s3 s4 ji p=>?_;obtain⟨jj,d1⟩:=p;have b9:=Fz.done o ji d1;exact A9 b9.1 (Rd.mono jj b9.2)
   refine AQ.cons O ?_ ?_
   ·intro U g o;intro s5 jk jl bv jm jn;have c:=SN.st j o;obtain⟨rfl,jo⟩:=jk;have bv:Rd _ _ AM jl b7:=bv;obtain rfl:jm= .bool true:=tP jn (tK Value.bool ag);refine⟨177,O,.inl ⟨O,?_⟩⟩;have jp:=dh.nw;have jq:=di.nw;have jr:=dj.nw;have js:=dk.nw;have jt:=dl.nw;have ju:=dm.nw;refine E6 O O O TX O c (GU (St.all _) (AM.mk (x:=ar) jo (jp.mono c.ea.1 c.ea.2) (jq.mono c.ea.1 c.ea.2) (jr.mono c.ea.1 c.ea.2) (js.mono c.ea.1 c.ea.2) (jt.mono c.ea.1 c.ea.2) (ju.mono c.ea.1 c.ea.2)) (bv.mono c.ea) dp) λs6 s7 s8 rf s9 dv p=>?_;obtain⟨rfl,rg⟩:=p;exact A9 ⟨dv.siz,λb Y=>dv.same b Y⟩ O
   refine AQ.cons O ?_ ?_
   ·intro U g o;intro jv jw ta jx;have c:=o.st j;obtain rfl:jv= .bool true:=tP jw (tK Value.bool ag);cases jx;refine AU ?_;exact AS O
   refine AQ.cons O EH (AQ.cons O ?_ ?_)
   ·intro U g o;intro jy jz;have c:=o.st j;obtain rfl:jy= .bool true:=tP jz (tK Value.bool ak);refine⟨185,O,.inl ⟨O,?_⟩⟩;refine AU ?_;have j0:=k.nw;exact AS j0
   refine AQ.cons O ?_ ?_
   ·intro U g o;intro j1 bw j2 j3;have c:=o.st j;have bw:Sl _ _ CN j1 d:=bw;obtain rfl:j2= .bool true:=tP j3 (tK Value.bool ak);refine⟨185,O,.inl ⟨O,?_⟩⟩;have j4:=bw.le;refine AU ?_;exact AS ⟨O,(Je j4)⟩
   refine AQ.cons O ?_ ?_
   ·intro U g o;intro tb j5 j6 j7;have c:=o.st j;obtain⟨rfl,tc⟩:=j5;obtain rfl:j6= .bool true:=tP j7 (tK Value.bool ak);refine⟨185,O,.inl ⟨O,?_⟩⟩;refine AU ?_;exact AS O
   refine AQ.cons O ?_ ?_
   ·intro U g o;intro td j8 j9 ka;have c:=o.st j;cases j8;obtain rfl:j9= .bool true:=tP ka (tK Value.bool ak);refine⟨185,O,.inl ⟨O,?_⟩⟩;refine AU ?_;exact AS O
   refine AQ.cons O (λ_ _ _ kb kc=>by obtain rfl:kb= .bool true:=tP kc (tK Value.bool W);exact ⟨189,O,.inr ⟨_,O,(by simp [yb,undef]),O⟩⟩) (AQ.cons O (λ_ _ _ kd ke=>by obtain rfl:kd= .bool true:=tP ke (tK Value.bool W);exact ⟨189,O,.inr ⟨_,O,(by simp [yb,undef]),O⟩⟩) (AQ.cons O (λ_ _ _ kf kg=>by obtain rfl:kf= .bool true:=tP kg (tK Value.bool W);exact ⟨189,O,.inr ⟨_,O,(by simp [yb,undef]),O⟩⟩) (AQ.cons O (λ_ _ _ kh ki=>by obtain rfl:kh= .bool true:=tP ki (tK Value.bool W);exact ⟨189,O,.inr ⟨_,O,(by simp [yb,undef]),O⟩⟩) (AQ.cons O (λ_ _ _ kj kk=>by obtain rfl:kj= .bool true:=tP kk (tK Value.bool W);exact ⟨189,O,.inr ⟨_,O,(by simp [yb,undef]),O⟩⟩) (AQ.cons O (λ_ _ _ kl km=>by obtain rfl:kl= .bool true:=tP km (tK Value.bool W);exact ⟨189,O,.inr ⟨_,O,(by simp [yb,undef]),O⟩⟩) (AQ.cons O (λ_ _ _ kn ko=>by obtain rfl:kn= .bool true:=tP ko (tK Value.bool W);exact ⟨189,O,.inr ⟨_,O,(by simp [yb,undef]),O⟩⟩) (AQ.cons O (λ_ _ _ kr ks=>by obtain rfl:kr= .bool true:=tP ks (tK Value.bool W);exact ⟨189,O,.inr ⟨_,O,(by simp [yb,undef]),O⟩⟩) ?_)))))));refine AQ.cons O ?_ ?_
   ·intro U g o;intro kt ku te kv kw kx;have c:=o.st j;obtain rfl:kt= .bool true:=tP ku (tK Value.bool W);cases kv;obtain rfl:kw= .bool true:=tP kx (tK Value.bool ak);refine⟨185,O,.inl ⟨O,?_⟩⟩;refine AU ?_;exact AS O
   refine AQ.cons O ?_ ?_
   ·intro U g o;intro ky kz tf k3;have c:=o.st j;obtain rfl:ky= .bool true:=tP kz (tK Value.bool ak);cases k3;refine AU ?_;exact AS O
   exact AQ.cons O EH (trivial)
  intro tg dw th k4;have d2:=SN.st j dw;cases k4;refine AU ?_;exact WF.nil (λaa ww hf hw=>⟨_,_,hf.sub (kp [8] O),hw,d2,(SN.ext j.1 dw),trivial⟩)
 rintro aa ww ⟨ti,tj,hf,hw,rh,tk,_⟩;refine AJ ?_ hf hw;clear hf hw ww aa;exact RT
end Go.Proofs.YtedgiljmffngoaaGreat
