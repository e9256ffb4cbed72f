import Derived.Test.YtedgiljmffngoaaGreatFFacts
import Derived.Test.YtedgiljmffngoaaGreatFForms
import Derived.Test.YtedgiljmffngoaaGreatFInst
import Derived.Test.YtedgiljmffngoaaGreatFSort5
namespace Go.Proofs.YtedgiljmffngoaaGreat
set_option linter.all false
open Go.RowKit
open Go.Proofs.Tryz
set_option maxRecDepth 10000
set_option maxHeartbeats 2000000
variable {N:Nat}{S:Nat→Prop}{L:List HP}{h:AT}
def B8 (j:St S L h) {c:Int}(i:AA c) {b:Int}(g:AA b) {a:Int}(d:AA a) {r:Bool}(E:CO N c b a=some r):
 B0 prog 228 #[vI c,vI b,vI a] S h (λv S' h'=>v= .bool r∧St S' (L) h'):=by
 refine BA 15 func228 O ntmps228 O λB=>?_;rw[CO] at E;exact RT
def CB (d:St S L h) {a:Int}(b:AA a) {r:Bool}(E:CH N a=some r):
 B0 prog 229 #[vI a] S h (λv S' h'=>v= .bool r∧St S' (L) h'):=by
 refine BA 5 func229 O ntmps229 O λB=>?_;rw[CH] at E;refine AU ?_;refine BZ (.inl O) d (AU ?_);refine BC E O O O E2 O (λg c h' o=>B8 (St.all h') b (iq (n:=0) O) (iq (n:=1125899906842624) O) c) λg E=>AU ?_;exact BL (kp [2] O) λj i k=>RT
def N9 (hs:St S L h) {t:Value}{b:AO}(ac:Rd S h BW t b) {r:Bool}(E:KE N b=some r):
 B0 prog 175 #[t] S h (λv S' h'=>v= .bool r∧St S' (L) h'):=by
 refine BA (l:=[t]) 109 func175 O ntmps175 O λB=>?_;rw[KE] at E;refine WF.sl (B4 O ac (λe=>by cases e) O hs λq1 S2 h3 s e5 F=>BO 1 (CM O (BQ (LF.nil (kp [1] O) (BI (BI (BZ (.inl O) s (KP O F AO.f_Name fa_31_0.1 O λq7 k8=>Ql Lr s.1 O k8 ty_9.1 O λr9=>LB O LG O (EC O (AD O ?_))))))))));obtain⟨ap,j,E⟩:=bd E;refine AS 6 17 (.bool ap) ?_ ?_
 ·cases aq:(decide (500<(↑b.C.size:Int)))
  ·have j:=Em aq j;refine AM O (KP O F Fp fa_31_1.1 O λck bb=>AM O (GN Lr s.1 O bb ty_22.1 O λcl bc=>AM O (E3 O bc sl_22.1 O λbe=>AM O ?_)));obtain⟨cm,ar,j⟩:=bd j;refine Ht O O O E2 O (λh' o=>B8 (St.all h') (Jb be) (iq (n:=1) O) (iq (n:=16) O) ar) (AM O (HI O (BP O ?_)));cases j;exact AQ O
  have j:=El aq j;cases j;exact A6 O O
 refine AD O ?_;obtain⟨au,k,E⟩:=bd E;refine AS 5 23 (.bool au) ?_ ?_
 ·cases av:ap
  ·have k:=Em av k;refine AM O (KP O F Lh fa_31_2.1 O λcn bf=>AM O (C8 Lr s.1 O bf ty_3.1 O λbg=>AM O ?_));obtain⟨co,aw,k⟩:=bd k;refine Ht O O O E2 O (λh' o=>B8 (St.all h') bg (iq (n:=0) O) (iq (n:=64) O) aw) (AM O (HI O (BP O ?_)));cases k;exact AQ O
  have k:=El av k;cases k;exact A6 O O
 refine AD O ?_;obtain⟨i,m,E⟩:=bd E;refine AS 6 30 (.bool i) ?_ ?_
 ·cases ax:au
  ·have m:=Em ax m;refine AM O (KP O F B3 fa_31_3.1 O λcp bh=>AM O (GN Lr s.1 O bh ty_23.1 O λcq bi=>AM O (E3 O bi sl_23.1 O λbj=>AM O ?_)));obtain⟨cr,ay,m⟩:=bd m;refine Ht O O O E2 O (λh' o=>B8 (St.all h') (Jb bj) (iq (n:=1) O) (iq (n:=64) O) ay) (AM O (HI O (BP O ?_)));cases m;exact AQ O
  have m:=El ax m;cases m;exact A6 O O
 refine AD O (AS 5 36 (.bool (i||(decide (96<(↑b.J.length:Int))))) ?_ ?_)
 ·cases cs:i
  ·exact AM O (KP O F Ec fa_31_4.1 O λct bk=>AM O (GN Lr s.1 O bk ty_24.1 O λcu bl=>AM O (E3 O bl sl_24.1 O λcv=>AM O (EC O (BP O (AQ O))))))
  exact A6 O O
 refine AD O (AS 5 42 (.bool ((i||(decide (96<(↑b.J.length:Int))))||(decide (40<(↑b.U.length:Int))))) ?_ ?_)
 ·cases cw:(i||(decide (96<(↑b.J.length:Int))))
  ·exact AM O (KP O F Id fa_31_5.1 O λcx bm=>AM O (GN Lr s.1 O bm ty_25.1 O λcy bn=>AM O (E3 O bn sl_25.1 O λcz=>AM O (EC O (BP O (AQ O))))))
  exact A6 O O
 refine AD O (AS 5 48 (.bool (((i||(decide (96<(↑b.J.length:Int))))||(decide (40<(↑b.U.length:Int))))||(decide (128<(↑b.W.length:Int))))) ?_ ?_)
 ·cases c0:((i||(decide (96<(↑b.J.length:Int))))||(decide (40<(↑b.U.length:Int))))
  ·exact AM O (KP O F JY fa_31_6.1 O λc1 bo=>AM O (GN Lr s.1 O bo ty_26.1 O λc2 bp=>AM O (E3 O bp sl_26.1 O λc3=>AM O (EC O (BP O (AQ O))))))
  exact A6 O O
 refine AD O (AS 5 54 (.bool ((((i||(decide (96<(↑b.J.length:Int))))||(decide (40<(↑b.U.length:Int))))||(decide (128<(↑b.W.length:Int))))||(decide (128<(↑b.Y.length:Int))))) ?_ ?_)
 ·cases c4:(((i||(decide (96<(↑b.J.length:Int))))||(decide (40<(↑b.U.length:Int))))||(decide (128<(↑b.W.length:Int))))
  ·exact AM O (KP O F KK fa_31_7.1 O λc5 bq=>AM O (GN Lr s.1 O bq ty_27.1 O λc6 br=>AM O (E3 O br sl_27.1 O λc7=>AM O (EC O (BP O (AQ O))))))
  exact A6 O O
 refine AD O (AS 5 60 (.bool (((((i||(decide (96<(↑b.J.length:Int))))||(decide (40<(↑b.U.length:Int))))||(decide (128<(↑b.W.length:Int))))||(decide (128<(↑b.Y.length:Int))))||(decide (40<(↑b.Z.length:Int))))) ?_ ?_)
 ·cases c8:((((i||(decide (96<(↑b.J.length:Int))))||(decide (40<(↑b.U.length:Int))))||(decide (128<(↑b.W.length:Int))))||(decide (128<(↑b.Y.length:Int))))
  ·exact AM O (KP O F IM fa_31_8.1 O λc9 bs=>AM O (GN Lr s.1 O bs ty_28.1 O λda bt=>AM O (E3 O bt sl_28.1 O λdb=>AM O (EC O (BP O (AQ O))))))
  exact A6 O O
 refine AD O (AS 5 66 (.bool ((((((i||(decide (96<(↑b.J.length:Int))))||(decide (40<(↑b.U.length:Int))))||(decide (128<(↑b.W.length:Int))))||(decide (128<(↑b.Y.length:Int))))||(decide (40<(↑b.Z.length:Int))))||(decide ((↑b.X.length:Int)≠3)))) ?_ ?_)
 ·cases dc:(((((i||(decide (96<(↑b.J.length:Int))))||(decide (40<(↑b.U.length:Int))))||(decide (128<(↑b.W.length:Int))))||(decide (128<(↑b.Y.length:Int))))||(decide (40<(↑b.Z.length:Int))))
  ·exact AM O (KP O F AO.f_Room fa_31_9.1 O λdd bu=>AM O (GN Lr s.1 O bu ty_29.1 O λde bv=>AM O (E3 O bv sl_29.1 O λdf=>AM O (Hs O (BP O (AQ O))))))
  exact A6 O O
 refine AD O ?_;obtain⟨bw,p,E⟩:=bd E;refine AS 5 72 (.bool bw) ?_ ?_
 ·cases az:((((((i||(decide (96<(↑b.J.length:Int))))||(decide (40<(↑b.U.length:Int))))||(decide (128<(↑b.W.length:Int))))||(decide (128<(↑b.Y.length:Int))))||(decide (40<(↑b.Z.length:Int))))||(decide ((↑b.X.length:Int)≠3)))
  ·have p:=Em az p;refine AM O (KP O F AO.f_Err fa_31_10.1 O λdg bx=>AM O (C8 Lr s.1 O bx ty_3.1 O λbz=>AM O ?_));obtain⟨dh,a0,p⟩:=bd p;refine Ht O O O E2 O (λh' o=>B8 (St.all h') bz (iq (n:=0) O) (iq (n:=1099511627776) O) a0) (AM O (HI O (BP O ?_)));cases p;exact AQ O
  have p:=El az p;cases p;exact A6 O O
 refine BL (kp [72,1] O) λah G H=>AF O E (λb0 E=>?_) (λb0 E=>?_)
 ·refine BV (Bz O (kp [2] O) (BS (λu x c d=>?_)));cases E;exact Oo c d O O (e5.trans H) ⟨O,G⟩
 refine CA (BI (BV ?_));have ai:=F.mono H;refine KP O ai AO.f_Name fa_31_0.1 O λdi b1=>Ql FC G.1 O b1 ty_9.1 O λdj=>LB O LG O (AD O (B7 (kp [76,75,1] O) (AK (λa w=>IV B S2 ah (109,[]) a w [(1,q1)] (L) λ_ _=>G2 N b=some r) ?_ ?_)))
 ·refine AY (λn1=>λa w=>∃(I:Int),IV B S2 ah (109,[]) a w [(75,vI (↑b.C.size:Int)),(1,q1),(76,vI I)] (L) λ_ _=>AA I∧Fa N b (G2 N b) n1 I=some r) N ?_ ?_ ?_
  ·intro u x c d;exact⟨0,_,_,c.sub (kp [75,1,76] O),d,G,(B6.refl S2 ah),(iq (n:=0) O),E⟩
  ·rintro u x ⟨_,_,_,_,_,_,_,_,E⟩;rw[Fa] at E;cases E
  rintro n1 u x ⟨I,dk,dl,c,d,A,ad,dm,E⟩;refine AI ?_ c d;clear c d x u;rw[Fa] at E;refine BV (DN O (B7 (kp [77,75,1,76] O) (BI (AF O E (λb2 E=>?_) (λb2 E=>?_)))))
  ·refine CA (BI (AZ (BV (AD O (Bz O (kp [3,75,1,76] O) (BV ?_))))));have b3:=ai.mono ad;refine KP O b3 AO.f_Name fa_31_0.1 O λdn b4=>Ql FC A.1 O b4 ty_9.1 O λdp=>AD O ?_;obtain⟨g,ae,E⟩:=bd E;have b5:=Kj ae;refine Kl O O LG ae O (Bz O (kp [4,75,1,76] O) (BV (AD O (DN O (AD O (AS 3 88 (.bool ((decide (g<32))||(decide (126<g)))) ?_ ?_))))))
   ·cases b6:(decide (g<32))
    ·exact AM O (AD O (AM O (EC O (BP O (AQ O)))))
    exact A6 O O
   refine AD O (AS 3 92 (.bool (((decide (g<32))||(decide (126<g)))||(decide (g=34)))) ?_ ?_)
   ·cases b7:((decide (g<32))||(decide (126<g)))
    ·exact AM O (AD O (AM O (II O (BP O (AQ O)))))
    exact A6 O O
   refine AD O (AS 3 96 (.bool ((((decide (g<32))||(decide (126<g)))||(decide (g=34)))||(decide (g=92)))) ?_ ?_)
   ·cases b8:(((decide (g<32))||(decide (126<g)))||(decide (g=34)))
    ·exact AM O (AD O (AM O (II O (BP O (AQ O)))))
    exact A6 O O
   refine B7 (kp [96,75,1,76] O) (AF O E (λa1 E=>?_) (λa1 E=>?_))
   ·refine BV (Bz O (kp [2] O) (BS (λu x c d=>?_)));cases E;have aj:=e5.trans (H.trans ad);exact Oo c d O O aj ⟨O,A⟩
   refine CA (BD (EF (.inl O) (DK O (AD O (B7 (kp [76,75,1] O) (WF.nil (λu x c d=>?_)))))));exact⟨(BG (I+1)),_,_,c.sub (kp [75,1,76] O),d,A,ad,(BF _),E⟩
  refine A8 O (λu x c d=>?_);exact⟨_,_,c.sub (kp [1] O),d,A,ad,E⟩
 rintro u x ⟨K,M,c,d,Q,V,E⟩;refine AI ?_ c d;clear c d x u;rw[G2] at E;refine BI (BV ?_);have a2:=ai.mono V;refine KP O a2 AO.f_Room fa_31_9.1 O λb9 a3=>GN FC Q.1 O a3 ty_29.1 O λa4 af=>E3 O af sl_29.1 O λca=>AD O (B7 (kp [101,100,99] O) (AK (λa w=>IV B K M (109,[]) a w [] (L) λ_ _=>G1 N=some r) ?_ ?_))
 ·refine AY (λn3=>λa w=>∃(y:Int),IV B K M (109,[]) a w [(100,vI (↑b.X.length:Int)),(99,a4),(101,vI y)] (L) λ_ _=>AA y∧FZ N b (G1 N) n3 y=some r) N ?_ ?_ ?_
  ·intro u x c d;exact⟨0,_,_,c.sub (kp [100,99,101] O),d,Q,(B6.refl K M),(iq (n:=0) O),E⟩
  ·rintro u x ⟨_,_,_,_,_,_,_,_,E⟩;rw[FZ] at E;cases E
  rintro n3 u x ⟨y,cb,cc,c,d,z,D,cd,E⟩;refine AI ?_ c d;clear c d x u;rw[FZ] at E;refine BV (DN O (B7 (kp [102,100,99,101] O) (BI (AF O E (λa5 E=>?_) (λa5 E=>?_)))))
  ·refine CA (BI (AZ (BV ?_)));have a6:=af.mono' D;obtain⟨ce,ak,E⟩:=bd E;refine Hg O O a6 sl_29.1 ak O λcf a7=>C8 FC z.1 O a7 ty_3.1 O λa8=>Bz O (kp [6,100,99,101] O) (BI (BZ (.inl O) z (AD O ?_)));obtain⟨cg,al,E⟩:=bd E;refine Ht O O O IA O (λh' o=>CB (St.all h') a8 al) (HI O (BL (kp [107,100,99,101] O) λch ab ag=>AF O E (λa9 E=>?_) (λa9 E=>?_)))
   ·refine BV (Bz O (kp [2] O) (BS (λu x c d=>?_)));cases E;have am:=e5.trans (H.trans (V.trans (D.trans ag)));exact Oo c d O O am ⟨O,ab⟩
   refine CA (BD (EF (.inl O) (DK O (AD O (B7 (kp [101,100,99] O) (WF.nil (λu x c d=>?_)))))));exact⟨(BG (y+1)),_,_,c.sub (kp [100,99,101] O),d,ab,(D.trans ag),(BF _),E⟩
  refine A8 O (λu x c d=>?_);exact⟨_,_,c.sub MC,d,z,D,E⟩
 rintro u x ⟨ci,cj,c,d,an,ba,E⟩;refine AI ?_ c d;clear c d x u;rw[G1] at E;refine BV (Bz O (kp [2] O) (BS (λu x c d=>?_)));cases E;have ao:=e5.trans (H.trans (V.trans ba));exact Oo c d O O ao ⟨O,an⟩
def PX (F:St S L h) {b:ByteArray}(y:b.size≤maxLen) {r:Bool}(E:LX N b=some r):
 B0 prog 278 #[.string b] S h (λv S' h'=>v= .bool r∧St S' (L) h'):=by
 refine BA (l:=[.string b]) 54 func278 O ntmps278 O λB=>?_;rw[LX] at E;refine BV (Bz O (kp [0] O) (BI (BV (AD O (LB O LG O (DN O (AD O (AS 4 12 (.bool ((decide ((↑b.size:Int)<1))||(decide (24<(↑b.size:Int))))) ?_ ?_))))))))
 ·cases c1:(decide ((↑b.size:Int)<1))
  ·exact AM O (AD O (AM O (LB O LG O (AM O (EC O (BP O (AQ O)))))))
  exact A6 O O
 refine AD O (AS 3 16 (.bool (((decide ((↑b.size:Int)<1))||(decide (24<(↑b.size:Int))))||(b==(ByteArray.mk #[111,117,116])))) ?_ ?_)
 ·cases c2:((decide ((↑b.size:Int)<1))||(decide (24<(↑b.size:Int))))
  ·exact AM O (AD O (AM O (O8 O O O (BP O (AQ O)))))
  exact A6 O O
 refine AD O ?_;obtain⟨G,d,E⟩:=bd E;refine AS 4 21 (.bool G) ?_ ?_
 ·cases H:(((decide ((↑b.size:Int)<1))||(decide (24<(↑b.size:Int))))||(b==(ByteArray.mk #[111,117,116])))
  ·have d:=Em H d;refine AM O (AD O (AM O ?_));obtain⟨z5,t,d⟩:=bd d;have r6:=Kj t;refine Kl O O LG t O (AM O (DN O (BP O ?_)));cases d;exact AQ O
  have d:=El H d;cases d;exact A6 O O
 refine AD O ?_;obtain⟨K,g,E⟩:=bd E;refine AS 4 26 (.bool K) ?_ ?_
 ·cases I:G
  ·have g:=Em I g;refine AM O (AD O (AM O ?_));obtain⟨z9,u,g⟩:=bd g;have M:=Kj u;refine Kl O O LG u O (AM O (EC O (BP O ?_)));cases g;exact AQ O
  have g:=El I g;cases g;exact A6 O O
 refine B7 (kp [26,0] O) (AF O E (λz E=>?_) (λz E=>?_))
 ·refine BV (Bz O (kp [2] O) (BS (λo p i j=>?_)));cases E;exact Oo i j O O (B6.refl S h) ⟨O,F⟩
 refine CA (BI (BV (Bz O (kp [3,0] O) (AK (λa w=>IV B S h (54,[]) a w [] (L) λ_ _=>IH N=some r) ?_ ?_))))
 ·refine AY (λJ=>λa w=>∃(k:Int),IV B S h (54,[]) a w [(0,.string b),(3,vI k)] (L) λ_ _=>AA k∧G3 N b (IH N) J k=some r) N ?_ ?_ ?_
  ·intro o p i j;exact⟨1,_,_,i.sub (kp [0,3] O),j,F,(B6.refl S h),(iq (n:=1) O),E⟩
  ·rintro o p ⟨_,_,_,_,_,_,_,_,E⟩;rw[G3] at E;cases E
  rintro J o p ⟨k,Q,U,i,j,m,s,V,E⟩;refine AI ?_ i j;clear i j p o;rw[G3] at E;refine BI (BV (AD O (AD O (LB O LG O (DN O (B7 (kp [30,0,3] O) (AF O E (λA E=>?_) (λA E=>?_))))))))
  ·refine CA (BI (AZ (BV (AD O (AD O ?_)))));obtain⟨c,q,E⟩:=bd E;have W:=Kj q;refine Kl O O LG q O (Bz O (kp [4,0,3] O) (BV (AD O (DN O (AD O (AS 3 41 (.bool ((decide (c<97))||(decide (122<c)))) ?_ ?_))))))
   ·cases X:(decide (c<97))
    ·exact AM O (AD O (AM O (EC O (BP O (AQ O)))))
    exact A6 O O
   refine AD O (AS 7 49 (.bool (((decide (c<97))||(decide (122<c)))&&((decide (c<48))||(decide (57<c))))) ?_ ?_)
   ·cases Y:((decide (c<97))||(decide (122<c)))
    ·exact A6 O O
    refine AM O (AD O (AM O (DN O (AM O (AD O (AS 3 48 (.bool ((decide (c<48))||(decide (57<c)))) ?_ ?_))))))
    ·cases Z:(decide (c<48))
     ·exact AM O (AD O (AM O (EC O (AM O (BP O (AQ O))))))
     exact A6 O O
    exact BP O (AQ O)
   refine AD O (AS 3 53 (.bool ((((decide (c<97))||(decide (122<c)))&&((decide (c<48))||(decide (57<c))))&&(decide (c≠95)))) ?_ ?_)
   ·cases ab:(((decide (c<97))||(decide (122<c)))&&((decide (c<48))||(decide (57<c))))
    ·exact A6 O O
    exact AM O (AD O (AM O (Hs O (BP O (AQ O)))))
   refine B7 (kp [53,0,3] O) (AF O E (λC E=>?_) (λC E=>?_))
   ·refine BV (Bz O (kp [2] O) (BS (λo p i j=>?_)));cases E;exact Oo i j O O s ⟨O,m⟩
   refine CA (BD (EF (.inl O) (AD O (DK O (Bz O (kp [3,0] O) (WF.nil (λo p i j=>?_)))))));exact⟨(BG (k+1)),_,_,i.sub (kp [0,3] O),j,m,s,(BF _),E⟩
  refine A8 O (λo p i j=>?_);exact⟨_,_,i.sub MC,j,m,s,E⟩
 rintro o p ⟨ac,ad,i,j,x,D,E⟩;refine AI ?_ i j;clear i j p o;rw[IH] at E;refine BV (Bz O (kp [2] O) (BS (λo p i j=>?_)));cases E;exact Oo i j O O D ⟨O,x⟩
def P0 {c:Nat}{d:(List (AG×Bool))}(F:St S (MP (λk:AG=>Value.agg (AG.v k).toArray) Value.bool c d::L) h) {g:ByteArray}(i:g.size≤maxLen) {b:ByteArray}(j:b.size≤maxLen) {r:Bool×(List (AG×Bool))}(E:L5 N d g b=some r):
 B0 prog 231 #[.map (some c),.string g,.string b] S h (λv S' h'=>v= .bool r.1∧St S' (MP (λk:AG=>Value.agg (AG.v k).toArray) Value.bool c r.2::L) h'):=by
 refine BA 23 func231 O ntmps231 O λB=>?_;rw[L5] at E;refine AU ?_;refine O8 O O O (AU ?_);refine EZ (λa w=>∃(l:ByteArray),IV B S h (23,[]) a w [(0,.map (some c)),(2,.string b),(1,.string l)] (MP (λk:AG=>Value.agg (AG.v k).toArray) Value.bool c d::L) λ_ _=>l.size≤maxLen∧Ix N d b l=some r) ?_ ?_
 ·refine AF O E (λH E=>?_) (λH E=>?_)
  ·refine AU ?_;refine WF.nil (λy A p q=>?_);exact⟨(ByteArray.mk #[116,111,119,110]),_,_,p.sub (kp [0,2,1] O),q,F,(B6.refl S h),(by decide),E⟩
  refine AU ?_;refine WF.nil (λy A p q=>?_);exact⟨g,_,_,p.sub (kp [0,2,1] O),q,F,(B6.refl S h),i,E⟩
 rintro y A ⟨l,X,Y,p,q,C,Z,r2,E⟩;refine AI ?_ p q;clear p q A y;rw[Ix] at E;refine AU ?_;refine Dd (cs:=[.string l,.string b]) Ya O O O (AU ?_);refine CG YK O C λb8 h9 s I=>?_;refine CV O O O O ty_353.1 O s .head O λJ m K=>AU ?_;refine BZ (.inl O) m (AU ?_);refine BC E O O O ZC O (λn t h' o=>PX (St.all h') j t) λn E=>AU ?_;refine AS 4 20 (.bool ((!n)||((ML (λk:AG=>Value.agg (AG.v k).toArray) d (⟨l,b⟩:AG)).getD false))) ?_ ?_
 ·cases M:(!n)
  ·refine AU ?_;refine Tk (k0:=(⟨l,b⟩:AG)) (z:=false) Lr m (mt mh) O O VL UC eH O O (AU ?_);exact AQ O
  exact A6 O O
 refine BL (kp [20,7,0] O) λQ u U=>AF O E (λD E=>?_) (λD E=>?_)
 ·exact RT
 refine AU ?_;exact Tm (k0:=(⟨l,b⟩:AG)) (x:=true) u (.tail .head) O O O VL UC λV G W=>RT
def C7 {d:Nat}{c2_:(List (AG×Bool))}{a:Nat}{g:Nat}{c3_:Bool}(s:St S (Bx d 319 [.map (some a)]::MP (λk:AG=>Value.agg (AG.v k).toArray) Value.bool a c2_::Bx g 4 [.bool c3_]::L) h) {b:ByteArray}(i:b.size≤maxLen) {c:ByteArray}(j:c.size≤maxLen) {r:(List (AG×Bool))×Bool}(E:Cm N c2_ c3_ b c=some r):
 B0 prog 230 #[.string b,.string c,vP d 0,vP g 0] S h (λv S' h'=>v= .tuple #[]∧St S' (Bx d 319 [.map (some a)]::MP (λk:AG=>Value.agg (AG.v k).toArray) Value.bool a r.1::Bx g 4 [.bool r.2]::L) h'):=by
 refine BA 13 func230 O ntmps230 O λB=>?_;rw[Cm] at E;refine B5 (AU ?_);have n:=s.pick (.tail .head);refine BR E O O O ZP O (λt o=>P0 n i j o) λt E y z A C p=>?_;obtain⟨rfl,q⟩:=p;refine AU ?_;refine CV O O O O ty_4.1 O q (.tail (.tail .head)) O λD l u=>AU ?_;refine WF.nil (λF G w x=>?_);have m:=l.sel [1,0,0] 0 O;cases E;exact Hk w O x Hj O EX ⟨O,m⟩
def Nf (hs:St S L h) {M:Value}{b:AO}(bc:Rd S h BW M b) {r:Bool}(E:Ji N b=some r):
 B0 prog 176 #[M] S h (λv S' h'=>v= .bool r∧St S' (L) h'):=by
 refine BA 106 func176 O ntmps176 O λB=>?_;rw[Ji] at E;refine AU ?_;refine B4 O bc CE O hs λq1 S2 h3 e8 e5 k6=>AU ?_;refine We (K:=0) (E:=0) O e8 (λk:AG=>Value.agg (AG.v k).toArray) Value.bool λm h8 e9 jp=>CG YN O e9 λl jq c4 jr=>?_;refine CV O O O O ty_319.1 O c4 .head O λjs c5 jt=>AU ?_;refine CG eI O c5 λc ju c6 jv=>?_;refine CV O O O O ty_4.1 O c6 .head O λbt c7 jw=>AU ?_;refine Nk O O O ?_;have c8:=k6.nw;have fa:=c8.fl Fp;obtain⟨fb,_,fc⟩:=fa.ll;refine AU ?_;refine AK (λa w=>∃(be:Bool) (bf:(List (AG×Bool))),IV B S2 bt (106,[]) a w [(5,.func (.func 230) #[] #[vP l 0,vP c 0]),(4,vP c 0),(1,q1)] (Bx c 4 [.bool be]::Bx l 319 [.map (some m)]::MP (λk:AG=>Value.agg (AG.v k).toArray) Value.bool m bf::L) λ_ _=>GW N b be bf=some r) ?_ ?_
 ·refine AY (λn1=>λa w=>∃(ah:Int) (ai:Bool) (aj:(List (AG×Bool))),IV B S2 bt (106,[]) a w [(24,vI (↑b.I.length:Int)),(23,fb),(5,.func (.func 230) #[] #[vP l 0,vP c 0]),(4,vP c 0),(1,q1),(25,vI ah)] (Bx c 4 [.bool ai]::Bx l 319 [.map (some m)]::MP (λk:AG=>Value.agg (AG.v k).toArray) Value.bool m aj::L) λ_ _=>AA ah∧Ey N b (GW N b) n1 ah ai aj=some r) N ?_ ?_ ?_
  ·intro i j d g;exact⟨0,true,([]:(List (AG×Bool))),_,_,d.sub (kp [24,23,5,4,1,25] O),g,c7,(B6.refl S2 bt),(iq (n:=0) O),E⟩
  ·rintro i j ⟨_,_,_,_,_,_,_,_,_,_,E⟩;rw[Ey] at E;cases E
  rintro n1 i j ⟨ah,ai,aj,jx,jy,d,g,bi,c9,jz,E⟩;refine AI ?_ d g;clear d g j i;rw[Ey] at E;refine AU ?_;refine AF O E (λfd E=>?_) (λfd E=>?_)
  ·refine AU ?_;refine AZ (AU ?_);have fe:=fc.mono' c9;refine A9 E O O fe sl_22.1 O λj0 E j1 ff=>?_;have fg:=ff.sz;refine AU ?_;refine B5 (AU ?_);have da:=bi.sel [1,1,0] 0 O;refine BR E O O O Oc O (λbu db=>C7 (c2_:=aj) (c3_:=ai) da (by decide) fg db) λbu E j2 j3 j4 j5 p=>?_;obtain⟨rfl,dc⟩:=p;refine AU ?_;refine BD (AU ?_);refine WF.nil (λi j d g=>?_);have dd:=dc.sel [2,0,0] 0 O;exact⟨(BG (ah+1)),bu.2,bu.1,_,_,d.sub (kp [24,23,5,4,1,25] O),g,dd,EX,(BF _),E⟩
  refine A8 O (λi j d g=>?_);exact⟨ai,aj,_,_,d.sub (kp [5,4,1] O),g,bi,c9,E⟩
 rintro i j ⟨be,bf,bv,bw,d,g,de,fh,E⟩;refine AI ?_ d g;clear d g j i;rw[GW] at E;have df:=c8.mono fh;have fi:=df.fl B3;obtain⟨fj,_,fk⟩:=fi.ll;refine AU ?_;refine AK (λa w=>∃(bg:Bool) (bh:(List (AG×Bool))),IV B bv bw (106,[]) a w [(5,.func (.func 230) #[] #[vP l 0,vP c 0]),(4,vP c 0),(1,q1)] (Bx c 4 [.bool bg]::Bx l 319 [.map (some m)]::MP (λk:AG=>Value.agg (AG.v k).toArray) Value.bool m bh::L) λ_ _=>GV N b bg bh=some r) ?_ ?_
 ·refine AY (λn3=>λa w=>∃(ak:Int) (am:Bool) (an:(List (AG×Bool))),IV B bv bw (106,[]) a w [(35,vI (↑b.E.length:Int)),(34,fj),(5,.func (.func 230) #[] #[vP l 0,vP c 0]),(4,vP c 0),(1,q1),(36,vI ak)] (Bx c 4 [.bool am]::Bx l 319 [.map (some m)]::MP (λk:AG=>Value.agg (AG.v k).toArray) Value.bool m an::L) λ_ _=>AA ak∧Ex N b (GV N b) n3 ak am an=some r) N ?_ ?_ ?_
  ·intro i j d g;exact⟨0,be,bf,_,_,d.sub (kp [35,34,5,4,1,36] O),g,de,(B6.refl bv bw),(iq (n:=0) O),E⟩
  ·rintro i j ⟨_,_,_,_,_,_,_,_,_,_,E⟩;rw[Ex] at E;cases E
  rintro n3 i j ⟨ak,am,an,j6,j7,d,g,bj,dg,j8,E⟩;refine AI ?_ d g;clear d g j i;rw[Ex] at E;refine AU ?_;refine AF O E (λfm E=>?_) (λfm E=>?_)
  ·refine AU ?_;refine AZ (AU ?_);have fn:=fk.mono' dg;refine A9 E O O fn sl_23.1 O λj9 E ka fo=>?_;obtain⟨kb,_,fp⟩:=fo.lv;refine AU ?_;refine CG Lv O bj λkc kd dh fq=>?_;have fr:=fp.mono fq;obtain⟨fu,fv,fw,rfl,fs,ke,kf,fx,fy,fz,f0,f1,f2,f3,f4,f5⟩:=BX.ex fr;refine Dj O O O ON ty_101.1 O dh .head O λf6 bx f7=>AU ?_;refine B5 (AU ?_);have bz:=bx.sel [2,2,1,0] 0 O;refine BR E O O O Oc O (λao b0=>C7 (c2_:=an) (c3_:=am) bz (by decide) fs b0) λao E f8 f9 ga gb p=>?_;obtain⟨rfl,b1⟩:=p;refine AU ?_;refine BD (AU ?_);refine WF.nil (λi j d g=>?_);have b2:=b1.sel [2,0,0] 1 O;exact⟨(BG (ak+1)),ao.2,ao.1,_,_,d.sub (kp [35,34,5,4,1,36] O),g,b2,EX,(BF _),E⟩
  refine A8 O (λi j d g=>?_);exact⟨am,an,_,_,d.sub (kp [5,4,1] O),g,bj,dg,E⟩
 rintro i j ⟨bg,bh,ap,aq,d,g,b3,di,E⟩;refine AI ?_ d g;clear d g j i;rw[GV] at E;have bk:=df.mono di;have dj:=bk.fl Ec;obtain⟨dk,_,dl⟩:=dj.ll;refine AU ?_;refine AK (λa w=>∃(Q:Bool) (V:(List (AG×Bool))),IV B ap aq (106,[]) a w [(5,.func (.func 230) #[] #[vP l 0,vP c 0]),(4,vP c 0),(1,q1)] (Bx c 4 [.bool Q]::Bx l 319 [.map (some m)]::MP (λk:AG=>Value.agg (AG.v k).toArray) Value.bool m V::L) λ_ _=>GU N b Q V=some r) ?_ ?_
 ·refine AY (λn5=>λa w=>∃(o:Int) (q:Bool) (s:(List (AG×Bool))),IV B ap aq (106,[]) a w [(47,vI (↑b.J.length:Int)),(46,dk),(5,.func (.func 230) #[] #[vP l 0,vP c 0]),(4,vP c 0),(1,q1),(48,vI o)] (Bx c 4 [.bool q]::Bx l 319 [.map (some m)]::MP (λk:AG=>Value.agg (AG.v k).toArray) Value.bool m s::L) λ_ _=>AA o∧Ew N b (GU N b) n5 o q s=some r) N ?_ ?_ ?_
  ·intro i j d g;exact⟨0,bg,bh,_,_,d.sub (kp [47,46,5,4,1,48] O),g,b3,(B6.refl ap aq),(iq (n:=0) O),E⟩
  ·rintro i j ⟨_,_,_,_,_,_,_,_,_,_,E⟩;rw[Ew] at E;cases E
  rintro n5 i j ⟨o,q,s,gc,gd,d,g,ar,bl,ge,E⟩;refine AI ?_ d g;clear d g j i;rw[Ew] at E;refine AU ?_;refine AF O E (λdm E=>?_) (λdm E=>?_)
  ·refine AU ?_;refine AZ (AU ?_);have dn:=dl.mono' bl;refine A9 E O O dn sl_24.1 O λgf E gg dp=>?_;obtain⟨gh,_,dq⟩:=dp.lv;refine AU ?_;refine CG NC O ar λgi gj b4 dr=>?_;have ds:=dq.mono dr;obtain⟨gk,gl,gm,rfl,dt,gn,gp,gq,gr,gs,gt,gu,gv,gw,gx,gy,gz,g0,g1,g2,g3,g4⟩:=Bu.ex ds;refine Dj O O O ON ty_117.1 O b4 .head O λg5 b5 g6=>AU ?_;refine B5 (AU ?_);have b6:=b5.sel [2,2,1,0] 0 O;refine BR E O O O Oc O (λau b8=>C7 (c2_:=s) (c3_:=q) b6 (by decide) dt b8) λau E g7 g8 g9 ha p=>?_;obtain⟨rfl,b9⟩:=p;refine AU ?_;refine BD (AU ?_);refine WF.nil (λi j d g=>?_);have ca:=b9.sel [2,0,0] 1 O;exact⟨(BG (o+1)),au.2,au.1,_,_,d.sub (kp [47,46,5,4,1,48] O),g,ca,EX,(BF _),E⟩
  refine A8 O (λi j d g=>?_);exact⟨q,s,_,_,d.sub (kp [5,4,1] O),g,ar,bl,E⟩
 rintro i j ⟨Q,V,av,aw,d,g,cb,du,E⟩;refine AI ?_ d g;clear d g j i;rw[GU] at E;have bm:=bk.mono du;have dv:=bm.fl Id;obtain⟨dw,_,dx⟩:=dv.ll;refine AU ?_;refine AK (λa w=>∃(X:Bool) (ab:(List (AG×Bool))),IV B av aw (106,[]) a w [(5,.func (.func 230) #[] #[vP l 0,vP c 0]),(4,vP c 0),(1,q1)] (Bx c 4 [.bool X]::Bx l 319 [.map (some m)]::MP (λk:AG=>Value.agg (AG.v k).toArray) Value.bool m ab::L) λ_ _=>GT N b X ab=some r) ?_ ?_
 ·refine AY (λn7=>λa w=>∃(t:Int) (u:Bool) (x:(List (AG×Bool))),IV B av aw (106,[]) a w [(59,vI (↑b.U.length:Int)),(58,dw),(5,.func (.func 230) #[] #[vP l 0,vP c 0]),(4,vP c 0),(1,q1),(60,vI t)] (Bx c 4 [.bool u]::Bx l 319 [.map (some m)]::MP (λk:AG=>Value.agg (AG.v k).toArray) Value.bool m x::L) λ_ _=>AA t∧Ev N b (GT N b) n7 t u x=some r) N ?_ ?_ ?_
  ·intro i j d g;exact⟨0,Q,V,_,_,d.sub (kp [59,58,5,4,1,60] O),g,cb,(B6.refl av aw),(iq (n:=0) O),E⟩
  ·rintro i j ⟨_,_,_,_,_,_,_,_,_,_,E⟩;rw[Ev] at E;cases E
  rintro n7 i j ⟨t,u,x,hb,hc,d,g,ax,bn,hd,E⟩;refine AI ?_ d g;clear d g j i;rw[Ev] at E;refine AU ?_;refine AF O E (λdy E=>?_) (λdy E=>?_)
  ·refine AU ?_;refine AZ (AU ?_);have dz:=dx.mono' bn;refine A9 E O O dz sl_25.1 O λhe E hg d0=>?_;obtain⟨hh,_,d1⟩:=d0.lv;refine AU ?_;refine CG VF O ax λhi hj cc d2=>?_;have d3:=d1.mono d2;obtain⟨rfl,⟨d4,hk,hl,hm,hn,ho,hp⟩⟩:=DL.ex d3;refine CV O O O O ty_139.1 O cc .head O λhq cd hr=>AU ?_;refine B5 (AU ?_);have ce:=cd.sel [2,2,1,0] 0 O;refine BR E O O O Oc O (λay cf=>C7 (c2_:=x) (c3_:=u) ce (by decide) d4 cf) λay E ht hu hv hx p=>?_;obtain⟨rfl,cg⟩:=p;refine AU ?_;refine BD (AU ?_);refine WF.nil (λi j d g=>?_);have ch:=cg.sel [2,0,0] 1 O;exact⟨(BG (t+1)),ay.2,ay.1,_,_,d.sub (kp [59,58,5,4,1,60] O),g,ch,EX,(BF _),E⟩
  refine A8 O (λi j d g=>?_);exact⟨u,x,_,_,d.sub (kp [5,4,1] O),g,ax,bn,E⟩
 rintro i j ⟨X,ab,az,a0,d,g,ci,d5,E⟩;refine AI ?_ d g;clear d g j i;rw[GT] at E;have bo:=bm.mono d5;have d6:=bo.fl IM;obtain⟨d7,_,d8⟩:=d6.ll;refine AU ?_;refine AK (λa w=>∃(ac:Bool) (ad:(List (AG×Bool))),IV B az a0 (106,[]) a w [(5,.func (.func 230) #[] #[vP l 0,vP c 0]),(4,vP c 0),(1,q1)] (Bx c 4 [.bool ac]::Bx l 319 [.map (some m)]::MP (λk:AG=>Value.agg (AG.v k).toArray) Value.bool m ad::L) λ_ _=>GS N b ac ad=some r) ?_ ?_
 ·refine AY (λn9=>λa w=>∃(y:Int) (z:Bool) (A:(List (AG×Bool))),IV B az a0 (106,[]) a w [(71,vI (↑b.Z.length:Int)),(70,d7),(5,.func (.func 230) #[] #[vP l 0,vP c 0]),(4,vP c 0),(1,q1),(72,vI y)] (Bx c 4 [.bool z]::Bx l 319 [.map (some m)]::MP (λk:AG=>Value.agg (AG.v k).toArray) Value.bool m A::L) λ_ _=>AA y∧Eu N b (GS N b) n9 y z A=some r) N ?_ ?_ ?_
  ·intro i j d g;exact⟨0,X,ab,_,_,d.sub (kp [71,70,5,4,1,72] O),g,ci,(B6.refl az a0),(iq (n:=0) O),E⟩
  ·rintro i j ⟨_,_,_,_,_,_,_,_,_,_,E⟩;rw[Eu] at E;cases E
  rintro n9 i j ⟨y,z,A,hy,hz,d,g,a1,bp,h0,E⟩;refine AI ?_ d g;clear d g j i;rw[Eu] at E;refine AU ?_;refine AF O E (λd9 E=>?_) (λd9 E=>?_)
  ·refine AU ?_;refine AZ (AU ?_);have ea:=d8.mono' bp;refine A9 E O O ea sl_28.1 O λh1 E h2 eb=>?_;obtain⟨h4,_,ec⟩:=eb.lv;refine AU ?_;refine CG VD O a1 λh5 h6 cj ed=>?_;have ee:=ec.mono ed;obtain⟨rfl,⟨ef,h7⟩⟩:=Cd.ex ee;refine CV O O O O ty_215.1 O cj .head O λh9 ck ia=>AU ?_;refine B5 (AU ?_);have cl:=ck.sel [2,2,1,0] 0 O;refine BR E O O O Oc O (λa2 cm=>C7 (c2_:=A) (c3_:=z) cl (by decide) ef cm) λa2 E ib ic id ie p=>?_;obtain⟨rfl,cn⟩:=p;refine AU ?_;refine BD (AU ?_);refine WF.nil (λi j d g=>?_);have co:=cn.sel [2,0,0] 1 O;exact⟨(BG (y+1)),a2.2,a2.1,_,_,d.sub (kp [71,70,5,4,1,72] O),g,co,EX,(BF _),E⟩
  refine A8 O (λi j d g=>?_);exact⟨z,A,_,_,d.sub (kp [5,4,1] O),g,a1,bp,E⟩
 rintro i j ⟨ac,ad,a3,a4,d,g,cp,eg,E⟩;refine AI ?_ d g;clear d g j i;rw[GS] at E;have bq:=bo.mono eg;have eh:=bq.fl JY;obtain⟨ei,_,ej⟩:=eh.ll;refine AU ?_;refine AK (λa w=>∃(ae:Bool) (af:(List (AG×Bool))),IV B a3 a4 (106,[]) a w [(5,.func (.func 230) #[] #[vP l 0,vP c 0]),(4,vP c 0),(1,q1)] (Bx c 4 [.bool ae]::Bx l 319 [.map (some m)]::MP (λk:AG=>Value.agg (AG.v k).toArray) Value.bool m af::L) λ_ _=>F6 N b ae af=some r) ?_ ?_
 ·refine AY (λek=>λa w=>∃(C:Int) (D:Bool) (F:(List (AG×Bool))),IV B a3 a4 (106,[]) a w [(83,vI (↑b.W.length:Int)),(82,ei),(5,.func (.func 230) #[] #[vP l 0,vP c 0]),(4,vP c 0),(1,q1),(84,vI C)] (Bx c 4 [.bool D]::Bx l 319 [.map (some m)]::MP (λk:AG=>Value.agg (AG.v k).toArray) Value.bool m F::L) λ_ _=>AA C∧EW N b (F6 N b) ek C D F=some r) N ?_ ?_ ?_
  ·intro i j d g;exact⟨0,ac,ad,_,_,d.sub (kp [83,82,5,4,1,84] O),g,cp,(B6.refl a3 a4),(iq (n:=0) O),E⟩
  ·rintro i j ⟨_,_,_,_,_,_,_,_,_,_,E⟩;rw[EW] at E;cases E
  rintro ek i j ⟨C,D,F,ig,ih,d,g,a5,br,ii,E⟩;refine AI ?_ d g;clear d g j i;rw[EW] at E;refine AU ?_;refine AF O E (λel E=>?_) (λel E=>?_)
  ·refine AU ?_;refine AZ (AU ?_);have em:=ej.mono' br;refine A9 E O O em sl_26.1 O λij E ik en=>?_;obtain⟨il,_,eo⟩:=en.lv;refine AU ?_;refine CG VC O a5 λim io cq ep=>?_;have eq:=eo.mono ep;obtain⟨rfl,⟨er,ip,ir,it,iu⟩⟩:=Cw.ex eq;refine CV O O O O ty_217.1 O cq .head O λiv cr iw=>AU ?_;refine B5 (AU ?_);have cs:=cr.sel [2,2,1,0] 0 O;refine BR E O O O Oc O (λa6 ct=>C7 (c2_:=F) (c3_:=D) cs (by decide) er ct) λa6 E iy iz i0 i1 p=>?_;obtain⟨rfl,cu⟩:=p;refine AU ?_;refine BD (AU ?_);refine WF.nil (λi j d g=>?_);have cv:=cu.sel [2,0,0] 1 O;exact⟨(BG (C+1)),a6.2,a6.1,_,_,d.sub (kp [83,82,5,4,1,84] O),g,cv,EX,(BF _),E⟩
  refine A8 O (λi j d g=>?_);exact⟨D,F,_,_,d.sub (kp [5,4,1] O),g,a5,br,E⟩
 rintro i j ⟨ae,af,a7,a8,d,g,cw,es,E⟩;refine AI ?_ d g;clear d g j i;rw[F6] at E;have eu:=bq.mono es;have ev:=eu.fl KK;obtain⟨ew,_,ey⟩:=ev.ll;refine AU ?_;refine AK (λa w=>∃(a9:Bool),IV B a7 a8 (106,[]) a w [(4,vP c 0)] (Bx c 4 [.bool a9]::L) λ_ _=>F5 N a9=some r) ?_ ?_
 ·refine AY (λez=>λa w=>∃(G:Int) (H:Bool) (ag:(List (AG×Bool))),IV B a7 a8 (106,[]) a w [(95,vI (↑b.Y.length:Int)),(94,ew),(5,.func (.func 230) #[] #[vP l 0,vP c 0]),(4,vP c 0),(96,vI G)] (Bx c 4 [.bool H]::Bx l 319 [.map (some m)]::MP (λk:AG=>Value.agg (AG.v k).toArray) Value.bool m ag::L) λ_ _=>AA G∧EV N b (F5 N) ez G H ag=some r) N ?_ ?_ ?_
  ·intro i j d g;exact⟨0,ae,af,_,_,d.sub (kp [95,94,5,4,96] O),g,cw,(B6.refl a7 a8),(iq (n:=0) O),E⟩
  ·rintro i j ⟨_,_,_,_,_,_,_,_,_,_,E⟩;rw[EV] at E;cases E
  rintro ez i j ⟨G,H,ag,i2,i3,d,g,ba,bs,i4,E⟩;refine AI ?_ d g;clear d g j i;rw[EV] at E;refine AU ?_;refine AF O E (λe0 E=>?_) (λe0 E=>?_)
  ·refine AU ?_;refine AZ (AU ?_);have e1:=ey.mono' bs;refine A9 E O O e1 sl_27.1 O λi5 E i6 e2=>?_;obtain⟨i7,_,e3⟩:=e2.lv;refine AU ?_;refine CG VB O ba λi8 i9 cx e4=>?_;have e6:=e3.mono e4;obtain⟨rfl,⟨e7,ja,jb,jc,jd,je,jf⟩⟩:=DM.ex e6;refine CV O O O O ty_219.1 O cx .head O λjg cy jh=>AU ?_;refine B5 (AU ?_);have cz:=cy.sel [2,2,1,0] 0 O;refine BR E O O O Oc O (λbb c0=>C7 (c2_:=ag) (c3_:=H) cz (by decide) e7 c0) λbb E ji jj jk jl p=>?_;obtain⟨rfl,c1⟩:=p;refine AU ?_;refine BD (AU ?_);refine WF.nil (λi j d g=>?_);have c2:=c1.sel [2,0,0] 1 O;exact⟨(BG (G+1)),bb.2,bb.1,_,_,d.sub (kp [95,94,5,4,96] O),g,c2,EX,(BF _),E⟩
  refine A8 O (λi j d g=>?_);have c3:=ba.sel [0] 2 O;exact⟨H,_,_,d.sub (kp [4] O),g,c3,bs,E⟩
 rintro i j ⟨a9,jm,jn,d,g,ft,jo,E⟩;refine AI ?_ d g;clear d g j i;rw[F5] at E;exact RT
end Go.Proofs.YtedgiljmffngoaaGreat
