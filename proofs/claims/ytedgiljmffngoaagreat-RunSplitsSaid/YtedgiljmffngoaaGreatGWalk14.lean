import Derived.Test.YtedgiljmffngoaaGreatGInst
import Derived.Test.YtedgiljmffngoaaGreatGForms
import Derived.Test.YtedgiljmffngoaaGreatGWalk1
import Derived.Test.YtedgiljmffngoaaGreatGWalk5
namespace Go.Proofs.YtedgiljmffngoaaGreat
set_option linter.all false
open Go.RowKit
open Go.Proofs.Tryz
set_option maxRecDepth 10000
set_option maxHeartbeats 2000000
variable {N:Nat}{S:Nat→Prop}{L:List HP}{h:AW}
def B8 (j:St S L h) {c:Int}(i:AA c) {b:Int}(g:AA b) {a:Int}(d:AA a) {r:Bool}(E:CV N c b a=some r):
 B0 prog 228 #[vI c,vI b,vI a] S h (λv S' h'=>v= .bool r∧St S' (L) h'):=by
 refine BA 15 func228 O ntmps228 O λB=>?_;rw[CV] at E;exact RT
def CH (d:St S L h) {a:Int}(b:AA a) {r:Bool}(E:CJ N a=some r):
 B0 prog 229 #[vI a] S h (λv S' h'=>v= .bool r∧St S' (L) h'):=by
 refine BA 5 func229 O ntmps229 O λB=>?_;rw[CJ] at E;refine AU ?_;refine BX (.inl O) d (AU ?_);refine A8 E O O O G3 O (λg c h' o=>B8 (St.all h') b (iq (n:=0) O) (iq (n:=1125899906842624) O) c) λg E=>AU ?_;exact BK (kp [2] O) λj i k=>RT
def PH (hs:St S L h) {t:Value}{b:AF}(V:Rd S h BO t b) {r:Bool}(E:IT N b=some r):
 B0 prog 175 #[t] S h (λv S' h'=>v= .bool r∧St S' (L) h'):=by
 refine BA (l:=[t]) 109 func175 O ntmps175 O λB=>?_;rw[IT] at E;refine WF.sl (By O V (λe=>by cases e) O hs λq1 S2 h3 s e5 D=>Ku 1 (KQ O (Ks (LF.nil (kp [1] O) (Cy (Cy (BX (.inl O) s (Lv O D AF.f_Name fa_31_0.1 O λq7 k8=>SW NI s.1 O k8 ty_9.1 O λr9=>L0 O MB O (I9 O (BP O ?_))))))))));obtain⟨aj,j,E⟩:=bd E;refine AY 6 17 (.bool aj) ?_ ?_
 ·cases ak:(decide (500<(↑b.I.size:Int)))
  ·have j:=GW ak j;refine BY O (Lv O D HW fa_31_1.1 O λce a5=>BY O (If NI s.1 O a5 ty_22.1 O λcf a6=>BY O (M1 O a6 sl_22.1 O λa7=>BY O ?_)));obtain⟨cg,al,j⟩:=bd j;refine Kt O O O G3 O (λh' o=>B8 (St.all h') (Je a7) (iq (n:=1) O) (iq (n:=16) O) al) (BY O (O6 O (Eo O ?_)));cases j;exact A0 O
  have j:=GV ak j;cases j;exact BF O O
 refine BP O ?_;obtain⟨am,k,E⟩:=bd E;refine AY 5 23 (.bool am) ?_ ?_
 ·cases an:aj
  ·have k:=GW an k;refine BY O (Lv O D Mf fa_31_2.1 O λch a8=>BY O (F8 NI s.1 O a8 ty_3.1 O λa9=>BY O ?_));obtain⟨ci,ao,k⟩:=bd k;refine Kt O O O G3 O (λh' o=>B8 (St.all h') a9 (iq (n:=0) O) (iq (n:=64) O) ao) (BY O (O6 O (Eo O ?_)));cases k;exact A0 O
  have k:=GV an k;cases k;exact BF O O
 refine BP O ?_;obtain⟨i,m,E⟩:=bd E;refine AY 6 30 (.bool i) ?_ ?_
 ·cases ap:am
  ·have m:=GW ap m;refine BY O (Lv O D B4 fa_31_3.1 O λcj ba=>BY O (If NI s.1 O ba ty_23.1 O λck bb=>BY O (M1 O bb sl_23.1 O λbc=>BY O ?_)));obtain⟨cl,aq,m⟩:=bd m;refine Kt O O O G3 O (λh' o=>B8 (St.all h') (Je bc) (iq (n:=1) O) (iq (n:=64) O) aq) (BY O (O6 O (Eo O ?_)));cases m;exact A0 O
  have m:=GV ap m;cases m;exact BF O O
 refine BP O (AY 5 36 (.bool (i||(decide (96<(↑b.E.length:Int))))) ?_ ?_)
 ·cases cm:i
  ·exact BY O (Lv O D Gh fa_31_4.1 O λcn be=>BY O (If NI s.1 O be ty_24.1 O λco bf=>BY O (M1 O bf sl_24.1 O λcp=>BY O (I9 O (Eo O (A0 O))))))
  exact BF O O
 refine BP O (AY 5 42 (.bool ((i||(decide (96<(↑b.E.length:Int))))||(decide (40<(↑b.Ab.length:Int))))) ?_ ?_)
 ·cases cq:(i||(decide (96<(↑b.E.length:Int))))
  ·exact BY O (Lv O D Jc fa_31_5.1 O λcr bg=>BY O (If NI s.1 O bg ty_25.1 O λcs bh=>BY O (M1 O bh sl_25.1 O λct=>BY O (I9 O (Eo O (A0 O))))))
  exact BF O O
 refine BP O (AY 5 48 (.bool (((i||(decide (96<(↑b.E.length:Int))))||(decide (40<(↑b.Ab.length:Int))))||(decide (128<(↑b.Ad.length:Int))))) ?_ ?_)
 ·cases cu:((i||(decide (96<(↑b.E.length:Int))))||(decide (40<(↑b.Ab.length:Int))))
  ·exact BY O (Lv O D KF fa_31_6.1 O λcv bi=>BY O (If NI s.1 O bi ty_26.1 O λcw bj=>BY O (M1 O bj sl_26.1 O λcx=>BY O (I9 O (Eo O (A0 O))))))
  exact BF O O
 refine BP O (AY 5 54 (.bool ((((i||(decide (96<(↑b.E.length:Int))))||(decide (40<(↑b.Ab.length:Int))))||(decide (128<(↑b.Ad.length:Int))))||(decide (128<(↑b.Ae.length:Int))))) ?_ ?_)
 ·cases cy:(((i||(decide (96<(↑b.E.length:Int))))||(decide (40<(↑b.Ab.length:Int))))||(decide (128<(↑b.Ad.length:Int))))
  ·exact BY O (Lv O D Kx fa_31_7.1 O λcz bk=>BY O (If NI s.1 O bk ty_27.1 O λc0 bl=>BY O (M1 O bl sl_27.1 O λc1=>BY O (I9 O (Eo O (A0 O))))))
  exact BF O O
 refine BP O (AY 5 60 (.bool (((((i||(decide (96<(↑b.E.length:Int))))||(decide (40<(↑b.Ab.length:Int))))||(decide (128<(↑b.Ad.length:Int))))||(decide (128<(↑b.Ae.length:Int))))||(decide (40<(↑b.Ag.length:Int))))) ?_ ?_)
 ·cases c2:((((i||(decide (96<(↑b.E.length:Int))))||(decide (40<(↑b.Ab.length:Int))))||(decide (128<(↑b.Ad.length:Int))))||(decide (128<(↑b.Ae.length:Int))))
  ·exact BY O (Lv O D JR fa_31_8.1 O λc3 bm=>BY O (If NI s.1 O bm ty_28.1 O λc4 bn=>BY O (M1 O bn sl_28.1 O λc5=>BY O (I9 O (Eo O (A0 O))))))
  exact BF O O
 refine BP O (AY 5 66 (.bool ((((((i||(decide (96<(↑b.E.length:Int))))||(decide (40<(↑b.Ab.length:Int))))||(decide (128<(↑b.Ad.length:Int))))||(decide (128<(↑b.Ae.length:Int))))||(decide (40<(↑b.Ag.length:Int))))||(decide ((↑b.Ak.length:Int)≠3)))) ?_ ?_)
 ·cases c6:(((((i||(decide (96<(↑b.E.length:Int))))||(decide (40<(↑b.Ab.length:Int))))||(decide (128<(↑b.Ad.length:Int))))||(decide (128<(↑b.Ae.length:Int))))||(decide (40<(↑b.Ag.length:Int))))
  ·exact BY O (Lv O D AF.f_Room fa_31_9.1 O λc7 bo=>BY O (If NI s.1 O bo ty_29.1 O λc8 bp=>BY O (M1 O bp sl_29.1 O λc9=>BY O (Rg O (Eo O (A0 O))))))
  exact BF O O
 refine BP O ?_;obtain⟨bq,p,E⟩:=bd E;refine AY 5 72 (.bool bq) ?_ ?_
 ·cases ar:((((((i||(decide (96<(↑b.E.length:Int))))||(decide (40<(↑b.Ab.length:Int))))||(decide (128<(↑b.Ad.length:Int))))||(decide (128<(↑b.Ae.length:Int))))||(decide (40<(↑b.Ag.length:Int))))||(decide ((↑b.Ak.length:Int)≠3)))
  ·have p:=GW ar p;refine BY O (Lv O D AF.f_Err fa_31_10.1 O λda br=>BY O (F8 NI s.1 O br ty_3.1 O λbs=>BY O ?_));obtain⟨db,au,p⟩:=bd p;refine Kt O O O G3 O (λh' o=>B8 (St.all h') bs (iq (n:=0) O) (iq (n:=1099511627776) O) au) (BY O (O6 O (Eo O ?_)));cases p;exact A0 O
  have p:=GV ar p;cases p;exact BF O O
 refine BK (kp [72,1] O) λab F G=>AH O E (λbt E=>?_) (λbt E=>?_)
 ·refine DQ (Dm O (kp [2] O) (Bu (λu x c d=>?_)));cases E;exact TC c d O O (e5.trans G) ⟨O,F⟩
 refine Fy (Cy (DQ ?_));have ac:=D.mono G;refine Lv O ac AF.f_Name fa_31_0.1 O λdc bu=>SW K9 F.1 O bu ty_9.1 O λdd=>L0 O MB O (BP O (E3 (kp [76,75,1] O) (AO (λa w=>IV B S2 ab (109,[]) a w [(1,q1)] (L) λ_ _=>EF N b=some r) ?_ ?_)))
 ·refine A4 (λn1=>λa w=>∃(H:Int),IV B S2 ab (109,[]) a w [(75,vI (↑b.I.size:Int)),(1,q1),(76,vI H)] (L) λ_ _=>AA H∧EE N b (EF N b) n1 H=some r) N ?_ ?_ ?_
  ·intro u x c d;exact⟨0,_,_,c.sub (kp [75,1,76] O),d,F,(CB.refl S2 ab),(iq (n:=0) O),E⟩
  ·rintro u x ⟨_,_,_,_,_,_,_,_,E⟩;rw[EE] at E;cases E
  rintro n1 u x ⟨H,de,df,c,d,A,W,dg,E⟩;refine AJ ?_ c d;clear c d x u;rw[EE] at E;refine DQ (Kr O (E3 (kp [77,75,1,76] O) (Cy (AH O E (λbv E=>?_) (λbv E=>?_)))))
  ·refine Fy (Cy (A5 (DQ (BP O (Dm O (kp [3,75,1,76] O) (DQ ?_))))));have bw:=ac.mono W;refine Lv O bw AF.f_Name fa_31_0.1 O λdh bx=>SW K9 A.1 O bx ty_9.1 O λdi=>BP O ?_;obtain⟨g,X,E⟩:=bd E;have bz:=LT X;refine LV O O MB X O (Dm O (kp [4,75,1,76] O) (DQ (BP O (Kr O (BP O (AY 3 88 (.bool ((decide (g<32))||(decide (126<g)))) ?_ ?_))))))
   ·cases b0:(decide (g<32))
    ·exact BY O (BP O (BY O (I9 O (Eo O (A0 O)))))
    exact BF O O
   refine BP O (AY 3 92 (.bool (((decide (g<32))||(decide (126<g)))||(decide (g=34)))) ?_ ?_)
   ·cases b1:((decide (g<32))||(decide (126<g)))
    ·exact BY O (BP O (BY O (QN O (Eo O (A0 O)))))
    exact BF O O
   refine BP O (AY 3 96 (.bool ((((decide (g<32))||(decide (126<g)))||(decide (g=34)))||(decide (g=92)))) ?_ ?_)
   ·cases b2:(((decide (g<32))||(decide (126<g)))||(decide (g=34)))
    ·exact BY O (BP O (BY O (QN O (Eo O (A0 O)))))
    exact BF O O
   refine E3 (kp [96,75,1,76] O) (AH O E (λav E=>?_) (λav E=>?_))
   ·refine DQ (Dm O (kp [2] O) (Bu (λu x c d=>?_)));cases E;have ad:=e5.trans (G.trans W);exact TC c d O O ad ⟨O,A⟩
   refine Fy (BE (Iy (.inl O) (Ma O (BP O (E3 (kp [76,75,1] O) (WF.nil (λu x c d=>?_)))))));exact⟨(BD (H+1)),_,_,c.sub (kp [75,1,76] O),d,A,W,(BI _),E⟩
  refine BC O (λu x c d=>?_);exact⟨_,_,c.sub (kp [1] O),d,A,W,E⟩
 rintro u x ⟨J,K,c,d,M,Q,E⟩;refine AJ ?_ c d;clear c d x u;rw[EF] at E;refine Cy (DQ ?_);have aw:=ac.mono Q;refine Lv O aw AF.f_Room fa_31_9.1 O λb3 ax=>If K9 M.1 O ax ty_29.1 O λay Y=>M1 O Y sl_29.1 O λb4=>BP O (E3 (kp [101,100,99] O) (AO (λa w=>IV B J K (109,[]) a w [] (L) λ_ _=>GT N=some r) ?_ ?_))
 ·refine A4 (λn3=>λa w=>∃(y:Int),IV B J K (109,[]) a w [(100,vI (↑b.Ak.length:Int)),(99,ay),(101,vI y)] (L) λ_ _=>AA y∧ED N b (GT N) n3 y=some r) N ?_ ?_ ?_
  ·intro u x c d;exact⟨0,_,_,c.sub (kp [100,99,101] O),d,M,(CB.refl J K),(iq (n:=0) O),E⟩
  ·rintro u x ⟨_,_,_,_,_,_,_,_,E⟩;rw[ED] at E;cases E
  rintro n3 u x ⟨y,b5,b6,c,d,z,C,b7,E⟩;refine AJ ?_ c d;clear c d x u;rw[ED] at E;refine DQ (Kr O (E3 (kp [102,100,99,101] O) (Cy (AH O E (λaz E=>?_) (λaz E=>?_)))))
  ·refine Fy (Cy (A5 (DQ ?_)));have a0:=Y.mono' C;obtain⟨b8,ae,E⟩:=bd E;refine M2 O O a0 sl_29.1 ae O λb9 a1=>F8 K9 z.1 O a1 ty_3.1 O λa2=>Dm O (kp [6,100,99,101] O) (Cy (BX (.inl O) z (BP O ?_)));obtain⟨ca,af,E⟩:=bd E;refine Kt O O O JN O (λh' o=>CH (St.all h') a2 af) (O6 O (BK (kp [107,100,99,101] O) λcb U Z=>AH O E (λa3 E=>?_) (λa3 E=>?_)))
   ·refine DQ (Dm O (kp [2] O) (Bu (λu x c d=>?_)));cases E;have ag:=e5.trans (G.trans (Q.trans (C.trans Z)));exact TC c d O O ag ⟨O,U⟩
   refine Fy (BE (Iy (.inl O) (Ma O (BP O (E3 (kp [101,100,99] O) (WF.nil (λu x c d=>?_)))))));exact⟨(BD (y+1)),_,_,c.sub (kp [100,99,101] O),d,U,(C.trans Z),(BI _),E⟩
  refine BC O (λu x c d=>?_);exact⟨_,_,c.sub NA,d,z,C,E⟩
 rintro u x ⟨cc,cd,c,d,ah,a4,E⟩;refine AJ ?_ c d;clear c d x u;rw[GT] at E;refine DQ (Dm O (kp [2] O) (Bu (λu x c d=>?_)));cases E;have ai:=e5.trans (G.trans (Q.trans a4));exact TC c d O O ai ⟨O,ah⟩
def Qr (F:St S L h) {b:ByteArray}(y:b.size≤maxLen) {r:Bool}(E:JZ N b=some r):
 B0 prog 278 #[.string b] S h (λv S' h'=>v= .bool r∧St S' (L) h'):=by
 refine BA (l:=[.string b]) 54 func278 O ntmps278 O λB=>?_;rw[JZ] at E;refine DQ (Dm O (kp [0] O) (Cy (DQ (BP O (L0 O MB O (Kr O (BP O (AY 4 12 (.bool ((decide ((↑b.size:Int)<1))||(decide (24<(↑b.size:Int))))) ?_ ?_))))))))
 ·cases c1:(decide ((↑b.size:Int)<1))
  ·exact BY O (BP O (BY O (L0 O MB O (BY O (I9 O (Eo O (A0 O)))))))
  exact BF O O
 refine BP O (AY 3 16 (.bool (((decide ((↑b.size:Int)<1))||(decide (24<(↑b.size:Int))))||(b==(ByteArray.mk #[111,117,116])))) ?_ ?_)
 ·cases c2:((decide ((↑b.size:Int)<1))||(decide (24<(↑b.size:Int))))
  ·exact BY O (BP O (BY O (QM O O O (Eo O (A0 O)))))
  exact BF O O
 refine BP O ?_;obtain⟨G,d,E⟩:=bd E;refine AY 4 21 (.bool G) ?_ ?_
 ·cases H:(((decide ((↑b.size:Int)<1))||(decide (24<(↑b.size:Int))))||(b==(ByteArray.mk #[111,117,116])))
  ·have d:=GW H d;refine BY O (BP O (BY O ?_));obtain⟨z5,t,d⟩:=bd d;have r6:=LT t;refine LV O O MB t O (BY O (Kr O (Eo O ?_)));cases d;exact A0 O
  have d:=GV H d;cases d;exact BF O O
 refine BP O ?_;obtain⟨K,g,E⟩:=bd E;refine AY 4 26 (.bool K) ?_ ?_
 ·cases I:G
  ·have g:=GW I g;refine BY O (BP O (BY O ?_));obtain⟨z9,u,g⟩:=bd g;have M:=LT u;refine LV O O MB u O (BY O (I9 O (Eo O ?_)));cases g;exact A0 O
  have g:=GV I g;cases g;exact BF O O
 refine E3 (kp [26,0] O) (AH O E (λz E=>?_) (λz E=>?_))
 ·refine DQ (Dm O (kp [2] O) (Bu (λo p i j=>?_)));cases E;exact TC i j O O (CB.refl S h) ⟨O,F⟩
 refine Fy (Cy (DQ (Dm O (kp [3,0] O) (AO (λa w=>IV B S h (54,[]) a w [] (L) λ_ _=>HO N=some r) ?_ ?_))))
 ·refine A4 (λJ=>λa w=>∃(k:Int),IV B S h (54,[]) a w [(0,.string b),(3,vI k)] (L) λ_ _=>AA k∧Fd N b (HO N) J k=some r) N ?_ ?_ ?_
  ·intro o p i j;exact⟨1,_,_,i.sub (kp [0,3] O),j,F,(CB.refl S h),(iq (n:=1) O),E⟩
  ·rintro o p ⟨_,_,_,_,_,_,_,_,E⟩;rw[Fd] at E;cases E
  rintro J o p ⟨k,Q,U,i,j,m,s,V,E⟩;refine AJ ?_ i j;clear i j p o;rw[Fd] at E;refine Cy (DQ (BP O (BP O (L0 O MB O (Kr O (E3 (kp [30,0,3] O) (AH O E (λA E=>?_) (λA E=>?_))))))))
  ·refine Fy (Cy (A5 (DQ (BP O (BP O ?_)))));obtain⟨c,q,E⟩:=bd E;have W:=LT q;refine LV O O MB q O (Dm O (kp [4,0,3] O) (DQ (BP O (Kr O (BP O (AY 3 41 (.bool ((decide (c<97))||(decide (122<c)))) ?_ ?_))))))
   ·cases X:(decide (c<97))
    ·exact BY O (BP O (BY O (I9 O (Eo O (A0 O)))))
    exact BF O O
   refine BP O (AY 7 49 (.bool (((decide (c<97))||(decide (122<c)))&&((decide (c<48))||(decide (57<c))))) ?_ ?_)
   ·cases Y:((decide (c<97))||(decide (122<c)))
    ·exact BF O O
    refine BY O (BP O (BY O (Kr O (BY O (BP O (AY 3 48 (.bool ((decide (c<48))||(decide (57<c)))) ?_ ?_))))))
    ·cases Z:(decide (c<48))
     ·exact BY O (BP O (BY O (I9 O (BY O (Eo O (A0 O))))))
     exact BF O O
    exact Eo O (A0 O)
   refine BP O (AY 3 53 (.bool ((((decide (c<97))||(decide (122<c)))&&((decide (c<48))||(decide (57<c))))&&(decide (c≠95)))) ?_ ?_)
   ·cases ab:(((decide (c<97))||(decide (122<c)))&&((decide (c<48))||(decide (57<c))))
    ·exact BF O O
    exact BY O (BP O (BY O (Rg O (Eo O (A0 O)))))
   refine E3 (kp [53,0,3] O) (AH O E (λC E=>?_) (λC E=>?_))
   ·refine DQ (Dm O (kp [2] O) (Bu (λo p i j=>?_)));cases E;exact TC i j O O s ⟨O,m⟩
   refine Fy (BE (Iy (.inl O) (BP O (Ma O (Dm O (kp [3,0] O) (WF.nil (λo p i j=>?_)))))));exact⟨(BD (k+1)),_,_,i.sub (kp [0,3] O),j,m,s,(BI _),E⟩
  refine BC O (λo p i j=>?_);exact⟨_,_,i.sub NA,j,m,s,E⟩
 rintro o p ⟨ac,ad,i,j,x,D,E⟩;refine AJ ?_ i j;clear i j p o;rw[HO] at E;refine DQ (Dm O (kp [2] O) (Bu (λo p i j=>?_)));cases E;exact TC i j O O D ⟨O,x⟩
def RU {c:Nat}{d:(List (AG×Bool))}(F:St S (MP (λk:AG=>Value.agg (AG.v k).toArray) Value.bool c d::L) h) {g:ByteArray}(i:g.size≤maxLen) {b:ByteArray}(j:b.size≤maxLen) {r:Bool×(List (AG×Bool))}(E:J5 N d g b=some r):
 B0 prog 231 #[.map (some c),.string g,.string b] S h (λv S' h'=>v= .bool r.1∧St S' (MP (λk:AG=>Value.agg (AG.v k).toArray) Value.bool c r.2::L) h'):=by
 refine BA 23 func231 O ntmps231 O λB=>?_;rw[J5] at E;refine AU ?_;refine QM O O O (AU ?_);refine Gq (λa w=>∃(l:ByteArray),IV B S h (23,[]) a w [(0,.map (some c)),(2,.string b),(1,.string l)] (MP (λk:AG=>Value.agg (AG.v k).toArray) Value.bool c d::L) λ_ _=>l.size≤maxLen∧Hr N d b l=some r) ?_ ?_
 ·refine AH O E (λH E=>?_) (λH E=>?_)
  ·refine AU ?_;refine WF.nil (λy A p q=>?_);exact⟨(ByteArray.mk #[116,111,119,110]),_,_,p.sub (kp [0,2,1] O),q,F,(CB.refl S h),(by decide),E⟩
  refine AU ?_;refine WF.nil (λy A p q=>?_);exact⟨g,_,_,p.sub (kp [0,2,1] O),q,F,(CB.refl S h),i,E⟩
 rintro y A ⟨l,X,Y,p,q,C,Z,r2,E⟩;refine AJ ?_ p q;clear p q A y;rw[Hr] at E;refine AU ?_;refine FV (cs:=[.string l,.string b]) iA O O O (AU ?_);refine CO gJ O C λb8 h9 s I=>?_;refine Cu O O O O ty_353.1 O s .head O λJ m K=>AU ?_;refine BX (.inl O) m (AU ?_);refine A8 E O O O jY O (λn t h' o=>Qr (St.all h') j t) λn E=>AU ?_;refine AY 4 20 (.bool ((!n)||((NC (λk:AG=>Value.agg (AG.v k).toArray) d (⟨l,b⟩:AG)).getD false))) ?_ ?_
 ·cases M:(!n)
  ·refine AU ?_;refine WE (k0:=(⟨l,b⟩:AG)) (z:=false) NI m (mt mh) O O Yo Wu rA O O (AU ?_);exact A0 O
  exact BF O O
 refine BK (kp [20,7,0] O) λQ u U=>AH O E (λD E=>?_) (λD E=>?_)
 ·exact RT
 refine AU ?_;exact WG (k0:=(⟨l,b⟩:AG)) (x:=true) u (.tail .head) O O O Yo Wu λV G W=>RT
def EN {d:Nat}{c2_:(List (AG×Bool))}{a:Nat}{g:Nat}{c3_:Bool}(s:St S (Bx d 319 [.map (some a)]::MP (λk:AG=>Value.agg (AG.v k).toArray) Value.bool a c2_::Bx g 4 [.bool c3_]::L) h) {b:ByteArray}(i:b.size≤maxLen) {c:ByteArray}(j:c.size≤maxLen) {r:(List (AG×Bool))×Bool}(E:Cs N c2_ c3_ b c=some r):
 B0 prog 230 #[.string b,.string c,vP d 0,vP g 0] S h (λv S' h'=>v= .tuple #[]∧St S' (Bx d 319 [.map (some a)]::MP (λk:AG=>Value.agg (AG.v k).toArray) Value.bool a r.1::Bx g 4 [.bool r.2]::L) h'):=by
 refine BA 13 func230 O ntmps230 O λB=>?_;rw[Cs] at E;refine Bw (AU ?_);have n:=s.pick (.tail .head);refine BQ E O O O kL O (λt o=>RU n i j o) λt E y z A C p=>?_;obtain⟨rfl,q⟩:=p;refine AU ?_;refine Cu O O O O ty_4.1 O q (.tail (.tail .head)) O λD l u=>AU ?_;refine WF.nil (λF G w x=>?_);have m:=l.sel [1,0,0] 0 O;cases E;exact JC w O x JB O EX ⟨O,m⟩
def Of (hs:St S L h) {M:Value}{b:AF}(a8:Rd S h BO M b) {r:Bool}(E:I8 N b=some r):
 B0 prog 176 #[M] S h (λv S' h'=>v= .bool r∧St S' (L) h'):=by
 refine BA 106 func176 O ntmps176 O λB=>?_;rw[I8] at E;refine AU ?_;refine By O a8 CE O hs λq1 S2 h3 e3 e5 k6=>AU ?_;refine bN (K:=0) (E:=0) O e3 (λk:AG=>Value.agg (AG.v k).toArray) Value.bool λm h8 e4 jm=>CO gL O e4 λl jn c0 jo=>?_;refine Cu O O O O ty_319.1 O c0 .head O λjp c1 jq=>AU ?_;refine CO rB O c1 λc jr c2 js=>?_;refine Cu O O O O ty_4.1 O c2 .head O λbp c3 jt=>AU ?_;refine Om O O O ?_;have c4:=k6.nw;have e6:=c4.fl HW;obtain⟨e7,_,e8⟩:=e6.ll;refine AU ?_;refine AO (λa w=>∃(a9:Bool) (ba:(List (AG×Bool))),IV B S2 bp (106,[]) a w [(5,.func (.func 230) #[] #[vP l 0,vP c 0]),(4,vP c 0),(1,q1)] (Bx c 4 [.bool a9]::Bx l 319 [.map (some m)]::MP (λk:AG=>Value.agg (AG.v k).toArray) Value.bool m ba::L) λ_ _=>El N b a9 ba=some r) ?_ ?_
 ·refine A4 (λn1=>λa w=>∃(ad:Int) (ae:Bool) (af:(List (AG×Bool))),IV B S2 bp (106,[]) a w [(24,vI (↑b.H.length:Int)),(23,e7),(5,.func (.func 230) #[] #[vP l 0,vP c 0]),(4,vP c 0),(1,q1),(25,vI ad)] (Bx c 4 [.bool ae]::Bx l 319 [.map (some m)]::MP (λk:AG=>Value.agg (AG.v k).toArray) Value.bool m af::L) λ_ _=>AA ad∧DK N b (El N b) n1 ad ae af=some r) N ?_ ?_ ?_
  ·intro i j d g;exact⟨0,true,([]:(List (AG×Bool))),_,_,d.sub (kp [24,23,5,4,1,25] O),g,c3,(CB.refl S2 bp),(iq (n:=0) O),E⟩
  ·rintro i j ⟨_,_,_,_,_,_,_,_,_,_,E⟩;rw[DK] at E;cases E
  rintro n1 i j ⟨ad,ae,af,ju,jv,d,g,be,c5,jw,E⟩;refine AJ ?_ d g;clear d g j i;rw[DK] at E;refine AU ?_;refine AH O E (λe9 E=>?_) (λe9 E=>?_)
  ·refine AU ?_;refine A5 (AU ?_);have fa:=e8.mono' c5;refine AZ E O O fa sl_22.1 O λjx E jy fb=>?_;have fc:=fb.sz;refine AU ?_;refine Bw (AU ?_);have c6:=be.sel [1,1,0] 0 O;refine BQ E O O O Pj O (λbq c7=>EN (c2_:=af) (c3_:=ae) c6 (by decide) fc c7) λbq E jz j0 j1 j2 p=>?_;obtain⟨rfl,c8⟩:=p;refine AU ?_;refine BE (AU ?_);refine WF.nil (λi j d g=>?_);have c9:=c8.sel [2,0,0] 0 O;exact⟨(BD (ad+1)),bq.2,bq.1,_,_,d.sub (kp [24,23,5,4,1,25] O),g,c9,EX,(BI _),E⟩
  refine BC O (λi j d g=>?_);exact⟨ae,af,_,_,d.sub (kp [5,4,1] O),g,be,c5,E⟩
 rintro i j ⟨a9,ba,br,bs,d,g,da,fd,E⟩;refine AJ ?_ d g;clear d g j i;rw[El] at E;have db:=c4.mono fd;have fe:=db.fl B4;obtain⟨ff,_,fg⟩:=fe.ll;refine AU ?_;refine AO (λa w=>∃(bb:Bool) (bc:(List (AG×Bool))),IV B br bs (106,[]) a w [(5,.func (.func 230) #[] #[vP l 0,vP c 0]),(4,vP c 0),(1,q1)] (Bx c 4 [.bool bb]::Bx l 319 [.map (some m)]::MP (λk:AG=>Value.agg (AG.v k).toArray) Value.bool m bc::L) λ_ _=>Ek N b bb bc=some r) ?_ ?_
 ·refine A4 (λn3=>λa w=>∃(ag:Int) (ah:Bool) (ai:(List (AG×Bool))),IV B br bs (106,[]) a w [(35,vI (↑b.A.length:Int)),(34,ff),(5,.func (.func 230) #[] #[vP l 0,vP c 0]),(4,vP c 0),(1,q1),(36,vI ag)] (Bx c 4 [.bool ah]::Bx l 319 [.map (some m)]::MP (λk:AG=>Value.agg (AG.v k).toArray) Value.bool m ai::L) λ_ _=>AA ag∧DJ N b (Ek N b) n3 ag ah ai=some r) N ?_ ?_ ?_
  ·intro i j d g;exact⟨0,a9,ba,_,_,d.sub (kp [35,34,5,4,1,36] O),g,da,(CB.refl br bs),(iq (n:=0) O),E⟩
  ·rintro i j ⟨_,_,_,_,_,_,_,_,_,_,E⟩;rw[DJ] at E;cases E
  rintro n3 i j ⟨ag,ah,ai,j3,j4,d,g,bf,dc,j5,E⟩;refine AJ ?_ d g;clear d g j i;rw[DJ] at E;refine AU ?_;refine AH O E (λfh E=>?_) (λfh E=>?_)
  ·refine AU ?_;refine A5 (AU ?_);have fi:=fg.mono' dc;refine AZ E O O fi sl_23.1 O λj6 E j7 fj=>?_;obtain⟨j8,_,fk⟩:=fj.lv;refine AU ?_;refine CO Mw O bf λj9 ka dd fm=>?_;have fn:=fk.mono fm;obtain⟨fq,fr,fs,rfl,fo,kb,kc,ft,fu,fv,fw,fx,fy,fz,f0,f1⟩:=B9.ex fn;refine Dk O O O ON ty_101.1 O dd .head O λf2 bt f3=>AU ?_;refine Bw (AU ?_);have bu:=bt.sel [2,2,1,0] 0 O;refine BQ E O O O Pj O (λaj bv=>EN (c2_:=ai) (c3_:=ah) bu (by decide) fo bv) λaj E f4 f5 f6 f7 p=>?_;obtain⟨rfl,bw⟩:=p;refine AU ?_;refine BE (AU ?_);refine WF.nil (λi j d g=>?_);have bx:=bw.sel [2,0,0] 1 O;exact⟨(BD (ag+1)),aj.2,aj.1,_,_,d.sub (kp [35,34,5,4,1,36] O),g,bx,EX,(BI _),E⟩
  refine BC O (λi j d g=>?_);exact⟨ah,ai,_,_,d.sub (kp [5,4,1] O),g,bf,dc,E⟩
 rintro i j ⟨bb,bc,ak,am,d,g,bz,de,E⟩;refine AJ ?_ d g;clear d g j i;rw[Ek] at E;have bg:=db.mono de;have df:=bg.fl Gh;obtain⟨dg,_,dh⟩:=df.ll;refine AU ?_;refine AO (λa w=>∃(Q:Bool) (U:(List (AG×Bool))),IV B ak am (106,[]) a w [(5,.func (.func 230) #[] #[vP l 0,vP c 0]),(4,vP c 0),(1,q1)] (Bx c 4 [.bool Q]::Bx l 319 [.map (some m)]::MP (λk:AG=>Value.agg (AG.v k).toArray) Value.bool m U::L) λ_ _=>Ej N b Q U=some r) ?_ ?_
 ·refine A4 (λn5=>λa w=>∃(o:Int) (q:Bool) (s:(List (AG×Bool))),IV B ak am (106,[]) a w [(47,vI (↑b.E.length:Int)),(46,dg),(5,.func (.func 230) #[] #[vP l 0,vP c 0]),(4,vP c 0),(1,q1),(48,vI o)] (Bx c 4 [.bool q]::Bx l 319 [.map (some m)]::MP (λk:AG=>Value.agg (AG.v k).toArray) Value.bool m s::L) λ_ _=>AA o∧DI N b (Ej N b) n5 o q s=some r) N ?_ ?_ ?_
  ·intro i j d g;exact⟨0,bb,bc,_,_,d.sub (kp [47,46,5,4,1,48] O),g,bz,(CB.refl ak am),(iq (n:=0) O),E⟩
  ·rintro i j ⟨_,_,_,_,_,_,_,_,_,_,E⟩;rw[DI] at E;cases E
  rintro n5 i j ⟨o,q,s,f8,f9,d,g,an,bh,ga,E⟩;refine AJ ?_ d g;clear d g j i;rw[DI] at E;refine AU ?_;refine AH O E (λdi E=>?_) (λdi E=>?_)
  ·refine AU ?_;refine A5 (AU ?_);have dj:=dh.mono' bh;refine AZ E O O dj sl_24.1 O λgb E gc dk=>?_;obtain⟨gd,_,dl⟩:=dk.lv;refine AU ?_;refine CO OD O an λge gf b0 dm=>?_;have dn:=dl.mono dm;obtain⟨gg,gh,gi,rfl,dp,gj,gl,gm,gn,gp,gq,gr,gs,gt,gu,gv,gw,gx,gy,gz,g0,g1⟩:=BZ.ex dn;refine Dk O O O ON ty_117.1 O b0 .head O λg2 b1 g3=>AU ?_;refine Bw (AU ?_);have b2:=b1.sel [2,2,1,0] 0 O;refine BQ E O O O Pj O (λao b3=>EN (c2_:=s) (c3_:=q) b2 (by decide) dp b3) λao E g4 g5 g6 g7 p=>?_;obtain⟨rfl,b4⟩:=p;refine AU ?_;refine BE (AU ?_);refine WF.nil (λi j d g=>?_);have b5:=b4.sel [2,0,0] 1 O;exact⟨(BD (o+1)),ao.2,ao.1,_,_,d.sub (kp [47,46,5,4,1,48] O),g,b5,EX,(BI _),E⟩
  refine BC O (λi j d g=>?_);exact⟨q,s,_,_,d.sub (kp [5,4,1] O),g,an,bh,E⟩
 rintro i j ⟨Q,U,ap,aq,d,g,b6,dq,E⟩;refine AJ ?_ d g;clear d g j i;rw[Ej] at E;have bi:=bg.mono dq;have dr:=bi.fl Jc;obtain⟨ds,_,dt⟩:=dr.ll;refine AU ?_;refine AO (λa w=>∃(V:Bool) (W:(List (AG×Bool))),IV B ap aq (106,[]) a w [(5,.func (.func 230) #[] #[vP l 0,vP c 0]),(4,vP c 0),(1,q1)] (Bx c 4 [.bool V]::Bx l 319 [.map (some m)]::MP (λk:AG=>Value.agg (AG.v k).toArray) Value.bool m W::L) λ_ _=>Ei N b V W=some r) ?_ ?_
 ·refine A4 (λn7=>λa w=>∃(t:Int) (u:Bool) (x:(List (AG×Bool))),IV B ap aq (106,[]) a w [(59,vI (↑b.Ab.length:Int)),(58,ds),(5,.func (.func 230) #[] #[vP l 0,vP c 0]),(4,vP c 0),(1,q1),(60,vI t)] (Bx c 4 [.bool u]::Bx l 319 [.map (some m)]::MP (λk:AG=>Value.agg (AG.v k).toArray) Value.bool m x::L) λ_ _=>AA t∧DH N b (Ei N b) n7 t u x=some r) N ?_ ?_ ?_
  ·intro i j d g;exact⟨0,Q,U,_,_,d.sub (kp [59,58,5,4,1,60] O),g,b6,(CB.refl ap aq),(iq (n:=0) O),E⟩
  ·rintro i j ⟨_,_,_,_,_,_,_,_,_,_,E⟩;rw[DH] at E;cases E
  rintro n7 i j ⟨t,u,x,g8,g9,d,g,ar,bj,ha,E⟩;refine AJ ?_ d g;clear d g j i;rw[DH] at E;refine AU ?_;refine AH O E (λdu E=>?_) (λdu E=>?_)
  ·refine AU ?_;refine A5 (AU ?_);have dv:=dt.mono' bj;refine AZ E O O dv sl_25.1 O λhb E hc dw=>?_;obtain⟨hd,_,dx⟩:=dw.lv;refine AU ?_;refine CO Yf O ar λhe hg b8 dy=>?_;have dz:=dx.mono dy;obtain⟨rfl,⟨d0,hh,hi,hj,hk,hl,hm⟩⟩:=HL.ex dz;refine Cu O O O O ty_139.1 O b8 .head O λhn b9 ho=>AU ?_;refine Bw (AU ?_);have ca:=b9.sel [2,2,1,0] 0 O;refine BQ E O O O Pj O (λau cb=>EN (c2_:=x) (c3_:=u) ca (by decide) d0 cb) λau E hp hq hr ht p=>?_;obtain⟨rfl,cc⟩:=p;refine AU ?_;refine BE (AU ?_);refine WF.nil (λi j d g=>?_);have cd:=cc.sel [2,0,0] 1 O;exact⟨(BD (t+1)),au.2,au.1,_,_,d.sub (kp [59,58,5,4,1,60] O),g,cd,EX,(BI _),E⟩
  refine BC O (λi j d g=>?_);exact⟨u,x,_,_,d.sub (kp [5,4,1] O),g,ar,bj,E⟩
 rintro i j ⟨V,W,av,aw,d,g,ce,d1,E⟩;refine AJ ?_ d g;clear d g j i;rw[Ei] at E;have bk:=bi.mono d1;have d2:=bk.fl JR;obtain⟨d3,_,d4⟩:=d2.ll;refine AU ?_;refine AO (λa w=>∃(X:Bool) (Y:(List (AG×Bool))),IV B av aw (106,[]) a w [(5,.func (.func 230) #[] #[vP l 0,vP c 0]),(4,vP c 0),(1,q1)] (Bx c 4 [.bool X]::Bx l 319 [.map (some m)]::MP (λk:AG=>Value.agg (AG.v k).toArray) Value.bool m Y::L) λ_ _=>Eh N b X Y=some r) ?_ ?_
 ·refine A4 (λn9=>λa w=>∃(y:Int) (z:Bool) (C:(List (AG×Bool))),IV B av aw (106,[]) a w [(71,vI (↑b.Ag.length:Int)),(70,d3),(5,.func (.func 230) #[] #[vP l 0,vP c 0]),(4,vP c 0),(1,q1),(72,vI y)] (Bx c 4 [.bool z]::Bx l 319 [.map (some m)]::MP (λk:AG=>Value.agg (AG.v k).toArray) Value.bool m C::L) λ_ _=>AA y∧DG N b (Eh N b) n9 y z C=some r) N ?_ ?_ ?_
  ·intro i j d g;exact⟨0,V,W,_,_,d.sub (kp [71,70,5,4,1,72] O),g,ce,(CB.refl av aw),(iq (n:=0) O),E⟩
  ·rintro i j ⟨_,_,_,_,_,_,_,_,_,_,E⟩;rw[DG] at E;cases E
  rintro n9 i j ⟨y,z,C,hu,hv,d,g,ax,bl,hx,E⟩;refine AJ ?_ d g;clear d g j i;rw[DG] at E;refine AU ?_;refine AH O E (λd5 E=>?_) (λd5 E=>?_)
  ·refine AU ?_;refine A5 (AU ?_);have d6:=d4.mono' bl;refine AZ E O O d6 sl_28.1 O λhy E hz d7=>?_;obtain⟨h0,_,d8⟩:=d7.lv;refine AU ?_;refine CO Yd O ax λh1 h2 cf d9=>?_;have ea:=d8.mono d9;obtain⟨rfl,⟨eb,h4⟩⟩:=DB.ex ea;refine Cu O O O O ty_215.1 O cf .head O λh5 cg h6=>AU ?_;refine Bw (AU ?_);have ch:=cg.sel [2,2,1,0] 0 O;refine BQ E O O O Pj O (λay ci=>EN (c2_:=C) (c3_:=z) ch (by decide) eb ci) λay E h7 h9 ia ib p=>?_;obtain⟨rfl,cj⟩:=p;refine AU ?_;refine BE (AU ?_);refine WF.nil (λi j d g=>?_);have ck:=cj.sel [2,0,0] 1 O;exact⟨(BD (y+1)),ay.2,ay.1,_,_,d.sub (kp [71,70,5,4,1,72] O),g,ck,EX,(BI _),E⟩
  refine BC O (λi j d g=>?_);exact⟨z,C,_,_,d.sub (kp [5,4,1] O),g,ax,bl,E⟩
 rintro i j ⟨X,Y,az,a0,d,g,cl,ec,E⟩;refine AJ ?_ d g;clear d g j i;rw[Eh] at E;have bm:=bk.mono ec;have ed:=bm.fl KF;obtain⟨ee,_,ef⟩:=ed.ll;refine AU ?_;refine AO (λa w=>∃(Z:Bool) (ab:(List (AG×Bool))),IV B az a0 (106,[]) a w [(5,.func (.func 230) #[] #[vP l 0,vP c 0]),(4,vP c 0),(1,q1)] (Bx c 4 [.bool Z]::Bx l 319 [.map (some m)]::MP (λk:AG=>Value.agg (AG.v k).toArray) Value.bool m ab::L) λ_ _=>EM N b Z ab=some r) ?_ ?_
 ·refine A4 (λeg=>λa w=>∃(D:Int) (F:Bool) (G:(List (AG×Bool))),IV B az a0 (106,[]) a w [(83,vI (↑b.Ad.length:Int)),(82,ee),(5,.func (.func 230) #[] #[vP l 0,vP c 0]),(4,vP c 0),(1,q1),(84,vI D)] (Bx c 4 [.bool F]::Bx l 319 [.map (some m)]::MP (λk:AG=>Value.agg (AG.v k).toArray) Value.bool m G::L) λ_ _=>AA D∧C4 N b (EM N b) eg D F G=some r) N ?_ ?_ ?_
  ·intro i j d g;exact⟨0,X,Y,_,_,d.sub (kp [83,82,5,4,1,84] O),g,cl,(CB.refl az a0),(iq (n:=0) O),E⟩
  ·rintro i j ⟨_,_,_,_,_,_,_,_,_,_,E⟩;rw[C4] at E;cases E
  rintro eg i j ⟨D,F,G,ic,id,d,g,a1,bn,ie,E⟩;refine AJ ?_ d g;clear d g j i;rw[C4] at E;refine AU ?_;refine AH O E (λeh E=>?_) (λeh E=>?_)
  ·refine AU ?_;refine A5 (AU ?_);have ei:=ef.mono' bn;refine AZ E O O ei sl_26.1 O λig E ih ej=>?_;obtain⟨ii,_,ek⟩:=ej.lv;refine AU ?_;refine CO Yc O a1 λij ik cm el=>?_;have em:=ek.mono el;obtain⟨rfl,⟨en,il,im,io,ip⟩⟩:=Eu.ex em;refine Cu O O O O ty_217.1 O cm .head O λir cn it=>AU ?_;refine Bw (AU ?_);have co:=cn.sel [2,2,1,0] 0 O;refine BQ E O O O Pj O (λa2 cp=>EN (c2_:=G) (c3_:=F) co (by decide) en cp) λa2 E iu iv iw iy p=>?_;obtain⟨rfl,cq⟩:=p;refine AU ?_;refine BE (AU ?_);refine WF.nil (λi j d g=>?_);have cr:=cq.sel [2,0,0] 1 O;exact⟨(BD (D+1)),a2.2,a2.1,_,_,d.sub (kp [83,82,5,4,1,84] O),g,cr,EX,(BI _),E⟩
  refine BC O (λi j d g=>?_);exact⟨F,G,_,_,d.sub (kp [5,4,1] O),g,a1,bn,E⟩
 rintro i j ⟨Z,ab,a3,a4,d,g,cs,eo,E⟩;refine AJ ?_ d g;clear d g j i;rw[EM] at E;have ep:=bm.mono eo;have eq:=ep.fl Kx;obtain⟨er,_,es⟩:=eq.ll;refine AU ?_;refine AO (λa w=>∃(a5:Bool),IV B a3 a4 (106,[]) a w [(4,vP c 0)] (Bx c 4 [.bool a5]::L) λ_ _=>EL N a5=some r) ?_ ?_
 ·refine A4 (λeu=>λa w=>∃(I:Int) (J:Bool) (ac:(List (AG×Bool))),IV B a3 a4 (106,[]) a w [(95,vI (↑b.Ae.length:Int)),(94,er),(5,.func (.func 230) #[] #[vP l 0,vP c 0]),(4,vP c 0),(96,vI I)] (Bx c 4 [.bool J]::Bx l 319 [.map (some m)]::MP (λk:AG=>Value.agg (AG.v k).toArray) Value.bool m ac::L) λ_ _=>AA I∧C3 N b (EL N) eu I J ac=some r) N ?_ ?_ ?_
  ·intro i j d g;exact⟨0,Z,ab,_,_,d.sub (kp [95,94,5,4,96] O),g,cs,(CB.refl a3 a4),(iq (n:=0) O),E⟩
  ·rintro i j ⟨_,_,_,_,_,_,_,_,_,_,E⟩;rw[C3] at E;cases E
  rintro eu i j ⟨I,J,ac,iz,i0,d,g,a6,bo,i1,E⟩;refine AJ ?_ d g;clear d g j i;rw[C3] at E;refine AU ?_;refine AH O E (λev E=>?_) (λev E=>?_)
  ·refine AU ?_;refine A5 (AU ?_);have ew:=es.mono' bo;refine AZ E O O ew sl_27.1 O λi2 E i3 ey=>?_;obtain⟨i4,_,ez⟩:=ey.lv;refine AU ?_;refine CO Yb O a6 λi5 i6 ct e0=>?_;have e1:=ez.mono e0;obtain⟨rfl,⟨e2,i7,i8,i9,ja,jb,jc⟩⟩:=Gr.ex e1;refine Cu O O O O ty_219.1 O ct .head O λjd cu je=>AU ?_;refine Bw (AU ?_);have cv:=cu.sel [2,2,1,0] 0 O;refine BQ E O O O Pj O (λa7 cw=>EN (c2_:=ac) (c3_:=J) cv (by decide) e2 cw) λa7 E jf jg jh ji p=>?_;obtain⟨rfl,cx⟩:=p;refine AU ?_;refine BE (AU ?_);refine WF.nil (λi j d g=>?_);have cy:=cx.sel [2,0,0] 1 O;exact⟨(BD (I+1)),a7.2,a7.1,_,_,d.sub (kp [95,94,5,4,96] O),g,cy,EX,(BI _),E⟩
  refine BC O (λi j d g=>?_);have cz:=a6.sel [0] 2 O;exact⟨J,_,_,d.sub (kp [4] O),g,cz,bo,E⟩
 rintro i j ⟨a5,jj,jk,d,g,fp,jl,E⟩;refine AJ ?_ d g;clear d g j i;rw[EL] at E;exact RT
def KP (n:St S L h) {a:Int}(d:AA a) {b:Int}(g:AA b) {r:Bool}(E:G2 N a b=some r):
 B0 prog 233 #[vI a,vI b] S h (λv S' h'=>v= .bool r∧St S' (L) h'):=by
 refine BA 19 func233 O ntmps233 O λB=>?_;rw[G2] at E;refine AU ?_;refine BX (.inl O) n (AU ?_);refine A8 E O O O JN O (λk i h' o=>CH (St.all h') d i) λk E=>AU ?_;obtain⟨p,c,E⟩:=bd E;refine AY 3 10 (.bool p) ?_ ?_
 ·cases l:k
  ·have c:=GW l c;cases c;exact BF O O
  have c:=GV l c;refine AU ?_;refine A8 c O O O JN O (λq j h' o=>CH (St.all h') g j) λq c=>AU ?_;cases c;exact A0 O
 refine AU ?_;exact BK (kp [4] O) λt m s=>RT
def HT (i:St S L h) {b:Int}(c:AA b) {a:Int}(d:AA a) {r:Bool}(E:E8 N b a=some r):
 B0 prog 235 #[vI b,vI a] S h (λv S' h'=>v= .bool r∧St S' (L) h'):=by
 refine BA 9 func235 O ntmps235 O λB=>?_;rw[E8] at E;refine AU ?_;refine BX (.inl O) i (AU ?_);refine A8 E O O O G3 O (λj g h' o=>B8 (St.all h') c (iq (n:=0) O) (BI _) g) λj E=>AU ?_;exact BK (kp [4] O) λl k m=>RT
def NL (w:St S L h) {d:Value}{j:AF}(i:Rd S h BO d j) {a:Int}(k:AA a) {b:Int}(g:AA b) {r:Bool}(E:Iw N j a b=some r):
 B0 prog 234 #[d,vI a,vI b] S h (λv S' h'=>v= .bool r∧St S' (L) h'):=by
 refine BA 21 func234 O ntmps234 O λB=>?_;rw[Iw] at E;refine AU ?_;refine By O i CE O w λD S2 F m G x=>AU ?_;refine BX (.inl O) m (AU ?_);obtain⟨y,c,E⟩:=bd E;refine AY 11 20 (.bool y) ?_ ?_
 ·cases t:(decide (b=(-1)))
  ·have c:=GW t c;have n:=x.fl B4;obtain⟨z,_,p⟩:=n.ll;have q:=p.le;refine AU ?_;refine A8 c O O O Ph O (λs l h' o=>HT (St.all h') g (Je q) l) λs c=>AU ?_;cases c;exact A0 O
  have c:=GV t c;cases c;exact BF O O
 refine AU ?_;exact BK (kp [6] O) λA u C=>RT
def N9 (hs:St S L h) {K:Value}{b:AF}(ad:Rd S h BO K b) {r:Bool}(E:HZ N b=some r):
 B0 prog 177 #[K] S h (λv S' h'=>v= .bool r∧St S' (L) h'):=by
 refine BA 122 func177 O ntmps177 O λB=>?_;rw[HZ] at E;refine AU ?_;refine By O ad CE O hs λq1 S2 h3 cm e5 k6=>?_;have k8:=k6.fl B4;obtain⟨v9,_,cn⟩:=k8.ll;refine AU ?_;refine AO (λa w=>∃(ae:Int),IV B S2 h3 (122,[]) a w [(3,vI ae)] (L) λ_ _=>AA ae∧B7 N ae=some r) ?_ ?_
 ·refine A4 (λn1=>λa w=>∃(M:Int) (k:Int),IV B S2 h3 (122,[]) a w [(13,vI (↑b.A.length:Int)),(12,v9),(1,q1),(3,vI M),(14,vI k)] (L) λ_ _=>AA M∧AA k∧Bv N b (B7 N) n1 M k=some r) N ?_ ?_ ?_
  ·intro x y d g;exact⟨0,0,_,_,d.sub (kp [13,12,1,3,14] O),g,cm,(CB.refl S2 h3),(iq (n:=0) O),(iq (n:=0) O),E⟩
  ·rintro x y ⟨_,_,_,_,_,_,_,_,_,_,E⟩;rw[Bv] at E;cases E
  rintro n1 x y ⟨M,k,af,co,d,g,ah,a3,a4,cp,E⟩;refine AJ ?_ d g;clear d g y x;rw[Bv] at E;refine AU ?_;refine AH O E (λcq E=>?_) (λcq E=>?_)
  ·refine AU ?_;refine AO (λa w=>∃(U:Int),IV B af co (122,[]) a w [(13,vI (↑b.A.length:Int)),(12,v9),(1,q1),(14,vI k),(3,vI U)] (L) λ_ _=>AA U∧Ca N k (Bv N b (B7 N) n1) U=some r) ?_ ?_
   ·refine AU ?_;have cr:=cn.mono' a3;refine AZ E O O cr sl_23.1 O λc E ea cs=>?_;obtain⟨eb,_,ct⟩:=cs.lv;refine AU ?_;refine CO Mw O ah λag ec a5 cu=>AU ?_;have cv:=ct.mono cu;obtain⟨a6,an,ao,rfl,ed,cw,cx,cy,cz,a7,c0,c1,c2,c3,c4,c5⟩:=B9.ex cv;refine Dk O O O ON ty_101.1 O a5 .head O λee V a8=>AU ?_;refine BX (.inl O) V (AU ?_);refine A8 E O O O G3 O (λa9 ba h' o=>B8 (St.all h') cw (iq (n:=0) O) (iq (n:=3) O) ba) λa9 E=>AU ?_;obtain⟨bb,l,E⟩:=bd E;refine AY 5 28 (.bool bb) ?_ ?_
    ·cases bc:(!a9)
     ·have l:=GW bc l;refine AU ?_;refine A8 l O O O G3 O (λc6 be h' o=>B8 (St.all h') cx (iq (n:=0) O) (iq (n:=2) O) be) λc6 l=>AU ?_;cases l;exact A0 O
     have l:=GV bc l;cases l;exact BF O O
    refine AU ?_;obtain⟨bf,m,E⟩:=bd E;refine AY 5 34 (.bool bf) ?_ ?_
    ·cases bg:bb
     ·have m:=GW bg m;refine AU ?_;refine A8 m O O O G3 O (λc7 bh h' o=>B8 (St.all h') c3 (iq (n:=0) O) (iq (n:=240) O) bh) λc7 m=>AU ?_;cases m;exact A0 O
     have m:=GV bg m;cases m;exact BF O O
    refine AU ?_;obtain⟨bi,p,E⟩:=bd E;refine AY 5 40 (.bool bi) ?_ ?_
    ·cases bj:bf
     ·have p:=GW bj p;refine AU ?_;refine A8 p O O O JN O (λc8 bk h' o=>CH (St.all h') cy bk) λc8 p=>AU ?_;cases p;exact A0 O
     have p:=GV bj p;cases p;exact BF O O
    refine AU ?_;obtain⟨bl,q,E⟩:=bd E;refine AY 5 46 (.bool bl) ?_ ?_
    ·cases bm:bi
     ·have q:=GW bm q;refine AU ?_;refine A8 q O O O JN O (λc9 bn h' o=>CH (St.all h') c4 bn) λc9 q=>AU ?_;cases q;exact A0 O
     have q:=GV bm q;cases q;exact BF O O
    refine AU ?_;obtain⟨bo,s,E⟩:=bd E;refine AY 5 52 (.bool bo) ?_ ?_
    ·cases bp:bl
     ·have s:=GW bp s;refine AU ?_;have da:=cz.mono' a8;refine A8 s O O O Pi O (λdb bq h' o=>HS (St.all h') (da.mono' (o.all V.1)) bq) λdb s=>AU ?_;cases s;exact A0 O
     have s:=GV bp s;cases s;exact BF O O
    have ef:=a7.mono' a8;have eg:=k6.nw;refine AU ?_;obtain⟨br,t,E⟩:=bd E;refine AY 7 69 (.bool br) ?_ ?_
    ·cases bs:(bo||(decide ((↑c.Be.length:Int)≠(↑b.H.length:Int))))
     ·have t:=GW bs t;refine AU ?_;refine A8 t O O O V7 O (λdc bt h' o=>KP (St.all h') c0 c1 bt) λdc t=>AU ?_;cases t;exact A0 O
     have t:=GV bs t;cases t;exact BF O O
    refine AU ?_;obtain⟨dd,u,E⟩:=bd E;refine AY 7 77 (.bool dd) ?_ ?_
    ·cases bu:br
     ·have u:=GW bu u;have de:=k6.nw;obtain⟨dh,_,bv⟩:=de.lv;refine AU ?_;refine A8 u O O O Z8 O (λbw ap h' o=>NL (St.all h') (bv.mono (o.all V.1)) cp c2 ap) λbw u=>AU ?_;cases u;exact A0 O
     have u:=GV bu u;cases u;exact BF O O
    refine BK (kp [77,5,13,12,1,3,14] O) λW aq di=>AH O E (λbx E=>?_) (λbx E=>?_)
    ·exact RT
    have bz:=a7.nw;refine AU ?_;refine AO (λa w=>∃(z:Int),IV B af W (122,[]) a w [(5,vP ag 0),(13,vI (↑b.A.length:Int)),(12,v9),(1,q1),(14,vI k),(3,vI z)] (Bx ag 101 [.string c.I,vI c.F,vI c.An,vI c.Au,a6,an,vI c.Y,vI c.S,vI c.Ao,vI c.Q,vI c.Bf,ao]::L) λ_ _=>AA z∧EK N b c (Ca N k (Bv N b (B7 N) n1)) z=some r) ?_ ?_
    ·refine A4 (λn4=>λa w=>∃(C:Int) (D:Int),IV B af W (122,[]) a w [(80,vI (↑c.Be.length:Int)),(79,an),(5,vP ag 0),(13,vI (↑b.A.length:Int)),(12,v9),(1,q1),(14,vI k),(3,vI C),(81,vI D)] (Bx ag 101 [.string c.I,vI c.F,vI c.An,vI c.Au,a6,an,vI c.Y,vI c.S,vI c.Ao,vI c.Q,vI c.Bf,ao]::L) λ_ _=>AA C∧AA D∧C2 N c (EK N b c (Ca N k (Bv N b (B7 N) n1))) n4 C D=some r) N ?_ ?_ ?_
     ·intro x y d g;exact⟨M,0,_,_,d.sub (kp [80,79,5,13,12,1,14,3,81] O),g,aq,(CB.refl af W),a4,(iq (n:=0) O),E⟩
     ·rintro x y ⟨_,_,_,_,_,_,_,_,_,_,E⟩;rw[C2] at E;cases E
     rintro n4 x y ⟨C,D,dj,dk,d,g,X,ai,b0,dl,E⟩;refine AJ ?_ d g;clear d g y x;rw[C2] at E;refine AU ?_;refine AH O E (λb1 E=>?_) (λb1 E=>?_)
     ·refine AU ?_;refine A5 (AU ?_);have b2:=bz.mono' ai;refine AZ E O O b2 sl_29.1 O λb3 E dm b4=>?_;have b5:=b4.i;refine AU ?_;refine BX (.inl O) X (AU ?_);refine A8 E O O O JN O (λb6 ar h' o=>CH (St.all h') b5 ar) λb6 E=>AU ?_;refine BK (kp [87,7,80,79,5,13,12,1,14,3,81] O) λdn au dp=>AH O E (λb7 E=>?_) (λb7 E=>?_)
      ·exact RT
      refine AU ?_;refine BE (AU ?_);refine WF.nil (λx y d g=>?_);exact⟨(BD (C+b3)),(BD (D+1)),_,_,d.sub (kp [80,79,5,13,12,1,14,3,81] O),g,au,EX,(BI _),(BI _),E⟩
     refine BC O (λx y d g=>?_);exact⟨C,_,_,d.sub (kp [5,13,12,1,14,3] O),g,X,ai,b0,E⟩
    rintro x y ⟨z,aj,ak,d,g,av,dq,b8,E⟩;refine AJ ?_ d g;clear d g y x;rw[EK] at E;have b9:=c5.nw;refine AU ?_;refine A5 (A4 (λn5=>λa w=>∃(G:Int) (J:Int),IV B aj ak (122,[]) a w [(94,vI (↑c.Z.length:Int)),(93,ao),(13,vI (↑b.A.length:Int)),(12,v9),(1,q1),(14,vI k),(3,vI z),(8,vI G),(95,vI J)] (L) λ_ _=>AA G∧AA J∧C1 N b c z (Ca N k (Bv N b (B7 N) n1)) n5 G J=some r) N ?_ ?_ ?_)
    ·intro x y d g;have aw:=av.drop .head;exact⟨(-1),0,_,_,d.sub (kp [94,93,13,12,1,14,3,8,95] O),g,aw,(CB.refl aj ak),(iq (n:=(-1)) O),(iq (n:=0) O),E⟩
    ·rintro x y ⟨_,_,_,_,_,_,_,_,_,_,E⟩;rw[C1] at E;cases E
    rintro n5 x y ⟨G,J,dr,ds,d,g,ab,ca,dt,du,E⟩;refine AJ ?_ d g;clear d g y x;rw[C1] at E;refine AU ?_;refine AH O E (λcb E=>?_) (λcb E=>?_)
    ·refine AU ?_;refine A5 (AU ?_);have cc:=b9.mono' ca;refine AZ E O O cc sl_99.1 O λac E dv cd=>?_;obtain⟨dw,_,ce⟩:=cd.lv;refine AU ?_;refine CO gN O ab λdx dy ax cf=>?_;have cg:=ce.mono cf;obtain⟨rfl,⟨ch,ci⟩⟩:=MY.ex cg;refine Cu O O O O ty_290.1 O ax .head O λdz ay d0=>AU ?_;refine BX (.inl O) ay ?_;have d1:=k6.nw;refine AU ?_;obtain⟨cj,j,E⟩:=bd E;refine AY 5 115 (.bool cj) ?_ ?_
     ·cases am:((decide (ac.Bh≤G))||(decide (b.O≤ac.Bh)))
      ·have j:=GW am j;refine AU ?_;refine A8 j O O O JN O (λck az h' o=>CH (St.all h') ci az) λck j=>AU ?_;cases j;exact A0 O
      have j:=GV am j;cases j;exact BF O O
     refine BK (kp [115,10,94,93,13,12,1,14,3,95] O) λd2 a0 d3=>AH O E (λcl E=>?_) (λcl E=>?_)
     ·exact RT
     refine AU ?_;refine BE (AU ?_);refine WF.nil (λx y d g=>?_);have a1:=a0.drop .head;exact⟨ac.Bh,(BD (J+1)),_,_,d.sub (kp [94,93,13,12,1,14,3,8,95] O),g,a1,EX,ch,(BI _),E⟩
    refine J6 O (WF.nil (λx y d g=>?_));exact⟨z,_,_,d.sub (kp [13,12,1,14,3] O),g,ab,EX,b8,E⟩
   rintro x y ⟨U,d4,d5,d,g,a2,d6,df,E⟩;refine AJ ?_ d g;clear d g y x;rw[Ca] at E;refine AU ?_;refine WF.nil (λx y d g=>?_);exact⟨U,(BD (k+1)),_,_,d.sub (kp [13,12,1,3,14] O),g,a2,EX,df,(BI _),E⟩
  refine BC O (λx y d g=>?_);exact⟨M,_,_,d.sub (kp [3] O),g,ah,a3,a4,E⟩
 rintro x y ⟨ae,d7,d8,d,g,dg,d9,eh,E⟩;refine AJ ?_ d g;clear d g y x;rw[B7] at E;exact RT
def Nt (W:St S L h) {b:Value}{d:(List BS)}(k:Sl S h B3 b d) {c:Value}{g:(List BS)}(l:Sl S h B3 c g) {r:Bool}(E:Hm N d g=some r):
 B0 prog 279 #[b,c] S h (λv S' h'=>v= .bool r∧St S' (L) h'):=by
 refine BA 66 func279 O ntmps279 O λB=>?_;rw[Hm] at E;refine AU ?_;refine BX (.inl O) W (AU ?_);refine A8 E O O O Pi O (λy1 X h' o=>HS (St.all h') (k.mono' (o.all W.1)) X) λy1 E=>AU ?_;obtain⟨b4,m,E⟩:=bd E;refine AY 4 20 (.bool b4) ?_ ?_
 ·cases c3:(!y1)
  ·have m:=GW c3 m;refine AU ?_;refine A8 m O O O Pi O (λy5 Y h' o=>HS (St.all h') (l.mono' (o.all W.1)) Y) λy5 m=>AU ?_;cases m;exact A0 O
  have m:=GV c3 m;cases m;exact BF O O
 refine BK (kp [20,0,1] O) λZ ab e9=>AH O E (λac E=>?_) (λac E=>?_)
 ·exact RT
 have ad:=k.mono' e9;refine AU ?_;refine AO (λa w=>IV B S Z (66,[]) a w [(0,b),(1,c)] (L) λ_ _=>GN N d g=some r) ?_ ?_
 ·refine A4 (λn1=>λa w=>∃(s:Int),IV B S Z (66,[]) a w [(22,vI (↑d.length:Int)),(21,b),(0,b),(1,c),(23,vI s)] (L) λ_ _=>AA s∧GM N d g (GN N d g) n1 s=some r) N ?_ ?_ ?_
  ·intro p q i j;exact⟨0,_,_,i.sub (kp [22,21,0,1,23] O),j,ab,(CB.refl S Z),(iq (n:=0) O),E⟩
  ·rintro p q ⟨_,_,_,_,_,_,_,_,E⟩;rw[GM] at E;cases E
  rintro n1 p q ⟨s,a7,a8,i,j,u,D,a9,E⟩;refine AJ ?_ i j;clear i j q p;rw[GM] at E;refine AU ?_;refine AH O E (λae E=>?_) (λae E=>?_)
  ·refine AU ?_;refine A5 (AU ?_);have af:=ad.mono' D;refine AZ E O O af sl_98.1 O λba E bb ag=>?_;obtain⟨bc,_,ah⟩:=ag.lv;refine AU ?_;refine CO Te O u λbe bf F ai=>?_;have aj:=ah.mono ai;obtain⟨rfl,⟨ak,bg⟩⟩:=B3.ex aj;refine Cu O O O O ty_137.1 O F .head O λbh x bi=>AU ?_;refine BX (.inl O) x (AU ?_);have am:=l.nw;refine CA E O O O V6 O (λan G h' o=>Ll (St.all h') (am.mono' (o.all x.1)) ak G) λan E ao=>?_;have bj:=ao;refine AU ?_;refine BK (kp [7,6,22,21,0,1,23] O) λbk H bl=>AU ?_;refine AH O E (λap E=>?_) (λap E=>?_)
   ·exact RT
   refine AU ?_;refine BE (AU ?_);refine WF.nil (λp q i j=>?_);have I:=H.drop .head;exact⟨(BD (s+1)),_,_,i.sub (kp [22,21,0,1,23] O),j,I,EX,(BI _),E⟩
  refine BC O (λp q i j=>?_);exact⟨_,_,i.sub (kp [0,1] O),j,u,D,E⟩
 rintro p q ⟨A,C,i,j,J,bm,E⟩;refine AJ ?_ i j;clear i j q p;rw[GN] at E;have aq:=l.nw;refine AU ?_;refine AO (λa w=>IV B A C (66,[]) a w [] (L) λ_ _=>Hq N=some r) ?_ ?_
 ·refine A4 (λn3=>λa w=>∃(t:Int),IV B A C (66,[]) a w [(40,vI (↑g.length:Int)),(39,c),(0,b),(41,vI t)] (L) λ_ _=>AA t∧GL N d g (Hq N) n3 t=some r) N ?_ ?_ ?_
  ·intro p q i j;exact⟨0,_,_,i.sub (kp [40,39,0,41] O),j,J,(CB.refl A C),(iq (n:=0) O),E⟩
  ·rintro p q ⟨_,_,_,_,_,_,_,_,E⟩;rw[GL] at E;cases E
  rintro n3 p q ⟨t,bn,bo,i,j,y,K,bp,E⟩;refine AJ ?_ i j;clear i j q p;rw[GL] at E;refine AU ?_;refine AH O E (λar E=>?_) (λar E=>?_)
  ·refine AU ?_;refine A5 (AU ?_);have au:=aq.mono' K;refine AZ E O O au sl_98.1 O λbq E br av=>?_;obtain⟨bs,_,aw⟩:=av.lv;refine AU ?_;refine CO Te O y λbt bu M ax=>?_;have ay:=aw.mono ax;obtain⟨rfl,⟨az,bv⟩⟩:=B3.ex ay;refine Cu O O O O ty_137.1 O M .head O λbw z bx=>AU ?_;refine BX (.inl O) z (AU ?_);have a0:=k.nw;refine CA E O O O V6 O (λa1 Q h' o=>Ll (St.all h') (a0.mono' (o.all z.1)) az Q) λa1 E a2=>?_;have bz:=a2;refine AU ?_;refine BK (kp [12,11,10,40,39,0,41] O) λb0 U b1=>AU ?_;refine AH O E (λa3 E=>?_) (λa3 E=>?_)
   ·exact RT
   refine AU ?_;refine BE (AU ?_);refine WF.nil (λp q i j=>?_);have V:=U.drop .head;exact⟨(BD (t+1)),_,_,i.sub (kp [40,39,0,41] O),j,V,EX,(BI _),E⟩
  refine BC O (λp q i j=>?_);exact⟨_,_,i.sub NA,j,y,K,E⟩
 rintro p q ⟨b2,a5,i,j,a4,a6,E⟩;refine AJ ?_ i j;clear i j q p;rw[Hq] at E;exact RT
def OB (hs:St S L h) {I:Value}{D:BM}(W:Rd S h BZ I D) {r:Bool}(E:FU N D=some r):
 B0 prog 236 #[I] S h (λv S' h'=>v= .bool r∧St S' (L) h'):=by
 refine BA 152 func236 O ntmps236 O λB=>?_;rw[FU] at E;refine AU ?_;refine By O W CE O hs λq1 S2 h3 C e5 H=>AU ?_;refine A5 (AU ?_);refine AH O E (λc7 E=>?_) (λc7 E=>?_)
 ·refine AU ?_;refine BX (.inl O) C ?_;have c8:=H.fl Kv;obtain⟨eu,_,c9⟩:=c8.ll;refine AU ?_;refine A8 E O O O Pi O (λa5 a6 h' o=>HS (St.all h') (c9.mono' (o.all C.1)) a6) λa5 E=>AU ?_;obtain⟨a7,q,E⟩:=bd E;refine AY 5 15 (.bool a7) ?_ ?_
  ·cases a8:a5
   ·have q:=GW a8 q;cases q;exact BF O O
   have q:=GV a8 q;have da:=H.fl Kw;have db:=da.fl Ps;obtain⟨ev,_,dc⟩:=db.ll;refine AU ?_;refine A8 q O O O Pi O (λdd a9 h' o=>HS (St.all h') (dc.mono' (o.all C.1)) a9) λdd q=>AU ?_;cases q;exact A0 O
  refine AU ?_;obtain⟨ba,s,E⟩:=bd E;refine AY 5 21 (.bool ba) ?_ ?_
  ·cases bb:a7
   ·have s:=GW bb s;cases s;exact BF O O
   have s:=GV bb s;have de:=H.fl Kw;have df:=de.fl Pu;obtain⟨ew,_,dg⟩:=df.ll;refine AU ?_;refine A8 s O O O Pi O (λdh bc h' o=>HS (St.all h') (dg.mono' (o.all C.1)) bc) λdh s=>AU ?_;cases s;exact A0 O
  refine AU ?_;obtain⟨be,t,E⟩:=bd E;refine AY 7 29 (.bool be) ?_ ?_
  ·cases bf:ba
   ·have t:=GW bf t;cases t;exact BF O O
   have t:=GV bf t;have di:=H.fl Kw;have dj:=di.fl Ps;obtain⟨ex,_,dk⟩:=dj.ll;have dl:=H.fl Kv;obtain⟨ey,_,dm⟩:=dl.ll;refine AU ?_;refine A8 t O O O Z0 O (λdn bg h' o=>Nt (St.all h') (dk.mono' (o.all C.1)) (dm.mono' (o.all C.1)) bg) λdn t=>AU ?_;cases t;exact A0 O
  refine AU ?_;obtain⟨bh,u,E⟩:=bd E;refine AY 7 37 (.bool bh) ?_ ?_
  ·cases bi:be
   ·have u:=GW bi u;cases u;exact BF O O
   have u:=GV bi u;have dp:=H.fl Kv;obtain⟨ez,_,dq⟩:=dp.ll;have dr:=H.fl Kw;have ds:=dr.fl Pu;obtain⟨e0,_,dt⟩:=ds.ll;refine AU ?_;refine A8 u O O O Z0 O (λdu bj h' o=>Nt (St.all h') (dq.mono' (o.all C.1)) (dt.mono' (o.all C.1)) bj) λdu u=>AU ?_;cases u;exact A0 O
  refine AU ?_;obtain⟨bk,x,E⟩:=bd E;refine AY 4 42 (.bool bk) ?_ ?_
  ·cases bl:bh
   ·have x:=GW bl x;cases x;exact BF O O
   have x:=GV bl x;have dv:=H.fl Fe;have dw:=dv.i;refine AU ?_;refine A8 x O O O G3 O (λdx bm h' o=>B8 (St.all h') dw (iq (n:=0) O) (iq (n:=64) O) bm) λdx x=>AU ?_;cases x;exact A0 O
  refine AU ?_;obtain⟨bn,y,E⟩:=bd E;refine AY 6 49 (.bool bn) ?_ ?_
  ·cases bo:bk
   ·have y:=GW bo y;cases y;exact BF O O
   have y:=GV bo y;have dy:=H.fl J7;have dz:=dy.i;have d0:=H.fl Fe;have d1:=d0.i;refine AU ?_;refine A8 y O O O G3 O (λd2 bp h' o=>B8 (St.all h') dz (iq (n:=0) O) d1 bp) λd2 y=>AU ?_;cases y;exact A0 O
  refine AU ?_;obtain⟨bq,z,E⟩:=bd E;refine AY 4 54 (.bool bq) ?_ ?_
  ·cases br:bn
   ·have z:=GW br z;cases z;exact BF O O
   have z:=GV br z;have d3:=H.fl Np;have d4:=d3.i;refine AU ?_;refine A8 z O O O JN O (λd5 bs h' o=>CH (St.all h') d4 bs) λd5 z=>AU ?_;cases z;exact A0 O
  refine AU ?_;obtain⟨d6,A,E⟩:=bd E;refine AY 6 61 (.bool d6) ?_ ?_
  ·cases bt:bq
   ·have A:=GW bt A;cases A;exact BF O O
   have A:=GV bt A;have d7:=H.fl JI;have d8:=d7.i;have d9:=H.fl JJ;have ea:=d9.i;refine AU ?_;refine A8 A O O O V7 O (λeb bu h' o=>KP (St.all h') d8 ea bu) λeb A=>AU ?_;cases A;exact A0 O
  refine AU ?_;exact BK (kp [2] O) λeh ec ei=>RT
 refine AU ?_;refine Gq (λa w=>∃(U:Bool),IV B S2 h3 (152,[]) a w [(4,vI D.F),(1,q1),(72,.bool U)] (L) λ_ _=>Dg N D U=some r) ?_ ?_
 ·refine AH O E (λbv E=>?_) (λbv E=>?_)
  ·refine AU ?_;refine WF.nil (λaa ww hf hw=>?_);exact⟨(decide (D.F=1)),_,_,hf.sub (kp [4,1,72] O),hw,C,(CB.refl S2 h3),E⟩
  refine AU ?_;refine WF.nil (λaa ww hf hw=>?_);exact⟨(decide (D.F=5)),_,_,hf.sub (kp [4,1,72] O),hw,C,(CB.refl S2 h3),E⟩
 rintro aa ww ⟨U,ej,ek,hf,hw,G,J,E⟩;refine AJ ?_ hf hw;clear hf hw ww aa;rw[Dg] at E;refine AH O E (λbw E=>?_) (λbw E=>?_)
 ·refine AU ?_;refine BX (.inl O) G ?_;have V:=H.mono J;have bx:=V.fl M3;have bz:=bx.i;refine AU ?_;refine A8 E O O O JN O (λX aq h' o=>CH (St.all h') bz aq) λX E=>AU ?_;obtain⟨Y,b,E⟩:=bd E;refine AY 4 82 (.bool Y) ?_ ?_
  ·cases Z:X
   ·have b:=GW Z b;cases b;exact BF O O
   have b:=GV Z b;have b0:=V.fl BM.f_Num;have b1:=b0.i;refine AU ?_;refine A8 b O O O JN O (λb2 ar h' o=>CH (St.all h') b1 ar) λb2 b=>AU ?_;cases b;exact A0 O
  refine AU ?_;obtain⟨b3,c,E⟩:=bd E;refine AY 4 87 (.bool b3) ?_ ?_
  ·cases ab:Y
   ·have c:=GW ab c;cases c;exact BF O O
   have c:=GV ab c;have b4:=V.fl BM.f_Den;have b5:=b4.i;refine AU ?_;refine A8 c O O O G3 O (λb6 au h' o=>B8 (St.all h') b5 (iq (n:=1) O) (iq (n:=1125899906842624) O) au) λb6 c=>AU ?_;cases c;exact A0 O
  refine AU ?_;exact BK (kp [2] O) λel ed em=>RT
 refine AU ?_;refine AH O E (λb7 E=>?_) (λb7 E=>?_)
 ·refine AU ?_;refine BX (.inl O) G ?_;have K:=H.mono J;have b8:=K.fl BM.f_Num;have b9:=b8.i;refine AU ?_;refine A8 E O O O JN O (λac av h' o=>CH (St.all h') b9 av) λac E=>AU ?_;obtain⟨ad,d,E⟩:=bd E;refine AY 4 97 (.bool ad) ?_ ?_
  ·cases ae:ac
   ·have d:=GW ae d;cases d;exact BF O O
   have d:=GV ae d;have ca:=K.fl Fe;have cb:=ca.i;refine AU ?_;refine A8 d O O O G3 O (λcc aw h' o=>B8 (St.all h') cb (iq (n:=1) O) (iq (n:=64) O) aw) λcc d=>AU ?_;cases d;exact A0 O
  refine AU ?_;obtain⟨cd,g,E⟩:=bd E;refine AY 6 104 (.bool cd) ?_ ?_
  ·cases af:ad
   ·have g:=GW af g;cases g;exact BF O O
   have g:=GV af g;have ce:=K.fl J7;have cf:=ce.i;have cg:=K.fl Fe;have ch:=cg.i;refine AU ?_;refine A8 g O O O G3 O (λci ax h' o=>B8 (St.all h') cf (iq (n:=0) O) ch ax) λci g=>AU ?_;cases g;exact A0 O
  refine AU ?_;exact BK (kp [2] O) λen ee eo=>RT
 refine AU ?_;refine AH O E (λcj E=>?_) (λcj E=>?_)
 ·refine AU ?_;refine BX (.inl O) G ?_;have M:=H.mono J;have ck:=M.fl BM.f_Num;have cl:=ck.i;refine AU ?_;refine A8 E O O O JN O (λag ay h' o=>CH (St.all h') cl ay) λag E=>AU ?_;obtain⟨ah,j,E⟩:=bd E;refine AY 4 114 (.bool ah) ?_ ?_
  ·cases ai:ag
   ·have j:=GW ai j;cases j;exact BF O O
   have j:=GV ai j;have cm:=M.fl BM.f_Den;have cn:=cm.i;refine AU ?_;refine A8 j O O O G3 O (λco az h' o=>B8 (St.all h') cn (iq (n:=1) O) (iq (n:=1125899906842624) O) az) λco j=>AU ?_;cases j;exact A0 O
  refine AU ?_;obtain⟨aj,k,E⟩:=bd E;refine AY 4 119 (.bool aj) ?_ ?_
  ·cases ak:ah
   ·have k:=GW ak k;cases k;exact BF O O
   have k:=GV ak k;have cp:=M.fl PP;have cq:=cp.i;refine AU ?_;refine A8 k O O O JN O (λcr a0 h' o=>CH (St.all h') cq a0) λcr k=>AU ?_;cases k;exact A0 O
  refine AU ?_;obtain⟨cs,l,E⟩:=bd E;refine AY 4 124 (.bool cs) ?_ ?_
  ·cases al:aj
   ·have l:=GW al l;cases l;exact BF O O
   have l:=GV al l;have ct:=M.fl PQ;have cu:=ct.i;refine AU ?_;refine A8 l O O O JN O (λcv a1 h' o=>CH (St.all h') cu a1) λcv l=>AU ?_;cases l;exact A0 O
  refine AU ?_;exact BK (kp [2] O) λep ef eq=>RT
 refine AU ?_;refine BE (AU ?_);refine BX (.inl O) G ?_;have Q:=H.mono J;have cw:=Q.fl BM.f_Num;have cx:=cw.i;refine AU ?_;refine A8 E O O O JN O (λam a2 h' o=>CH (St.all h') cx a2) λam E=>AU ?_;obtain⟨an,m,E⟩:=bd E;refine AY 4 139 (.bool an) ?_ ?_
 ·cases ao:am
  ·have m:=GW ao m;cases m;exact BF O O
  have m:=GV ao m;have cy:=Q.fl BM.f_Den;have cz:=cy.i;refine AU ?_;refine A8 m O O O G3 O (λc0 a3 h' o=>B8 (St.all h') cz (iq (n:=1) O) (iq (n:=1125899906842624) O) a3) λc0 m=>AU ?_;cases m;exact A0 O
 refine AU ?_;obtain⟨c1,p,E⟩:=bd E;refine AY 6 146 (.bool c1) ?_ ?_
 ·cases ap:an
  ·have p:=GW ap p;cases p;exact BF O O
  have p:=GV ap p;have c2:=Q.fl JI;have c3:=c2.i;have c4:=Q.fl JJ;have c5:=c4.i;refine AU ?_;refine A8 p O O O V7 O (λc6 a4 h' o=>KP (St.all h') c3 c5 a4) λc6 p=>AU ?_;cases p;exact A0 O
 refine AU ?_;exact BK (kp [2] O) λer eg es=>RT
def N7 (l:St S L h) {a:Value}{c:BM}(b:Rd S h BZ a c) {r:Bool}(E:FT N c=some r):
 B0 prog 237 #[a] S h (λv S' h'=>v= .bool r∧St S' (L) h'):=by
 refine BA 112 func237 O ntmps237 O λB=>?_;rw[FT] at E;refine AU ?_;refine By O b CE O l λn S2 o m p q=>AU ?_;refine AH O E (λd E=>?_) (λd E=>?_)
 ·exact RT
 refine AU ?_;refine AH O E (λg E=>?_) (λg E=>?_)
 ·exact RT
 refine AU ?_;refine AH O E (λi E=>?_) (λi E=>?_)
 ·exact RT
 refine AU ?_;refine AH O E (λj E=>?_) (λj E=>?_)
 ·exact RT
 refine AU ?_;refine AH O E (λk E=>?_) (λk E=>?_)
 ·exact RT
 exact RT
def Og (hs:St S L h) {k:Value}{l:AF}(t:Rd S h BO k l) {r:Bool}(E:E2 N l=some r):
 B0 prog 178 #[k] S h (λv S' h'=>v= .bool r∧St S' (L) h'):=by
 refine BA 51 func178 O ntmps178 O λB=>?_;rw[E2] at E;refine AU ?_;refine By O t CE O hs λq1 S2 h3 a0 e5 k6=>?_;have k8:=k6.fl Gh;obtain⟨v9,_,a1⟩:=k8.ll;refine AU ?_;refine AO (λa w=>IV B S2 h3 (51,[]) a w [] (L) λ_ _=>DL N=some r) ?_ ?_
 ·refine A4 (λn1=>λa w=>∃(p:Int),IV B S2 h3 (51,[]) a w [(7,vI (↑l.E.length:Int)),(6,v9),(1,q1),(8,vI p)] (L) λ_ _=>AA p∧CW N l (DL N) n1 p=some r) N ?_ ?_ ?_
  ·intro z A q s;exact⟨0,_,_,q.sub (kp [7,6,1,8] O),s,a0,(CB.refl S2 h3),(iq (n:=0) O),E⟩
  ·rintro z A ⟨_,_,_,_,_,_,_,_,E⟩;rw[CW] at E;cases E
  rintro n1 z A ⟨p,bu,bv,q,s,y,H,bw,E⟩;refine AJ ?_ q s;clear q s A z;rw[CW] at E;refine AU ?_;refine AH O E (λa2 E=>?_) (λa2 E=>?_)
  ·refine AU ?_;refine A5 (AU ?_);have a3:=a1.mono' H;refine AZ E O O a3 sl_24.1 O λI E bx a4=>?_;obtain⟨bz,_,a5⟩:=a4.lv;refine AU ?_;refine CO OD O y λb0 b1 J a6=>?_;have a7:=a5.mono a6;obtain⟨b2,b3,b4,rfl,K,C,u,D,M,Q,U,V,W,X,Y,Z,ab,ac,ad,ae,af,F⟩:=BZ.ex a7;refine Dk O O O ON ty_117.1 O J .head O λb5 b m=>AU ?_;refine BX (.inl O) b (AU ?_);refine A8 E O O O G3 O (λag ah h' o=>B8 (St.all h') C (iq (n:=0) O) (iq (n:=5) O) ah) λag E=>AU ?_;obtain⟨ai,c,E⟩:=bd E;refine AY 8 24 (.bool ai) ?_ ?_
   ·cases aj:(!ag)
    ·have c:=GW aj c;have a8:=k6.nw;have a9:=a8.fl B4;obtain⟨b6,_,ba⟩:=a9.ll;have bb:=ba.le;refine AU ?_;refine A8 c O O O Ph O (λbc ak h' o=>HT (St.all h') u (Je bb) ak) λbc c=>AU ?_;cases c;exact A0 O
    have c:=GV aj c;cases c;exact BF O O
   refine AU ?_;obtain⟨am,d,E⟩:=bd E;refine AY 8 33 (.bool am) ?_ ?_
   ·cases an:ai
    ·have d:=GW an d;have be:=k6.nw;obtain⟨b7,_,bf⟩:=be.lv;refine AU ?_;refine A8 d O O O Z8 O (λbg ao h' o=>NL (St.all h') (bf.mono (o.all b.1)) u D ao) λbg d=>AU ?_;cases d;exact A0 O
    have d:=GV an d;cases d;exact BF O O
   refine AU ?_;obtain⟨ap,g,E⟩:=bd E;refine AY 5 39 (.bool ap) ?_ ?_
   ·cases aq:am
    ·have g:=GW aq g;refine AU ?_;refine A8 g O O O G3 O (λbh ar h' o=>B8 (St.all h') F (iq (n:=0) O) (iq (n:=240) O) ar) λbh g=>AU ?_;cases g;exact A0 O
    have g:=GV aq g;cases g;exact BF O O
   refine AU ?_;obtain⟨au,i,E⟩:=bd E;refine AY 4 44 (.bool au) ?_ ?_
   ·cases av:ap
    ·have i:=GW av i;refine AU ?_;have bi:=M.mono' m;have bj:=Q.mono' m;have bk:=U.mono' m;obtain⟨b8,aw,i⟩:=bd i;refine Kt O O O kK O (λh' o=>OB (St.all h') (BZ.mk (x:=I) K C u D (bi.mono' (o.all b.1)) (bj.mono' (o.all b.1)) (bk.mono' (o.all b.1)) V W X Y Z ab ac ad ae af F) aw) (AU ?_);cases i;exact A0 O
    have i:=GV av i;cases i;exact BF O O
   refine AU ?_;obtain⟨bl,j,E⟩:=bd E;refine AY 4 49 (.bool bl) ?_ ?_
   ·cases ax:au
    ·have j:=GW ax j;refine AU ?_;have bm:=M.mono' m;have bn:=Q.mono' m;have bo:=U.mono' m;obtain⟨b9,ay,j⟩:=bd j;refine Kt O O O kJ O (λh' o=>N7 (St.all h') (BZ.mk (x:=I) K C u D (bm.mono' (o.all b.1)) (bn.mono' (o.all b.1)) (bo.mono' (o.all b.1)) V W X Y Z ab ac ad ae af F) ay) (AU ?_);cases j;exact A0 O
    have j:=GV ax j;cases j;exact BF O O
   refine BK (kp [49,7,6,1,8] O) λca az cb=>AH O E (λbp E=>?_) (λbp E=>?_)
   ·exact RT
   refine AU ?_;refine BE (AU ?_);refine WF.nil (λz A q s=>?_);have G:=az.drop .head;exact⟨(BD (p+1)),_,_,q.sub (kp [7,6,1,8] O),s,G,EX,(BI _),E⟩
  refine BC O (λz A q s=>?_);exact⟨_,_,q.sub NA,s,y,H,E⟩
 rintro z A ⟨br,bs,q,s,bq,bt,E⟩;refine AJ ?_ q s;clear q s A z;rw[DL] at E;exact RT
def Oh (l:St S L h) {c:Value}{i:AF}(d:Rd S h BO c i) {a:Int}(g:AA a) {b:Int}(j:AA b) {r:Bool}(E:Jl N i a b=some r):
 B0 prog 238 #[c,vI a,vI b] S h (λv S' h'=>v= .bool r∧St S' (L) h'):=by
 refine BA 27 func238 O ntmps238 O λB=>?_;rw[Jl] at E;refine AU ?_;refine By O d CE O l λw S2 x m y n=>AU ?_;refine AH O E (λo E=>?_) (λo E=>?_)
 ·exact RT
 have p:=n.fl B4;obtain⟨q,_,k⟩:=p.ll;refine AU ?_;exact AZ E O O k sl_23.1 O λs E t u=>RT
def Ni (hs:St S L h) {m:Value}{d:AF}(u:Rd S h BO m d) {r:Bool}(E:HK N d=some r):
 B0 prog 179 #[m] S h (λv S' h'=>v= .bool r∧St S' (L) h'):=by
 refine BA 60 func179 O ntmps179 O λB=>?_;rw[HK] at E;refine AU ?_;refine By O u CE O hs λq1 S2 h3 ap e5 k6=>?_;have k8:=k6.fl B4;obtain⟨v9,_,aq⟩:=k8.ll;refine AU ?_;refine AO (λa w=>IV B S2 h3 (60,[]) a w [(1,q1)] (L) λ_ _=>DO N d=some r) ?_ ?_
 ·refine A4 (λn1=>λa w=>∃(p:Int),IV B S2 h3 (60,[]) a w [(10,vI (↑d.A.length:Int)),(9,v9),(1,q1),(11,vI p)] (L) λ_ _=>AA p∧DN N d (DO N d) n1 p=some r) N ?_ ?_ ?_
  ·intro k l g j;exact⟨0,_,_,g.sub (kp [10,9,1,11] O),j,ap,(CB.refl S2 h3),(iq (n:=0) O),E⟩
  ·rintro k l ⟨_,_,_,_,_,_,_,_,E⟩;rw[DN] at E;cases E
  rintro n1 k l ⟨p,cg,ch,g,j,x,Q,ci,E⟩;refine AJ ?_ g j;clear g j l k;rw[DN] at E;refine AU ?_;refine AH O E (λar E=>?_) (λar E=>?_)
  ·refine AU ?_;refine A5 (AU ?_);have au:=aq.mono' Q;refine AZ E O O au sl_23.1 O λcj E ck av=>?_;obtain⟨cl,_,aw⟩:=av.lv;refine AU ?_;refine CO Mw O x λcm cn U ax=>?_;have ay:=aw.mono ax;obtain⟨co,cp,cq,rfl,cr,cs,az,ct,cu,cv,cw,cx,a0,cy,cz,c0⟩:=B9.ex ay;refine Dk O O O ON ty_101.1 O U .head O λc1 y c2=>AU ?_;refine BX (.inl O) y ?_;have a1:=k6.nw;obtain⟨c3,_,a2⟩:=a1.lv;refine AU ?_;refine A8 E O O O Z7 O (λa3 V h' o=>Oh (St.all h') (a2.mono (o.all y.1)) az a0 V) λa3 E=>AU ?_;refine BK (kp [21,10,9,1,11] O) λc4 W c5=>AH O E (λa4 E=>?_) (λa4 E=>?_)
   ·exact RT
   refine AU ?_;refine BE (AU ?_);refine WF.nil (λk l g j=>?_);have X:=W.drop .head;exact⟨(BD (p+1)),_,_,g.sub (kp [10,9,1,11] O),j,X,EX,(BI _),E⟩
  refine BC O (λk l g j=>?_);exact⟨_,_,g.sub (kp [1] O),j,x,Q,E⟩
 rintro k l ⟨H,I,g,j,Y,a5,E⟩;refine AJ ?_ g j;clear g j l k;rw[DO] at E;have Z:=k6.mono a5;have a6:=Z.fl Gh;obtain⟨a7,_,a8⟩:=a6.ll;refine AU ?_;refine AO (λa w=>IV B H I (60,[]) a w [] (L) λ_ _=>Es N=some r) ?_ ?_
 ·refine A4 (λn3=>λa w=>∃(q:Int),IV B H I (60,[]) a w [(25,vI (↑d.E.length:Int)),(24,a7),(1,q1),(26,vI q)] (L) λ_ _=>AA q∧DM N d (Es N) n3 q=some r) N ?_ ?_ ?_
  ·intro k l g j;exact⟨0,_,_,g.sub (kp [25,24,1,26] O),j,Y,(CB.refl H I),(iq (n:=0) O),E⟩
  ·rintro k l ⟨_,_,_,_,_,_,_,_,E⟩;rw[DM] at E;cases E
  rintro n3 k l ⟨q,c6,c7,g,j,z,ab,c8,E⟩;refine AJ ?_ g j;clear g j l k;rw[DM] at E;refine AU ?_;refine AH O E (λa9 E=>?_) (λa9 E=>?_)
  ·refine AU ?_;refine A5 (AU ?_);have ba:=a8.mono' ab;refine AZ E O O ba sl_24.1 O λbb E c9 bc=>?_;obtain⟨da,_,be⟩:=bc.lv;refine AU ?_;refine CO OD O z λdb dc ac bf=>?_;have bg:=be.mono bf;obtain⟨bj,bk,bl,rfl,dd,de,df,bh,bm,bn,bo,bp,bq,br,bs,bt,bu,bv,bw,bx,bz,b0⟩:=BZ.ex bg;refine Dk O O O ON ty_117.1 O ac .head O λb1 s b2=>?_;have t:=Z.nw;have ad:=t.fl B4;obtain⟨b3,_,ae⟩:=ad.ll;refine AU ?_;refine AZ E O O ae sl_23.1 O λb4 E b5 af=>?_;have ag:=af.fl Nx;have ah:=ag.i;refine AU ?_;refine BX (.inl O) s ?_;obtain⟨b6,_,ai⟩:=t.lv;refine AU ?_;refine A8 E O O O Z7 O (λC J h' o=>Oh (St.all h') (ai.mono (o.all s.1)) ah bh J) λC E=>AU ?_;obtain⟨aj,b,E⟩:=bd E;refine AY 15 58 (.bool aj) ?_ ?_
   ·cases D:(!C)
    ·have b:=GW D b;refine AU ?_;obtain⟨ak,c,b⟩:=bd b;refine AY 10 57 (.bool ak) ?_ ?_
     ·cases G:(decide (bb.F=4))
      ·have c:=GW G c;cases c;exact BF O O
      have c:=GV G c;have am:=t.fl B4;obtain⟨b7,_,an⟩:=am.ll;refine AU ?_;refine AZ c O O an sl_23.1 O λb8 c b9 ca=>AU ?_;cases c;exact A0 O
     refine AU ?_;cases b;exact A0 O
    have b:=GV D b;cases b;exact BF O O
   refine BK (kp [58,25,24,1,26] O) λcb K cc=>AH O E (λao E=>?_) (λao E=>?_)
   ·exact RT
   refine AU ?_;refine BE (AU ?_);refine WF.nil (λk l g j=>?_);have M:=K.drop .head;exact⟨(BD (q+1)),_,_,g.sub (kp [25,24,1,26] O),j,M,EX,(BI _),E⟩
  refine BC O (λk l g j=>?_);exact⟨_,_,g.sub NA,j,z,ab,E⟩
 rintro k l ⟨cd,ce,g,j,bi,cf,E⟩;refine AJ ?_ g j;clear g j l k;rw[Es] at E;exact RT
def IH (F:St S L h) {b:Int}(k:AA b) {c:Int}(l:AA c) {r:Int}(E:Fp N b c=some r):
 B0 prog 239 #[vI b,vI c] S h (λv S' h'=>v=vI r∧AA r∧St S' (L) h'):=by
 refine BA 34 func239 O ntmps239 O λB=>?_;rw[Fp] at E;refine AU ?_;refine AH O E (λG E=>?_) (λG E=>?_)
 ·exact RT
 refine AU ?_;refine AH O E (λH E=>?_) (λH E=>?_)
 ·exact RT
 refine AU ?_;refine BX (.inl O) F (AU ?_);refine D7 O Lw Ij O ?_;obtain⟨s,t,E⟩:=bd E;refine IW (v:= .tuple #[.int .u64 s.1,.int .u64 s.2]) (Ψ:=IntKind.has .u64 s.1∧IntKind.has .u64 s.2) O O O Z4 O (λh' o=>(Lr (St.all h') (Cf _ _) (show IntKind.has .u64 1099511627776 by first|assumption|exact⟨by decide,by decide⟩) t).mono λ_ _ _ _ p=>⟨p.1,⟨p.2.1,p.2.2.1⟩⟩) λI=>?_;obtain⟨J,K⟩:=I;refine AU ?_;refine BK (kp [6,5,1] O) λY u Z=>AU ?_;refine BX (.inl O) u (AU ?_);refine D7 O Lw Ij O ?_;obtain⟨d,q,E⟩:=bd E;refine IW (v:= .tuple #[.int .u64 d.1,.int .u64 d.2]) (Ψ:=IntKind.has .u64 d.1∧IntKind.has .u64 d.2) O O O Z3 O (λh' o=>(Ls (St.all h') J K (Cf _ _) q).mono λ_ _ _ _ p=>⟨p.1,⟨p.2.1,p.2.2.1⟩⟩) λx=>?_;obtain⟨y,M⟩:=x;refine AU ?_;refine BK (kp [8,7] O) λj i Q=>AU ?_;refine Gq (λa w=>∃(g:Int),IV B S j (34,[]) a w [(7,.int .u64 g)] (L) λ_ _=>IntKind.has .u64 g∧Jk N g=some r) ?_ ?_
 ·refine AH O E (λz E=>?_) (λz E=>?_)
  ·refine AU ?_;refine WF.nil (λA C m n=>?_);exact⟨(IntKind.wrap .u64 (d.1+1)),_,_,m.sub (kp [7] O),n,i,(CB.refl S j),(Cf _ _),E⟩
  refine AU ?_;refine WF.nil (λA C m n=>?_);exact⟨d.1,_,_,m.sub (kp [7] O),n,i,(CB.refl S j),y,E⟩
 rintro A C ⟨g,U,V,m,n,D,W,X,E⟩;refine AJ ?_ m n;clear m n C A;rw[Jk] at E;refine AU ?_;exact D7 O Ij Lw O (RT)
def Pn (hs:St S L h) {c:Value}{b:(List (List BS))}(i:Sl S h (A7.sl B3) c b) {r:Int}(E:Ix N b=some r):
 B0 prog 240 #[c] S h (λv S' h'=>v=vI r∧AA r∧St S' (L) h'):=by
 refine BA 48 func240 O ntmps240 O λB=>?_;rw[Ix] at E;refine AU ?_;refine AO (λa w=>∃(J:Int),IV B S h (48,[]) a w [(3,vI J)] (L) λ_ _=>AA J∧Dz N J=some r) ?_ ?_
 ·refine A4 (λK=>λa w=>∃(A:Int) (j:Int),IV B S h (48,[]) a w [(8,vI (↑b.length:Int)),(7,c),(3,vI A),(9,vI j)] (L) λ_ _=>AA A∧AA j∧Cx N b (Dz N) K A j=some r) N ?_ ?_ ?_
  ·intro k l d g;exact⟨0,0,_,_,d.sub (kp [8,7,3,9] O),g,hs,(CB.refl S h),(iq (n:=0) O),(iq (n:=0) O),E⟩
  ·rintro k l ⟨_,_,_,_,_,_,_,_,_,_,E⟩;rw[Cx] at E;cases E
  rintro K k l ⟨A,j,y,z,d,g,u,C,r9,ah,E⟩;refine AJ ?_ d g;clear d g l k;rw[Cx] at E;refine AU ?_;refine AH O E (λM E=>?_) (λM E=>?_)
  ·refine AU ?_;refine AO (λa w=>∃(q:Int),IV B y z (48,[]) a w [(8,vI (↑b.length:Int)),(7,c),(9,vI j),(3,vI q)] (L) λ_ _=>AA q∧FQ N j (Cx N b (Dz N) K) q=some r) ?_ ?_
   ·refine AU ?_;have Q:=i.mono' C;refine AZ E O O Q sl_354.1 O λU E ai V=>?_;obtain⟨W,_,s⟩:=V.ll;refine AU ?_;refine A5 (A4 (λn3=>λa w=>∃(m:Int) (t:Int),IV B y z (48,[]) a w [(5,W),(8,vI (↑b.length:Int)),(7,c),(9,vI j),(3,vI m),(6,vI t)] (L) λ_ _=>AA m∧AA t∧Ef N U (FQ N j (Cx N b (Dz N) K)) n3 m t=some r) N ?_ ?_ ?_)
    ·intro k l d g;exact⟨A,1,_,_,d.sub (kp [5,8,7,9,3,6] O),g,u,(CB.refl y z),r9,(iq (n:=1) O),E⟩
    ·rintro k l ⟨_,_,_,_,_,_,_,_,_,_,E⟩;rw[Ef] at E;cases E
    rintro n3 k l ⟨m,t,aj,ak,d,g,x,p,D,al,E⟩;refine AJ ?_ d g;clear d g l k;rw[Ef] at E;have am:=s.mono' p;refine AU ?_;refine AH O E (λX E=>?_) (λX E=>?_)
    ·refine AU ?_;refine A5 (BX (.inr ⟨mo,by kernel_rfl⟩) x (AU ?_));have Y:=s.mono' p;refine AZ E O O Y sl_98.1 O λan E ao ap=>AU ?_;have Z:=s.mono' p;refine AZ E O O Z sl_98.1 O λaq E ar au=>AU ?_;have ab:=s.mono' p;refine AZ E O O ab sl_98.1 O λav E aw ax=>AU ?_;have ac:=s.mono' p;refine AZ E O O ac sl_98.1 O λay E az a0=>AU ?_;refine CA E O O O Qn O (λF G h' o=>IH (St.all h') (BI _) (BI _) G) λF E ad=>?_;have ae:=ad;refine SV O O O (AU ?_);refine BK (kp [3,5,8,7,9,6] O) λa1 H a2=>BE (AU ?_);refine WF.nil (λk l d g=>?_);exact⟨(max m F),(BD (t+1)),_,_,d.sub (kp [5,8,7,9,3,6] O),g,H,EX,(Ql D ae),(BI _),E⟩
    refine J6 O (WF.nil (λk l d g=>?_));exact⟨m,_,_,d.sub (kp [8,7,9,3] O),g,x,p,D,E⟩
   rintro k l ⟨q,a3,a4,d,g,I,a5,af,E⟩;refine AJ ?_ d g;clear d g l k;rw[FQ] at E;refine AU ?_;refine WF.nil (λk l d g=>?_);exact⟨q,(BD (j+1)),_,_,d.sub (kp [8,7,3,9] O),g,I,EX,af,(BI _),E⟩
  refine BC O (λk l d g=>?_);exact⟨A,_,_,d.sub (kp [3] O),g,u,C,r9,E⟩
 rintro k l ⟨J,a6,a7,d,g,ag,a8,r3,E⟩;refine AJ ?_ d g;clear d g l k;rw[Dz] at E;exact RT
end Go.Proofs.YtedgiljmffngoaaGreat
