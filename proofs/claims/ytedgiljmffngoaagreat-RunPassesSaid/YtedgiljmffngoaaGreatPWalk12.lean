import Derived.Test.YtedgiljmffngoaaGreatPInst
import Derived.Test.YtedgiljmffngoaaGreatPForms
import Derived.Test.YtedgiljmffngoaaGreatPSort5
namespace Go.Proofs.YtedgiljmffngoaaGreat
set_option linter.all false
open Go.RowKit
open Go.Proofs.Tryz
set_option maxRecDepth 10000
set_option maxHeartbeats 2000000
variable {N:Nat}{S:Nat→Prop}{L:List HP}{h:AS}
def CI (j:St S L h) {c:Int}(i:AA c) {b:Int}(g:AA b) {a:Int}(d:AA a) {r:Bool}(E:Cc N c b a=some r):
 B6 prog 228 #[vI c,vI b,vI a] S h (λv S' h'=>v= .bool r∧St S' (L) h'):=by
 refine A7 15 func228 O ntmps228 O λB=>?_;rw[Cc] at E;exact RT
def CQ (d:St S L h) {a:Int}(b:AA a) {r:Bool}(E:CS N a=some r):
 B6 prog 229 #[vI a] S h (λv S' h'=>v= .bool r∧St S' (L) h'):=by
 refine A7 5 func229 O ntmps229 O λB=>?_;rw[CS] at E;refine AU ?_;refine BY (.inl O) d (AU ?_);refine A5 E O O O HB O (λg c h' o=>CI (St.all h') b (iq (n:=0) O) (iq (n:=1125899906842624) O) c) λg E=>AU ?_;exact BG (kp [2] O) λj i k=>RT
def Pu (hs:St S L h) {t:Value}{b:AE}(W:Rd S h By t b) {r:Bool}(E:IU N b=some r):
 B6 prog 175 #[t] S h (λv S' h'=>v= .bool r∧St S' (L) h'):=by
 refine A7 (l:=[t]) 109 func175 O ntmps175 O λB=>?_;rw[IU] at E;refine WF.sl (Bz O W (λe=>by cases e) O hs λq1 S2 h3 s e5 D=>L6 1 (Ke O (K2 (LF.nil (kp [1] O) (C6 (C6 (BY (.inl O) s (MA O D AE.f_Name U8.1 O λq7 k8=>Te Od s.1 O k8 Sm.1 O λr9=>MH O MU O (JA O (BP O ?_))))))))));obtain⟨ak,j,E⟩:=bd E;refine AW 6 17 (.bool ak) ?_ ?_
 ·cases al:(decide (500<(↑b.J.size:Int)))
  ·have j:=Gw al j;refine Bw O (MA O D Hb jJ.1 O λcf a6=>Bw O (I9 Od s.1 O a6 tU.1 O λcg a7=>Bw O (NL O a7 lO.1 O λa8=>Bw O ?_)));obtain⟨ch,am,j⟩:=bd j;refine K3 O O O HB O (λh' o=>CI (St.all h') (KU a8) (iq (n:=1) O) (iq (n:=16) O) am) (Bw O (Ph O (Ec O ?_)));cases j;exact AX O
  have j:=Gv al j;cases j;exact BD O O
 refine BP O ?_;obtain⟨an,k,E⟩:=bd E;refine AW 5 23 (.bool an) ?_ ?_
 ·cases ao:ak
  ·have k:=Gw ao k;refine Bw O (MA O D Mw jI.1 O λci a9=>Bw O (FU Od s.1 O a9 Gq.1 O λba=>Bw O ?_));obtain⟨cj,ap,k⟩:=bd k;refine K3 O O O HB O (λh' o=>CI (St.all h') ba (iq (n:=0) O) (iq (n:=64) O) ap) (Bw O (Ph O (Ec O ?_)));cases k;exact AX O
  have k:=Gv ao k;cases k;exact BD O O
 refine BP O ?_;obtain⟨i,m,E⟩:=bd E;refine AW 6 30 (.bool i) ?_ ?_
 ·cases aq:an
  ·have m:=Gw aq m;refine Bw O (MA O D BZ jH.1 O λck bb=>Bw O (I9 Od s.1 O bb tT.1 O λcl bc=>Bw O (NL O bc Kk.1 O λbe=>Bw O ?_)));obtain⟨cm,ar,m⟩:=bd m;refine K3 O O O HB O (λh' o=>CI (St.all h') (KU be) (iq (n:=1) O) (iq (n:=64) O) ar) (Bw O (Ph O (Ec O ?_)));cases m;exact AX O
  have m:=Gv aq m;cases m;exact BD O O
 refine BP O (AW 5 36 (.bool (i||(decide (96<(↑b.F.length:Int))))) ?_ ?_)
 ·cases cn:i
  ·exact Bw O (MA O D Gn jG.1 O λco bf=>Bw O (I9 Od s.1 O bf tS.1 O λcp bg=>Bw O (NL O bg Om.1 O λcq=>Bw O (JA O (Ec O (AX O))))))
  exact BD O O
 refine BP O (AW 5 42 (.bool ((i||(decide (96<(↑b.F.length:Int))))||(decide (40<(↑b.Ab.length:Int))))) ?_ ?_)
 ·cases cr:(i||(decide (96<(↑b.F.length:Int))))
  ·exact Bw O (MA O D Ji jF.1 O λcs bh=>Bw O (I9 Od s.1 O bh tR.1 O λct bi=>Bw O (NL O bi bN.1 O λcu=>Bw O (JA O (Ec O (AX O))))))
  exact BD O O
 refine BP O (AW 5 48 (.bool (((i||(decide (96<(↑b.F.length:Int))))||(decide (40<(↑b.Ab.length:Int))))||(decide (128<(↑b.Ae.length:Int))))) ?_ ?_)
 ·cases cv:((i||(decide (96<(↑b.F.length:Int))))||(decide (40<(↑b.Ab.length:Int))))
  ·exact Bw O (MA O D KP jE.1 O λcw bj=>Bw O (I9 Od s.1 O bj tQ.1 O λcx bk=>Bw O (NL O bk bM.1 O λcy=>Bw O (JA O (Ec O (AX O))))))
  exact BD O O
 refine BP O (AW 5 54 (.bool ((((i||(decide (96<(↑b.F.length:Int))))||(decide (40<(↑b.Ab.length:Int))))||(decide (128<(↑b.Ae.length:Int))))||(decide (128<(↑b.Af.length:Int))))) ?_ ?_)
 ·cases cz:(((i||(decide (96<(↑b.F.length:Int))))||(decide (40<(↑b.Ab.length:Int))))||(decide (128<(↑b.Ae.length:Int))))
  ·exact Bw O (MA O D K6 jD.1 O λc0 bl=>Bw O (I9 Od s.1 O bl tP.1 O λc1 bm=>Bw O (NL O bm bK.1 O λc2=>Bw O (JA O (Ec O (AX O))))))
  exact BD O O
 refine BP O (AW 5 60 (.bool (((((i||(decide (96<(↑b.F.length:Int))))||(decide (40<(↑b.Ab.length:Int))))||(decide (128<(↑b.Ae.length:Int))))||(decide (128<(↑b.Af.length:Int))))||(decide (40<(↑b.Ai.length:Int))))) ?_ ?_)
 ·cases c3:((((i||(decide (96<(↑b.F.length:Int))))||(decide (40<(↑b.Ab.length:Int))))||(decide (128<(↑b.Ae.length:Int))))||(decide (128<(↑b.Af.length:Int))))
  ·exact Bw O (MA O D JV jC.1 O λc4 bn=>Bw O (I9 Od s.1 O bn tO.1 O λc5 bo=>Bw O (NL O bo bJ.1 O λc6=>Bw O (JA O (Ec O (AX O))))))
  exact BD O O
 refine BP O (AW 5 66 (.bool ((((((i||(decide (96<(↑b.F.length:Int))))||(decide (40<(↑b.Ab.length:Int))))||(decide (128<(↑b.Ae.length:Int))))||(decide (128<(↑b.Af.length:Int))))||(decide (40<(↑b.Ai.length:Int))))||(decide ((↑b.Al.length:Int)≠3)))) ?_ ?_)
 ·cases c7:(((((i||(decide (96<(↑b.F.length:Int))))||(decide (40<(↑b.Ab.length:Int))))||(decide (128<(↑b.Ae.length:Int))))||(decide (128<(↑b.Af.length:Int))))||(decide (40<(↑b.Ai.length:Int))))
  ·exact Bw O (MA O D AE.f_Room YN.1 O λc8 bp=>Bw O (I9 Od s.1 O bp Hc.1 O λc9 bq=>Bw O (NL O bq Ce.1 O λda=>Bw O (Sb O (Ec O (AX O))))))
  exact BD O O
 refine BP O ?_;obtain⟨br,p,E⟩:=bd E;refine AW 5 72 (.bool br) ?_ ?_
 ·cases au:((((((i||(decide (96<(↑b.F.length:Int))))||(decide (40<(↑b.Ab.length:Int))))||(decide (128<(↑b.Ae.length:Int))))||(decide (128<(↑b.Af.length:Int))))||(decide (40<(↑b.Ai.length:Int))))||(decide ((↑b.Al.length:Int)≠3)))
  ·have p:=Gw au p;refine Bw O (MA O D AE.f_Err dK.1 O λdb bs=>Bw O (FU Od s.1 O bs Gq.1 O λbt=>Bw O ?_));obtain⟨dc,av,p⟩:=bd p;refine K3 O O O HB O (λh' o=>CI (St.all h') bt (iq (n:=0) O) (iq (n:=1099511627776) O) av) (Bw O (Ph O (Ec O ?_)));cases p;exact AX O
  have p:=Gv au p;cases p;exact BD O O
 refine BG (kp [72,1] O) λac G H=>AG O E (λbu E=>?_) (λbu E=>?_)
 ·refine DP (Dj O (kp [2] O) (B0 (λu x c d=>?_)));cases E;exact UC c d O O (e5.trans H) ⟨O,G⟩
 refine F9 (C6 (DP ?_));have ad:=D.mono H;refine MA O ad AE.f_Name U8.1 O λdd bv=>Te K9 G.1 O bv Sm.1 O λde=>MH O MU O (BP O (Ew (kp [76,75,1] O) (AN (λa w=>IV B S2 ac (109,[]) a w [(1,q1)] (L) λ_ _=>D7 N b=some r) ?_ ?_)))
 ·refine AY (λn1=>λa w=>∃(I:Int),IV B S2 ac (109,[]) a w [(75,vI (↑b.J.size:Int)),(1,q1),(76,vI I)] (L) λ_ _=>AA I∧D6 N b (D7 N b) n1 I=some r) N ?_ ?_ ?_
  ·intro u x c d;exact⟨0,_,_,c.sub (kp [75,1,76] O),d,G,(CG.refl S2 ac),(iq (n:=0) O),E⟩
  ·rintro u x ⟨_,_,_,_,_,_,_,_,E⟩;rw[D6] at E;cases E
  rintro n1 u x ⟨I,df,dg,c,d,A,X,dh,E⟩;refine AK ?_ c d;clear c d x u;rw[D6] at E;refine DP (K1 O (Ew (kp [77,75,1,76] O) (C6 (AG O E (λbw E=>?_) (λbw E=>?_)))))
  ·refine F9 (C6 (A3 (DP (BP O (Dj O (kp [3,75,1,76] O) (DP ?_))))));have bx:=ad.mono X;refine MA O bx AE.f_Name U8.1 O λdi bz=>Te K9 A.1 O bz Sm.1 O λdj=>BP O ?_;obtain⟨g,Y,E⟩:=bd E;have b0:=Lg Y;refine Li O O MU Y O (Dj O (kp [4,75,1,76] O) (DP (BP O (K1 O (BP O (AW 3 88 (.bool ((decide (g<32))||(decide (126<g)))) ?_ ?_))))))
   ·cases b1:(decide (g<32))
    ·exact Bw O (BP O (Bw O (JA O (Ec O (AX O)))))
    exact BD O O
   refine BP O (AW 3 92 (.bool (((decide (g<32))||(decide (126<g)))||(decide (g=34)))) ?_ ?_)
   ·cases b2:((decide (g<32))||(decide (126<g)))
    ·exact Bw O (BP O (Bw O (RA O (Ec O (AX O)))))
    exact BD O O
   refine BP O (AW 3 96 (.bool ((((decide (g<32))||(decide (126<g)))||(decide (g=34)))||(decide (g=92)))) ?_ ?_)
   ·cases b3:(((decide (g<32))||(decide (126<g)))||(decide (g=34)))
    ·exact Bw O (BP O (Bw O (RA O (Ec O (AX O)))))
    exact BD O O
   refine Ew (kp [96,75,1,76] O) (AG O E (λaw E=>?_) (λaw E=>?_))
   ·refine DP (Dj O (kp [2] O) (B0 (λu x c d=>?_)));cases E;have ae:=e5.trans (H.trans X);exact UC c d O O ae ⟨O,A⟩
   refine F9 (BE (I0 (.inl O) (Mr O (BP O (Ew (kp [76,75,1] O) (WF.nil (λu x c d=>?_)))))));exact⟨(A9 (I+1)),_,_,c.sub (kp [75,1,76] O),d,A,X,(BF _),E⟩
  refine A8 O (λu x c d=>?_);exact⟨_,_,c.sub (kp [1] O),d,A,X,E⟩
 rintro u x ⟨K,M,c,d,Q,U,E⟩;refine AK ?_ c d;clear c d x u;rw[D7] at E;refine C6 (DP ?_);have ax:=ad.mono U;refine MA O ax AE.f_Room YN.1 O λb4 ay=>I9 K9 Q.1 O ay Hc.1 O λaz Z=>NL O Z Ce.1 O λb5=>BP O (Ew (kp [101,100,99] O) (AN (λa w=>IV B K M (109,[]) a w [] (L) λ_ _=>GU N=some r) ?_ ?_))
 ·refine AY (λn3=>λa w=>∃(y:Int),IV B K M (109,[]) a w [(100,vI (↑b.Al.length:Int)),(99,az),(101,vI y)] (L) λ_ _=>AA y∧D5 N b (GU N) n3 y=some r) N ?_ ?_ ?_
  ·intro u x c d;exact⟨0,_,_,c.sub (kp [100,99,101] O),d,Q,(CG.refl K M),(iq (n:=0) O),E⟩
  ·rintro u x ⟨_,_,_,_,_,_,_,_,E⟩;rw[D5] at E;cases E
  rintro n3 u x ⟨y,b6,b7,c,d,z,C,b8,E⟩;refine AK ?_ c d;clear c d x u;rw[D5] at E;refine DP (K1 O (Ew (kp [102,100,99,101] O) (C6 (AG O E (λa0 E=>?_) (λa0 E=>?_)))))
  ·refine F9 (C6 (A3 (DP ?_)));have a1:=Z.mono' C;obtain⟨b9,af,E⟩:=bd E;refine NM O O a1 Ce.1 af O λca a2=>FU K9 z.1 O a2 Gq.1 O λa3=>Dj O (kp [6,100,99,101] O) (C6 (BY (.inl O) z (BP O ?_)));obtain⟨cb,ag,E⟩:=bd E;refine K3 O O O JR O (λh' o=>CQ (St.all h') a3 ag) (Ph O (BG (kp [107,100,99,101] O) λcc V ab=>AG O E (λa4 E=>?_) (λa4 E=>?_)))
   ·refine DP (Dj O (kp [2] O) (B0 (λu x c d=>?_)));cases E;have ah:=e5.trans (H.trans (U.trans (C.trans ab)));exact UC c d O O ah ⟨O,V⟩
   refine F9 (BE (I0 (.inl O) (Mr O (BP O (Ew (kp [101,100,99] O) (WF.nil (λu x c d=>?_)))))));exact⟨(A9 (y+1)),_,_,c.sub (kp [100,99,101] O),d,V,(C.trans ab),(BF _),E⟩
  refine A8 O (λu x c d=>?_);exact⟨_,_,c.sub Nv,d,z,C,E⟩
 rintro u x ⟨cd,ce,c,d,ai,a5,E⟩;refine AK ?_ c d;clear c d x u;rw[GU] at E;refine DP (Dj O (kp [2] O) (B0 (λu x c d=>?_)));cases E;have aj:=e5.trans (H.trans (U.trans a5));exact UC c d O O aj ⟨O,ai⟩
def Rn (F:St S L h) {b:ByteArray}(y:b.size≤maxLen) {r:Bool}(E:Je N b=some r):
 B6 prog 278 #[.string b] S h (λv S' h'=>v= .bool r∧St S' (L) h'):=by
 refine A7 (l:=[.string b]) 54 func278 O ntmps278 O λB=>?_;rw[Je] at E;refine DP (Dj O (kp [0] O) (C6 (DP (BP O (MH O MU O (K1 O (BP O (AW 4 12 (.bool ((decide ((↑b.size:Int)<1))||(decide (24<(↑b.size:Int))))) ?_ ?_))))))))
 ·cases c1:(decide ((↑b.size:Int)<1))
  ·exact Bw O (BP O (Bw O (MH O MU O (Bw O (JA O (Ec O (AX O)))))))
  exact BD O O
 refine BP O (AW 3 16 (.bool (((decide ((↑b.size:Int)<1))||(decide (24<(↑b.size:Int))))||(b==(ByteArray.mk #[111,117,116])))) ?_ ?_)
 ·cases c2:((decide ((↑b.size:Int)<1))||(decide (24<(↑b.size:Int))))
  ·exact Bw O (BP O (Bw O (Q9 O O O (Ec O (AX O)))))
  exact BD O O
 refine BP O ?_;obtain⟨G,d,E⟩:=bd E;refine AW 4 21 (.bool G) ?_ ?_
 ·cases H:(((decide ((↑b.size:Int)<1))||(decide (24<(↑b.size:Int))))||(b==(ByteArray.mk #[111,117,116])))
  ·have d:=Gw H d;refine Bw O (BP O (Bw O ?_));obtain⟨z5,t,d⟩:=bd d;have r6:=Lg t;refine Li O O MU t O (Bw O (K1 O (Ec O ?_)));cases d;exact AX O
  have d:=Gv H d;cases d;exact BD O O
 refine BP O ?_;obtain⟨K,g,E⟩:=bd E;refine AW 4 26 (.bool K) ?_ ?_
 ·cases I:G
  ·have g:=Gw I g;refine Bw O (BP O (Bw O ?_));obtain⟨z9,u,g⟩:=bd g;have M:=Lg u;refine Li O O MU u O (Bw O (JA O (Ec O ?_)));cases g;exact AX O
  have g:=Gv I g;cases g;exact BD O O
 refine Ew (kp [26,0] O) (AG O E (λz E=>?_) (λz E=>?_))
 ·refine DP (Dj O (kp [2] O) (B0 (λo p i j=>?_)));cases E;exact UC i j O O (CG.refl S h) ⟨O,F⟩
 refine F9 (C6 (DP (Dj O (kp [3,0] O) (AN (λa w=>IV B S h (54,[]) a w [] (L) λ_ _=>HU N=some r) ?_ ?_))))
 ·refine AY (λJ=>λa w=>∃(k:Int),IV B S h (54,[]) a w [(0,.string b),(3,vI k)] (L) λ_ _=>AA k∧Fa N b (HU N) J k=some r) N ?_ ?_ ?_
  ·intro o p i j;exact⟨1,_,_,i.sub (kp [0,3] O),j,F,(CG.refl S h),(iq (n:=1) O),E⟩
  ·rintro o p ⟨_,_,_,_,_,_,_,_,E⟩;rw[Fa] at E;cases E
  rintro J o p ⟨k,Q,U,i,j,m,s,V,E⟩;refine AK ?_ i j;clear i j p o;rw[Fa] at E;refine C6 (DP (BP O (BP O (MH O MU O (K1 O (Ew (kp [30,0,3] O) (AG O E (λA E=>?_) (λA E=>?_))))))))
  ·refine F9 (C6 (A3 (DP (BP O (BP O ?_)))));obtain⟨c,q,E⟩:=bd E;have W:=Lg q;refine Li O O MU q O (Dj O (kp [4,0,3] O) (DP (BP O (K1 O (BP O (AW 3 41 (.bool ((decide (c<97))||(decide (122<c)))) ?_ ?_))))))
   ·cases X:(decide (c<97))
    ·exact Bw O (BP O (Bw O (JA O (Ec O (AX O)))))
    exact BD O O
   refine BP O (AW 7 49 (.bool (((decide (c<97))||(decide (122<c)))&&((decide (c<48))||(decide (57<c))))) ?_ ?_)
   ·cases Y:((decide (c<97))||(decide (122<c)))
    ·exact BD O O
    refine Bw O (BP O (Bw O (K1 O (Bw O (BP O (AW 3 48 (.bool ((decide (c<48))||(decide (57<c)))) ?_ ?_))))))
    ·cases Z:(decide (c<48))
     ·exact Bw O (BP O (Bw O (JA O (Bw O (Ec O (AX O))))))
     exact BD O O
    exact Ec O (AX O)
   refine BP O (AW 3 53 (.bool ((((decide (c<97))||(decide (122<c)))&&((decide (c<48))||(decide (57<c))))&&(decide (c≠95)))) ?_ ?_)
   ·cases ab:(((decide (c<97))||(decide (122<c)))&&((decide (c<48))||(decide (57<c))))
    ·exact BD O O
    exact Bw O (BP O (Bw O (Sb O (Ec O (AX O)))))
   refine Ew (kp [53,0,3] O) (AG O E (λC E=>?_) (λC E=>?_))
   ·refine DP (Dj O (kp [2] O) (B0 (λo p i j=>?_)));cases E;exact UC i j O O s ⟨O,m⟩
   refine F9 (BE (I0 (.inl O) (BP O (Mr O (Dj O (kp [3,0] O) (WF.nil (λo p i j=>?_)))))));exact⟨(A9 (k+1)),_,_,i.sub (kp [0,3] O),j,m,s,(BF _),E⟩
  refine A8 O (λo p i j=>?_);exact⟨_,_,i.sub Nv,j,m,s,E⟩
 rintro o p ⟨ac,ad,i,j,x,D,E⟩;refine AK ?_ i j;clear i j p o;rw[HU] at E;refine DP (Dj O (kp [2] O) (B0 (λo p i j=>?_)));cases E;exact UC i j O O D ⟨O,x⟩
def SQ {c:Nat}{d:(List (AH×Bool))}(F:St S (MP (λk:AH=>Value.agg (AH.v k).toArray) Value.bool c d::L) h) {g:ByteArray}(i:g.size≤maxLen) {b:ByteArray}(j:b.size≤maxLen) {r:Bool×(List (AH×Bool))}(E:KF N d g b=some r):
 B6 prog 231 #[.map (some c),.string g,.string b] S h (λv S' h'=>v= .bool r.1∧St S' (MP (λk:AH=>Value.agg (AH.v k).toArray) Value.bool c r.2::L) h'):=by
 refine A7 23 func231 O ntmps231 O λB=>?_;rw[KF] at E;refine AU ?_;refine Q9 O O O (AU ?_);refine Gx (λa w=>∃(l:ByteArray),IV B S h (23,[]) a w [(0,.map (some c)),(2,.string b),(1,.string l)] (MP (λk:AH=>Value.agg (AH.v k).toArray) Value.bool c d::L) λ_ _=>l.size≤maxLen∧Hv N d b l=some r) ?_ ?_
 ·refine AG O E (λH E=>?_) (λH E=>?_)
  ·refine AU ?_;refine WF.nil (λy A p q=>?_);exact⟨(ByteArray.mk #[116,111,119,110]),_,_,p.sub (kp [0,2,1] O),q,F,(CG.refl S h),(by decide),E⟩
  refine AU ?_;refine WF.nil (λy A p q=>?_);exact⟨g,_,_,p.sub (kp [0,2,1] O),q,F,(CG.refl S h),i,E⟩
 rintro y A ⟨l,X,Y,p,q,C,Z,r2,E⟩;refine AK ?_ p q;clear p q A y;rw[Hv] at E;refine AU ?_;refine FV (cs:=[.string l,.string b]) nV O O O (AU ?_);refine CP mU O C λb8 h9 s I=>?_;refine C0 O O O O nK.1 O s .head O λJ m K=>AU ?_;refine BY (.inl O) m (AU ?_);refine A5 E O O O pS O (λn t h' o=>Rn (St.all h') j t) λn E=>AU ?_;refine AW 4 20 (.bool ((!n)||((Na (λk:AH=>Value.agg (AH.v k).toArray) d (⟨l,b⟩:AH)).getD false))) ?_ ?_
 ·cases M:(!n)
  ·refine AU ?_;refine XV (k0:=(⟨l,b⟩:AH)) (z:=false) Od m (mt mh) O O aI YE xK O O (AU ?_);exact AX O
  exact BD O O
 refine BG (kp [20,7,0] O) λQ u U=>AG O E (λD E=>?_) (λD E=>?_)
 ·exact RT
 refine AU ?_;exact XX (k0:=(⟨l,b⟩:AH)) (x:=true) u (.tail .head) O O O aI YE λV G W=>RT
def EC {d:Nat}{c2_:(List (AH×Bool))}{a:Nat}{g:Nat}{c3_:Bool}(s:St S (Bx d 319 [.map (some a)]::MP (λk:AH=>Value.agg (AH.v k).toArray) Value.bool a c2_::Bx g 4 [.bool c3_]::L) h) {b:ByteArray}(i:b.size≤maxLen) {c:ByteArray}(j:c.size≤maxLen) {r:(List (AH×Bool))×Bool}(E:Cz N c2_ c3_ b c=some r):
 B6 prog 230 #[.string b,.string c,vP d 0,vP g 0] S h (λv S' h'=>v= .tuple #[]∧St S' (Bx d 319 [.map (some a)]::MP (λk:AH=>Value.agg (AH.v k).toArray) Value.bool a r.1::Bx g 4 [.bool r.2]::L) h'):=by
 refine A7 13 func230 O ntmps230 O λB=>?_;rw[Cz] at E;refine B1 (AU ?_);have n:=s.pick (.tail .head);refine BQ E O O O qG O (λt o=>SQ n i j o) λt E y z A C p=>?_;obtain⟨rfl,q⟩:=p;refine AU ?_;refine C0 O O O O Qc.1 O q (.tail (.tail .head)) O λD l u=>AU ?_;refine WF.nil (λF G w x=>?_);have m:=l.sel [1,0,0] 0 O;cases E;exact JC w O x JB O EX ⟨O,m⟩
def PF (hs:St S L h) {Q:Value}{b:AE}(a9:Rd S h By Q b) {r:Bool}(E:I8 N b=some r):
 B6 prog 176 #[Q] S h (λv S' h'=>v= .bool r∧St S' (L) h'):=by
 refine A7 106 func176 O ntmps176 O λB=>?_;rw[I8] at E;refine AU ?_;refine Bz O a9 CE O hs λq1 S2 h3 e4 e5 k6=>AU ?_;refine fX (K:=0) (E:=0) O e4 (λk:AH=>Value.agg (AH.v k).toArray) Value.bool λm h8 e6 jn=>CP mW O e6 λl jo c1 jp=>?_;refine C0 O O O O nM.1 O c1 .head O λjq c2 jr=>AU ?_;refine CP xL O c2 λc js c3 jt=>?_;refine C0 O O O O Qc.1 O c3 .head O λbq c4 ju=>AU ?_;refine PM O O O ?_;have c5:=k6.nw;have e7:=c5.fl Hb;obtain⟨e8,_,e9⟩:=e7.ll;refine AU ?_;refine AN (λa w=>∃(ba:Bool) (bb:(List (AH×Bool))),IV B S2 bq (106,[]) a w [(5,.func (.func 230) #[] #[vP l 0,vP c 0]),(4,vP c 0),(1,q1)] (Bx c 4 [.bool ba]::Bx l 319 [.map (some m)]::MP (λk:AH=>Value.agg (AH.v k).toArray) Value.bool m bb::L) λ_ _=>EZ N b ba bb=some r) ?_ ?_
 ·refine AY (λn1=>λa w=>∃(ae:Int) (af:Bool) (ag:(List (AH×Bool))),IV B S2 bq (106,[]) a w [(24,vI (↑b.I.length:Int)),(23,e8),(5,.func (.func 230) #[] #[vP l 0,vP c 0]),(4,vP c 0),(1,q1),(25,vI ae)] (Bx c 4 [.bool af]::Bx l 319 [.map (some m)]::MP (λk:AH=>Value.agg (AH.v k).toArray) Value.bool m ag::L) λ_ _=>AA ae∧DL N b (EZ N b) n1 ae af ag=some r) N ?_ ?_ ?_
  ·intro i j d g;exact⟨0,true,([]:(List (AH×Bool))),_,_,d.sub (kp [24,23,5,4,1,25] O),g,c4,(CG.refl S2 bq),(iq (n:=0) O),E⟩
  ·rintro i j ⟨_,_,_,_,_,_,_,_,_,_,E⟩;rw[DL] at E;cases E
  rintro n1 i j ⟨ae,af,ag,jv,jw,d,g,bf,c6,jx,E⟩;refine AK ?_ d g;clear d g j i;rw[DL] at E;refine AU ?_;refine AG O E (λfa E=>?_) (λfa E=>?_)
  ·refine AU ?_;refine A3 (AU ?_);have fb:=e9.mono' c6;refine A4 E O O fb lO.1 O λjy E jz fc=>?_;have fd:=fc.sz;refine AU ?_;refine B1 (AU ?_);have c7:=bf.sel [1,1,0] 0 O;refine BQ E O O O QN O (λbr c8=>EC (c2_:=ag) (c3_:=af) c7 (by decide) fd c8) λbr E j0 j1 j2 j3 p=>?_;obtain⟨rfl,c9⟩:=p;refine AU ?_;refine BE (AU ?_);refine WF.nil (λi j d g=>?_);have da:=c9.sel [2,0,0] 0 O;exact⟨(A9 (ae+1)),br.2,br.1,_,_,d.sub (kp [24,23,5,4,1,25] O),g,da,EX,(BF _),E⟩
  refine A8 O (λi j d g=>?_);exact⟨af,ag,_,_,d.sub (kp [5,4,1] O),g,bf,c6,E⟩
 rintro i j ⟨ba,bb,bs,bt,d,g,db,fe,E⟩;refine AK ?_ d g;clear d g j i;rw[EZ] at E;have dc:=c5.mono fe;have ff:=dc.fl BZ;obtain⟨fg,_,fh⟩:=ff.ll;refine AU ?_;refine AN (λa w=>∃(bc:Bool) (be:(List (AH×Bool))),IV B bs bt (106,[]) a w [(5,.func (.func 230) #[] #[vP l 0,vP c 0]),(4,vP c 0),(1,q1)] (Bx c 4 [.bool bc]::Bx l 319 [.map (some m)]::MP (λk:AH=>Value.agg (AH.v k).toArray) Value.bool m be::L) λ_ _=>EY N b bc be=some r) ?_ ?_
 ·refine AY (λn3=>λa w=>∃(ah:Int) (ai:Bool) (aj:(List (AH×Bool))),IV B bs bt (106,[]) a w [(35,vI (↑b.A.length:Int)),(34,fg),(5,.func (.func 230) #[] #[vP l 0,vP c 0]),(4,vP c 0),(1,q1),(36,vI ah)] (Bx c 4 [.bool ai]::Bx l 319 [.map (some m)]::MP (λk:AH=>Value.agg (AH.v k).toArray) Value.bool m aj::L) λ_ _=>AA ah∧DK N b (EY N b) n3 ah ai aj=some r) N ?_ ?_ ?_
  ·intro i j d g;exact⟨0,ba,bb,_,_,d.sub (kp [35,34,5,4,1,36] O),g,db,(CG.refl bs bt),(iq (n:=0) O),E⟩
  ·rintro i j ⟨_,_,_,_,_,_,_,_,_,_,E⟩;rw[DK] at E;cases E
  rintro n3 i j ⟨ah,ai,aj,j4,j5,d,g,bg,dd,j6,E⟩;refine AK ?_ d g;clear d g j i;rw[DK] at E;refine AU ?_;refine AG O E (λfi E=>?_) (λfi E=>?_)
  ·refine AU ?_;refine A3 (AU ?_);have fj:=fh.mono' dd;refine A4 E O O fj Kk.1 O λj7 E j8 fk=>?_;obtain⟨j9,_,fm⟩:=fk.lv;refine AU ?_;refine CP MS O bg λka kb de fn=>?_;have fo:=fm.mono fn;obtain⟨fr,fs,ft,rfl,fp,kc,kd,fu,fv,fw,fx,fy,fz,f0,f1,f2⟩:=CJ.ex fo;refine DU O O O ON MW.1 O de .head O λf3 bu f4=>AU ?_;refine B1 (AU ?_);have bv:=bu.sel [2,2,1,0] 0 O;refine BQ E O O O QN O (λak bw=>EC (c2_:=aj) (c3_:=ai) bv (by decide) fp bw) λak E f5 f6 f7 f8 p=>?_;obtain⟨rfl,bx⟩:=p;refine AU ?_;refine BE (AU ?_);refine WF.nil (λi j d g=>?_);have bz:=bx.sel [2,0,0] 1 O;exact⟨(A9 (ah+1)),ak.2,ak.1,_,_,d.sub (kp [35,34,5,4,1,36] O),g,bz,EX,(BF _),E⟩
  refine A8 O (λi j d g=>?_);exact⟨ai,aj,_,_,d.sub (kp [5,4,1] O),g,bg,dd,E⟩
 rintro i j ⟨bc,be,am,an,d,g,b0,df,E⟩;refine AK ?_ d g;clear d g j i;rw[EY] at E;have bh:=dc.mono df;have dg:=bh.fl Gn;obtain⟨dh,_,di⟩:=dg.ll;refine AU ?_;refine AN (λa w=>∃(U:Bool) (V:(List (AH×Bool))),IV B am an (106,[]) a w [(5,.func (.func 230) #[] #[vP l 0,vP c 0]),(4,vP c 0),(1,q1)] (Bx c 4 [.bool U]::Bx l 319 [.map (some m)]::MP (λk:AH=>Value.agg (AH.v k).toArray) Value.bool m V::L) λ_ _=>EW N b U V=some r) ?_ ?_
 ·refine AY (λn5=>λa w=>∃(o:Int) (q:Bool) (s:(List (AH×Bool))),IV B am an (106,[]) a w [(47,vI (↑b.F.length:Int)),(46,dh),(5,.func (.func 230) #[] #[vP l 0,vP c 0]),(4,vP c 0),(1,q1),(48,vI o)] (Bx c 4 [.bool q]::Bx l 319 [.map (some m)]::MP (λk:AH=>Value.agg (AH.v k).toArray) Value.bool m s::L) λ_ _=>AA o∧DJ N b (EW N b) n5 o q s=some r) N ?_ ?_ ?_
  ·intro i j d g;exact⟨0,bc,be,_,_,d.sub (kp [47,46,5,4,1,48] O),g,b0,(CG.refl am an),(iq (n:=0) O),E⟩
  ·rintro i j ⟨_,_,_,_,_,_,_,_,_,_,E⟩;rw[DJ] at E;cases E
  rintro n5 i j ⟨o,q,s,f9,ga,d,g,ao,bi,gb,E⟩;refine AK ?_ d g;clear d g j i;rw[DJ] at E;refine AU ?_;refine AG O E (λdj E=>?_) (λdj E=>?_)
  ·refine AU ?_;refine A3 (AU ?_);have dk:=di.mono' bi;refine A4 E O O dk Om.1 O λgc E gd dl=>?_;obtain⟨ge,_,dm⟩:=dl.lv;refine AU ?_;refine CP Oe O ao λgf gg b1 dn=>?_;have dp:=dm.mono dn;obtain⟨gh,gi,gj,rfl,dq,gl,gm,gn,gp,gq,gr,gs,gt,gu,gv,gw,gx,gy,gz,g0,g1,g2⟩:=B7.ex dp;refine DU O O O ON Oj.1 O b1 .head O λg3 b2 g4=>AU ?_;refine B1 (AU ?_);have b3:=b2.sel [2,2,1,0] 0 O;refine BQ E O O O QN O (λap b4=>EC (c2_:=s) (c3_:=q) b3 (by decide) dq b4) λap E g5 g6 g7 g8 p=>?_;obtain⟨rfl,b5⟩:=p;refine AU ?_;refine BE (AU ?_);refine WF.nil (λi j d g=>?_);have b6:=b5.sel [2,0,0] 1 O;exact⟨(A9 (o+1)),ap.2,ap.1,_,_,d.sub (kp [47,46,5,4,1,48] O),g,b6,EX,(BF _),E⟩
  refine A8 O (λi j d g=>?_);exact⟨q,s,_,_,d.sub (kp [5,4,1] O),g,ao,bi,E⟩
 rintro i j ⟨U,V,aq,ar,d,g,b8,dr,E⟩;refine AK ?_ d g;clear d g j i;rw[EW] at E;have bj:=bh.mono dr;have ds:=bj.fl Ji;obtain⟨dt,_,du⟩:=ds.ll;refine AU ?_;refine AN (λa w=>∃(W:Bool) (X:(List (AH×Bool))),IV B aq ar (106,[]) a w [(5,.func (.func 230) #[] #[vP l 0,vP c 0]),(4,vP c 0),(1,q1)] (Bx c 4 [.bool W]::Bx l 319 [.map (some m)]::MP (λk:AH=>Value.agg (AH.v k).toArray) Value.bool m X::L) λ_ _=>EV N b W X=some r) ?_ ?_
 ·refine AY (λn7=>λa w=>∃(t:Int) (u:Bool) (x:(List (AH×Bool))),IV B aq ar (106,[]) a w [(59,vI (↑b.Ab.length:Int)),(58,dt),(5,.func (.func 230) #[] #[vP l 0,vP c 0]),(4,vP c 0),(1,q1),(60,vI t)] (Bx c 4 [.bool u]::Bx l 319 [.map (some m)]::MP (λk:AH=>Value.agg (AH.v k).toArray) Value.bool m x::L) λ_ _=>AA t∧DI N b (EV N b) n7 t u x=some r) N ?_ ?_ ?_
  ·intro i j d g;exact⟨0,U,V,_,_,d.sub (kp [59,58,5,4,1,60] O),g,b8,(CG.refl aq ar),(iq (n:=0) O),E⟩
  ·rintro i j ⟨_,_,_,_,_,_,_,_,_,_,E⟩;rw[DI] at E;cases E
  rintro n7 i j ⟨t,u,x,g9,ha,d,g,au,bk,hb,E⟩;refine AK ?_ d g;clear d g j i;rw[DI] at E;refine AU ?_;refine AG O E (λdv E=>?_) (λdv E=>?_)
  ·refine AU ?_;refine A3 (AU ?_);have dw:=du.mono' bk;refine A4 E O O dw bN.1 O λhc E hd dx=>?_;obtain⟨he,_,dy⟩:=dx.lv;refine AU ?_;refine CP Z0 O au λhg hh b9 dz=>?_;have d0:=dy.mono dz;obtain⟨rfl,⟨d1,hi,hj,hk,hl,hm,hn⟩⟩:=HO.ex d0;refine C0 O O O O aT.1 O b9 .head O λho ca hp=>AU ?_;refine B1 (AU ?_);have cb:=ca.sel [2,2,1,0] 0 O;refine BQ E O O O QN O (λav cc=>EC (c2_:=x) (c3_:=u) cb (by decide) d1 cc) λav E hq hr ht hu p=>?_;obtain⟨rfl,cd⟩:=p;refine AU ?_;refine BE (AU ?_);refine WF.nil (λi j d g=>?_);have ce:=cd.sel [2,0,0] 1 O;exact⟨(A9 (t+1)),av.2,av.1,_,_,d.sub (kp [59,58,5,4,1,60] O),g,ce,EX,(BF _),E⟩
  refine A8 O (λi j d g=>?_);exact⟨u,x,_,_,d.sub (kp [5,4,1] O),g,au,bk,E⟩
 rintro i j ⟨W,X,aw,ax,d,g,cf,d2,E⟩;refine AK ?_ d g;clear d g j i;rw[EV] at E;have bl:=bj.mono d2;have d3:=bl.fl JV;obtain⟨d4,_,d5⟩:=d3.ll;refine AU ?_;refine AN (λa w=>∃(Y:Bool) (Z:(List (AH×Bool))),IV B aw ax (106,[]) a w [(5,.func (.func 230) #[] #[vP l 0,vP c 0]),(4,vP c 0),(1,q1)] (Bx c 4 [.bool Y]::Bx l 319 [.map (some m)]::MP (λk:AH=>Value.agg (AH.v k).toArray) Value.bool m Z::L) λ_ _=>EU N b Y Z=some r) ?_ ?_
 ·refine AY (λn9=>λa w=>∃(y:Int) (z:Bool) (C:(List (AH×Bool))),IV B aw ax (106,[]) a w [(71,vI (↑b.Ai.length:Int)),(70,d4),(5,.func (.func 230) #[] #[vP l 0,vP c 0]),(4,vP c 0),(1,q1),(72,vI y)] (Bx c 4 [.bool z]::Bx l 319 [.map (some m)]::MP (λk:AH=>Value.agg (AH.v k).toArray) Value.bool m C::L) λ_ _=>AA y∧DH N b (EU N b) n9 y z C=some r) N ?_ ?_ ?_
  ·intro i j d g;exact⟨0,W,X,_,_,d.sub (kp [71,70,5,4,1,72] O),g,cf,(CG.refl aw ax),(iq (n:=0) O),E⟩
  ·rintro i j ⟨_,_,_,_,_,_,_,_,_,_,E⟩;rw[DH] at E;cases E
  rintro n9 i j ⟨y,z,C,hv,hx,d,g,ay,bm,hy,E⟩;refine AK ?_ d g;clear d g j i;rw[DH] at E;refine AU ?_;refine AG O E (λd6 E=>?_) (λd6 E=>?_)
  ·refine AU ?_;refine A3 (AU ?_);have d7:=d5.mono' bm;refine A4 E O O d7 bJ.1 O λhz E h0 d8=>?_;obtain⟨h1,_,d9⟩:=d8.lv;refine AU ?_;refine CP Zy O ay λh2 h4 cg ea=>?_;have eb:=d9.mono ea;obtain⟨rfl,⟨ec,h5⟩⟩:=DD.ex eb;refine C0 O O O O aQ.1 O cg .head O λh6 ch h7=>AU ?_;refine B1 (AU ?_);have ci:=ch.sel [2,2,1,0] 0 O;refine BQ E O O O QN O (λaz cj=>EC (c2_:=C) (c3_:=z) ci (by decide) ec cj) λaz E h9 ia ib ic p=>?_;obtain⟨rfl,ck⟩:=p;refine AU ?_;refine BE (AU ?_);refine WF.nil (λi j d g=>?_);have cl:=ck.sel [2,0,0] 1 O;exact⟨(A9 (y+1)),az.2,az.1,_,_,d.sub (kp [71,70,5,4,1,72] O),g,cl,EX,(BF _),E⟩
  refine A8 O (λi j d g=>?_);exact⟨z,C,_,_,d.sub (kp [5,4,1] O),g,ay,bm,E⟩
 rintro i j ⟨Y,Z,a0,a1,d,g,cm,ed,E⟩;refine AK ?_ d g;clear d g j i;rw[EU] at E;have bn:=bl.mono ed;have ee:=bn.fl KP;obtain⟨ef,_,eg⟩:=ee.ll;refine AU ?_;refine AN (λa w=>∃(ab:Bool) (ac:(List (AH×Bool))),IV B a0 a1 (106,[]) a w [(5,.func (.func 230) #[] #[vP l 0,vP c 0]),(4,vP c 0),(1,q1)] (Bx c 4 [.bool ab]::Bx l 319 [.map (some m)]::MP (λk:AH=>Value.agg (AH.v k).toArray) Value.bool m ac::L) λ_ _=>EB N b ab ac=some r) ?_ ?_
 ·refine AY (λeh=>λa w=>∃(D:Int) (G:Bool) (H:(List (AH×Bool))),IV B a0 a1 (106,[]) a w [(83,vI (↑b.Ae.length:Int)),(82,ef),(5,.func (.func 230) #[] #[vP l 0,vP c 0]),(4,vP c 0),(1,q1),(84,vI D)] (Bx c 4 [.bool G]::Bx l 319 [.map (some m)]::MP (λk:AH=>Value.agg (AH.v k).toArray) Value.bool m H::L) λ_ _=>AA D∧C9 N b (EB N b) eh D G H=some r) N ?_ ?_ ?_
  ·intro i j d g;exact⟨0,Y,Z,_,_,d.sub (kp [83,82,5,4,1,84] O),g,cm,(CG.refl a0 a1),(iq (n:=0) O),E⟩
  ·rintro i j ⟨_,_,_,_,_,_,_,_,_,_,E⟩;rw[C9] at E;cases E
  rintro eh i j ⟨D,G,H,id,ie,d,g,a2,bo,ig,E⟩;refine AK ?_ d g;clear d g j i;rw[C9] at E;refine AU ?_;refine AG O E (λei E=>?_) (λei E=>?_)
  ·refine AU ?_;refine A3 (AU ?_);have ej:=eg.mono' bo;refine A4 E O O ej bM.1 O λih E ii ek=>?_;obtain⟨ij,_,el⟩:=ek.lv;refine AU ?_;refine CP Zx O a2 λik il cn em=>?_;have en:=el.mono em;obtain⟨rfl,⟨eo,im,io,ip,ir⟩⟩:=Eh.ex en;refine C0 O O O O aP.1 O cn .head O λit co iu=>AU ?_;refine B1 (AU ?_);have cp:=co.sel [2,2,1,0] 0 O;refine BQ E O O O QN O (λa3 cq=>EC (c2_:=H) (c3_:=G) cp (by decide) eo cq) λa3 E iv iw iy iz p=>?_;obtain⟨rfl,cr⟩:=p;refine AU ?_;refine BE (AU ?_);refine WF.nil (λi j d g=>?_);have cs:=cr.sel [2,0,0] 1 O;exact⟨(A9 (D+1)),a3.2,a3.1,_,_,d.sub (kp [83,82,5,4,1,84] O),g,cs,EX,(BF _),E⟩
  refine A8 O (λi j d g=>?_);exact⟨G,H,_,_,d.sub (kp [5,4,1] O),g,a2,bo,E⟩
 rintro i j ⟨ab,ac,a4,a5,d,g,ct,ep,E⟩;refine AK ?_ d g;clear d g j i;rw[EB] at E;have eq:=bn.mono ep;have er:=eq.fl K6;obtain⟨es,_,eu⟩:=er.ll;refine AU ?_;refine AN (λa w=>∃(a6:Bool),IV B a4 a5 (106,[]) a w [(4,vP c 0)] (Bx c 4 [.bool a6]::L) λ_ _=>EA N a6=some r) ?_ ?_
 ·refine AY (λev=>λa w=>∃(J:Int) (M:Bool) (ad:(List (AH×Bool))),IV B a4 a5 (106,[]) a w [(95,vI (↑b.Af.length:Int)),(94,es),(5,.func (.func 230) #[] #[vP l 0,vP c 0]),(4,vP c 0),(96,vI J)] (Bx c 4 [.bool M]::Bx l 319 [.map (some m)]::MP (λk:AH=>Value.agg (AH.v k).toArray) Value.bool m ad::L) λ_ _=>AA J∧C8 N b (EA N) ev J M ad=some r) N ?_ ?_ ?_
  ·intro i j d g;exact⟨0,ab,ac,_,_,d.sub (kp [95,94,5,4,96] O),g,ct,(CG.refl a4 a5),(iq (n:=0) O),E⟩
  ·rintro i j ⟨_,_,_,_,_,_,_,_,_,_,E⟩;rw[C8] at E;cases E
  rintro ev i j ⟨J,M,ad,i0,i1,d,g,a7,bp,i2,E⟩;refine AK ?_ d g;clear d g j i;rw[C8] at E;refine AU ?_;refine AG O E (λew E=>?_) (λew E=>?_)
  ·refine AU ?_;refine A3 (AU ?_);have ey:=eu.mono' bp;refine A4 E O O ey bK.1 O λi3 E i4 ez=>?_;obtain⟨i5,_,e0⟩:=ez.lv;refine AU ?_;refine CP Zw O a7 λi6 i7 cu e1=>?_;have e2:=e0.mono e1;obtain⟨rfl,⟨e3,i8,i9,ja,jb,jc,jd⟩⟩:=Gy.ex e2;refine C0 O O O O aO.1 O cu .head O λje cv jf=>AU ?_;refine B1 (AU ?_);have cw:=cv.sel [2,2,1,0] 0 O;refine BQ E O O O QN O (λa8 cx=>EC (c2_:=ad) (c3_:=M) cw (by decide) e3 cx) λa8 E jg jh ji jj p=>?_;obtain⟨rfl,cy⟩:=p;refine AU ?_;refine BE (AU ?_);refine WF.nil (λi j d g=>?_);have cz:=cy.sel [2,0,0] 1 O;exact⟨(A9 (J+1)),a8.2,a8.1,_,_,d.sub (kp [95,94,5,4,96] O),g,cz,EX,(BF _),E⟩
  refine A8 O (λi j d g=>?_);have c0:=a7.sel [0] 2 O;exact⟨M,_,_,d.sub (kp [4] O),g,c0,bp,E⟩
 rintro i j ⟨a6,jk,jl,d,g,fq,jm,E⟩;refine AK ?_ d g;clear d g j i;rw[EA] at E;exact RT
end Go.Proofs.YtedgiljmffngoaaGreat
