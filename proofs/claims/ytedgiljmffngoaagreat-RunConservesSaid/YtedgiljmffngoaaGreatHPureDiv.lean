import Derived.Test.YtedgiljmffngoaaGreatHInst
import Derived.Test.YtedgiljmffngoaaGreatHWalk1
import Derived.Test.YtedgiljmffngoaaGreatHWalk5
import Derived.Test.YtedgiljmffngoaaGreatHWalk8
import Derived.Test.YtedgiljmffngoaaGreatHWalk11
import Derived.Test.YtedgiljmffngoaaGreatHWalk3
import Derived.Lib.Mul64
namespace Go.Proofs.YtedgiljmffngoaaGreat
set_option linter.all false
open Go.RowKit
open Go.Proofs.Tryz
set_option maxRecDepth 10000
set_option maxHeartbeats 2000000
variable {N:Nat}{S:Nat→Prop}{L:List HP}{h:AV}
def CB (j:St S L h){c:Int}(i:AB c){b:Int}(g:AB b){a:Int}(d:AB a){r:Bool}(E:Cj N c b a=some r):
 B3 prog 228 #[vI c,vI b,vI a] S h (λv S' h'=>v= .bool r∧St S' (L) h'):=by
 refine BA 15 func228 O ntmps228 O λB=>?_;rw[Cj] at E;exact RT
def CP (d:St S L h){a:Int}(b:AB a){r:Bool}(E:CS N a=some r):
 B3 prog 229 #[vI a] S h (λv S' h'=>v= .bool r∧St S' (L) h'):=by
 refine BA 5 func229 O ntmps229 O λB=>?_;rw[CS] at E;refine AU ?_;refine BY (.inl O) d (AU ?_);refine A8 E O O O HH O (λg c h' o=>CB (St.all h') b (iq (n:=0) O) (iq (n:=1125899906842624) O) c) λg E=>AU ?_;exact BJ (kp [2] O) λj i k=>RT
def Pw (hs:St S L h){t:Value}{b:AF}(W:Rd S h BV t b){r:Bool}(E:Hg N b=some r):
 B3 prog 175 #[t] S h (λv S' h'=>v= .bool r∧St S' (L) h'):=by
 refine BA (l:=[t]) 109 func175 O ntmps175 O λB=>?_;rw[Hg] at E;refine WF.sl (By O W (λe=>by cases e) O hs λq1 S2 h3 s e5 D=>LU 1 (Kg O (K5 (LF.nil (kp [1] O) (C9 (C9 (BY (.inl O) s (MF O D AF.f_Name VG.1 O λq7 k8=>Te PF s.1 O k8 Sn.1 O λr9=>MU O Mb O (JH O (BP O ?_))))))))));obtain⟨ak,j,E⟩:=bd E;refine AZ 6 17 (.bool ak) ?_ ?_
 ·cases al:(decide (500<(↑b.J.size:Int)))
  ·have j:=G3 al j;refine BZ O (MF O D Hn kH.1 O λcf a6=>BZ O (JG PF s.1 O a6 mG.1 O λcg a7=>BZ O (NR O a7 mL.1 O λa8=>BZ O ?_)));obtain⟨ch,am,j⟩:=bd j;refine Jt O O O HH O (λh' o=>CB (St.all h') (KZ a8) (iq (n:=1) O) (iq (n:=16) O) am) (BZ O (Pk O (El O ?_)));cases j;exact A0 O
  have j:=G2 al j;cases j;exact BG O O
 refine BP O ?_;obtain⟨an,k,E⟩:=bd E;refine AZ 5 23 (.bool an) ?_ ?_
 ·cases ao:ak
  ·have k:=G3 ao k;refine BZ O (MF O D M2 kG.1 O λci a9=>BZ O (Gf PF s.1 O a9 HA.1 O λba=>BZ O ?_));obtain⟨cj,ap,k⟩:=bd k;refine Jt O O O HH O (λh' o=>CB (St.all h') ba (iq (n:=0) O) (iq (n:=64) O) ap) (BZ O (Pk O (El O ?_)));cases k;exact A0 O
  have k:=G2 ao k;cases k;exact BG O O
 refine BP O ?_;obtain⟨i,m,E⟩:=bd E;refine AZ 6 30 (.bool i) ?_ ?_
 ·cases aq:an
  ·have m:=G3 aq m;refine BZ O (MF O D B5 kF.1 O λck bb=>BZ O (JG PF s.1 O bb uY.1 O λcl bc=>BZ O (NR O bc Md.1 O λbe=>BZ O ?_)));obtain⟨cm,ar,m⟩:=bd m;refine Jt O O O HH O (λh' o=>CB (St.all h') (KZ be) (iq (n:=1) O) (iq (n:=64) O) ar) (BZ O (Pk O (El O ?_)));cases m;exact A0 O
  have m:=G2 aq m;cases m;exact BG O O
 refine BP O (AZ 5 36 (.bool (i||(decide (96<(↑b.G.length:Int))))) ?_ ?_)
 ·cases cn:i
  ·exact BZ O (MF O D Gv kE.1 O λco bf=>BZ O (JG PF s.1 O bf uX.1 O λcp bg=>BZ O (NR O bg Ox.1 O λcq=>BZ O (JH O (El O (A0 O))))))
  exact BG O O
 refine BP O (AZ 5 42 (.bool ((i||(decide (96<(↑b.G.length:Int))))||(decide (40<(↑b.Ac.length:Int))))) ?_ ?_)
 ·cases cr:(i||(decide (96<(↑b.G.length:Int))))
  ·exact BZ O (MF O D Ju kD.1 O λcs bh=>BZ O (JG PF s.1 O bh uW.1 O λct bi=>BZ O (NR O bi bV.1 O λcu=>BZ O (JH O (El O (A0 O))))))
  exact BG O O
 refine BP O (AZ 5 48 (.bool (((i||(decide (96<(↑b.G.length:Int))))||(decide (40<(↑b.Ac.length:Int))))||(decide (128<(↑b.Af.length:Int))))) ?_ ?_)
 ·cases cv:((i||(decide (96<(↑b.G.length:Int))))||(decide (40<(↑b.Ac.length:Int))))
  ·exact BZ O (MF O D KU kC.1 O λcw bj=>BZ O (JG PF s.1 O bj uV.1 O λcx bk=>BZ O (NR O bk bU.1 O λcy=>BZ O (JH O (El O (A0 O))))))
  exact BG O O
 refine BP O (AZ 5 54 (.bool ((((i||(decide (96<(↑b.G.length:Int))))||(decide (40<(↑b.Ac.length:Int))))||(decide (128<(↑b.Af.length:Int))))||(decide (128<(↑b.Ag.length:Int))))) ?_ ?_)
 ·cases cz:(((i||(decide (96<(↑b.G.length:Int))))||(decide (40<(↑b.Ac.length:Int))))||(decide (128<(↑b.Af.length:Int))))
  ·exact BZ O (MF O D K9 kB.1 O λc0 bl=>BZ O (JG PF s.1 O bl uU.1 O λc1 bm=>BZ O (NR O bm bT.1 O λc2=>BZ O (JH O (El O (A0 O))))))
  exact BG O O
 refine BP O (AZ 5 60 (.bool (((((i||(decide (96<(↑b.G.length:Int))))||(decide (40<(↑b.Ac.length:Int))))||(decide (128<(↑b.Af.length:Int))))||(decide (128<(↑b.Ag.length:Int))))||(decide (40<(↑b.Aj.length:Int))))) ?_ ?_)
 ·cases c3:((((i||(decide (96<(↑b.G.length:Int))))||(decide (40<(↑b.Ac.length:Int))))||(decide (128<(↑b.Af.length:Int))))||(decide (128<(↑b.Ag.length:Int))))
  ·exact BZ O (MF O D Jd kA.1 O λc4 bn=>BZ O (JG PF s.1 O bn uT.1 O λc5 bo=>BZ O (NR O bo bS.1 O λc6=>BZ O (JH O (El O (A0 O))))))
  exact BG O O
 refine BP O (AZ 5 66 (.bool ((((((i||(decide (96<(↑b.G.length:Int))))||(decide (40<(↑b.Ac.length:Int))))||(decide (128<(↑b.Af.length:Int))))||(decide (128<(↑b.Ag.length:Int))))||(decide (40<(↑b.Aj.length:Int))))||(decide ((↑b.Al.length:Int)≠3)))) ?_ ?_)
 ·cases c7:(((((i||(decide (96<(↑b.G.length:Int))))||(decide (40<(↑b.Ac.length:Int))))||(decide (128<(↑b.Af.length:Int))))||(decide (128<(↑b.Ag.length:Int))))||(decide (40<(↑b.Aj.length:Int))))
  ·exact BZ O (MF O D AF.f_Room YV.1 O λc8 bp=>BZ O (JG PF s.1 O bp G6.1 O λc9 bq=>BZ O (NR O bq Ct.1 O λda=>BZ O (Sc O (El O (A0 O))))))
  exact BG O O
 refine BP O ?_;obtain⟨br,p,E⟩:=bd E;refine AZ 5 72 (.bool br) ?_ ?_
 ·cases au:((((((i||(decide (96<(↑b.G.length:Int))))||(decide (40<(↑b.Ac.length:Int))))||(decide (128<(↑b.Af.length:Int))))||(decide (128<(↑b.Ag.length:Int))))||(decide (40<(↑b.Aj.length:Int))))||(decide ((↑b.Al.length:Int)≠3)))
  ·have p:=G3 au p;refine BZ O (MF O D AF.f_Err eF.1 O λdb bs=>BZ O (Gf PF s.1 O bs HA.1 O λbt=>BZ O ?_));obtain⟨dc,av,p⟩:=bd p;refine Jt O O O HH O (λh' o=>CB (St.all h') bt (iq (n:=0) O) (iq (n:=1099511627776) O) av) (BZ O (Pk O (El O ?_)));cases p;exact A0 O
  have p:=G2 au p;cases p;exact BG O O
 refine BJ (kp [72,1] O) λac F H=>AH O E (λbu E=>?_) (λbu E=>?_)
 ·refine DZ (Dr O (kp [2] O) (Bu (λu x c d=>?_)));cases E;exact UE c d O O (e5.trans H) ⟨O,F⟩
 refine GG (C9 (DZ ?_));have ad:=D.mono H;refine MF O ad AF.f_Name VG.1 O λdd bv=>Te LD F.1 O bv Sn.1 O λde=>MU O Mb O (BP O (E7 (kp [76,75,1] O) (AO (λa w=>IV B S2 ac (109,[]) a w [(1,q1)] (L) λ_ _=>EH N b=some r) ?_ ?_)))
 ·refine AX (λn1=>λa w=>∃(I:Int),IV B S2 ac (109,[]) a w [(75,vI (↑b.J.size:Int)),(1,q1),(76,vI I)] (L) λ_ _=>AB I∧EG N b (EH N b) n1 I=some r) N ?_ ?_ ?_
  ·intro u x c d;exact⟨0,_,_,c.sub (kp [75,1,76] O),d,F,(B9.refl S2 ac),(iq (n:=0) O),E⟩
  ·rintro u x ⟨_,_,_,_,_,_,_,_,E⟩;rw[EG] at E;cases E
  rintro n1 u x ⟨I,df,dg,c,d,A,X,dh,E⟩;refine AK ?_ c d;clear c d x u;rw[EG] at E;refine DZ (K4 O (E7 (kp [77,75,1,76] O) (C9 (AH O E (λbw E=>?_) (λbw E=>?_)))))
  ·refine GG (C9 (AY (DZ (BP O (Dr O (kp [3,75,1,76] O) (DZ ?_))))));have bx:=ad.mono X;refine MF O bx AF.f_Name VG.1 O λdi bz=>Te LD A.1 O bz Sn.1 O λdj=>BP O ?_;obtain⟨g,Y,E⟩:=bd E;have b0:=Li Y;refine Lk O O Mb Y O (Dr O (kp [4,75,1,76] O) (DZ (BP O (K4 O (BP O (AZ 3 88 (.bool ((decide (g<32))||(decide (126<g)))) ?_ ?_))))))
   ·cases b1:(decide (g<32))
    ·exact BZ O (BP O (BZ O (JH O (El O (A0 O)))))
    exact BG O O
   refine BP O (AZ 3 92 (.bool (((decide (g<32))||(decide (126<g)))||(decide (g=34)))) ?_ ?_)
   ·cases b2:((decide (g<32))||(decide (126<g)))
    ·exact BZ O (BP O (BZ O (RC O (El O (A0 O)))))
    exact BG O O
   refine BP O (AZ 3 96 (.bool ((((decide (g<32))||(decide (126<g)))||(decide (g=34)))||(decide (g=92)))) ?_ ?_)
   ·cases b3:(((decide (g<32))||(decide (126<g)))||(decide (g=34)))
    ·exact BZ O (BP O (BZ O (RC O (El O (A0 O)))))
    exact BG O O
   refine E7 (kp [96,75,1,76] O) (AH O E (λaw E=>?_) (λaw E=>?_))
   ·refine DZ (Dr O (kp [2] O) (Bu (λu x c d=>?_)));cases E;have ae:=e5.trans (H.trans X);exact UE c d O O ae ⟨O,A⟩
   refine GG (BE (JO (.inl O) (Mx O (BP O (E7 (kp [76,75,1] O) (WF.nil (λu x c d=>?_)))))));exact⟨(BC (I+1)),_,_,c.sub (kp [75,1,76] O),d,A,X,(BH _),E⟩
  refine BB O (λu x c d=>?_);exact⟨_,_,c.sub (kp [1] O),d,A,X,E⟩
 rintro u x ⟨K,M,c,d,Q,U,E⟩;refine AK ?_ c d;clear c d x u;rw[EH] at E;refine C9 (DZ ?_);have ax:=ad.mono U;refine MF O ax AF.f_Room YV.1 O λb4 ay=>JG LD Q.1 O ay G6.1 O λaz Z=>NR O Z Ct.1 O λb5=>BP O (E7 (kp [101,100,99] O) (AO (λa w=>IV B K M (109,[]) a w [] (L) λ_ _=>Gd N=some r) ?_ ?_))
 ·refine AX (λn3=>λa w=>∃(y:Int),IV B K M (109,[]) a w [(100,vI (↑b.Al.length:Int)),(99,az),(101,vI y)] (L) λ_ _=>AB y∧EF N b (Gd N) n3 y=some r) N ?_ ?_ ?_
  ·intro u x c d;exact⟨0,_,_,c.sub (kp [100,99,101] O),d,Q,(B9.refl K M),(iq (n:=0) O),E⟩
  ·rintro u x ⟨_,_,_,_,_,_,_,_,E⟩;rw[EF] at E;cases E
  rintro n3 u x ⟨y,b6,b7,c,d,z,C,b8,E⟩;refine AK ?_ c d;clear c d x u;rw[EF] at E;refine DZ (K4 O (E7 (kp [102,100,99,101] O) (C9 (AH O E (λa0 E=>?_) (λa0 E=>?_)))))
  ·refine GG (C9 (AY (DZ ?_)));have a1:=Z.mono' C;obtain⟨b9,af,E⟩:=bd E;refine K6 O O a1 Ct.1 af O λca a2=>Gf LD z.1 O a2 HA.1 O λa3=>Dr O (kp [6,100,99,101] O) (C9 (BY (.inl O) z (BP O ?_)));obtain⟨cb,ag,E⟩:=bd E;refine Jt O O O JY O (λh' o=>CP (St.all h') a3 ag) (Pk O (BJ (kp [107,100,99,101] O) λcc V ab=>AH O E (λa4 E=>?_) (λa4 E=>?_)))
   ·refine DZ (Dr O (kp [2] O) (Bu (λu x c d=>?_)));cases E;have ah:=e5.trans (H.trans (U.trans (C.trans ab)));exact UE c d O O ah ⟨O,V⟩
   refine GG (BE (JO (.inl O) (Mx O (BP O (E7 (kp [101,100,99] O) (WF.nil (λu x c d=>?_)))))));exact⟨(BC (y+1)),_,_,c.sub (kp [100,99,101] O),d,V,(C.trans ab),(BH _),E⟩
  refine BB O (λu x c d=>?_);exact⟨_,_,c.sub Nx,d,z,C,E⟩
 rintro u x ⟨cd,ce,c,d,ai,a5,E⟩;refine AK ?_ c d;clear c d x u;rw[Gd] at E;refine DZ (Dr O (kp [2] O) (Bu (λu x c d=>?_)));cases E;have aj:=e5.trans (H.trans (U.trans a5));exact UE c d O O aj ⟨O,ai⟩
def Rh (F:St S L h){b:ByteArray}(y:b.size≤maxLen){r:Bool}(E:Jq N b=some r):
 B3 prog 278 #[.string b] S h (λv S' h'=>v= .bool r∧St S' (L) h'):=by
 refine BA (l:=[.string b]) 54 func278 O ntmps278 O λB=>?_;rw[Jq] at E;refine DZ (Dr O (kp [0] O) (C9 (DZ (BP O (MU O Mb O (K4 O (BP O (AZ 4 12 (.bool ((decide ((↑b.size:Int)<1))||(decide (24<(↑b.size:Int))))) ?_ ?_))))))))
 ·cases c1:(decide ((↑b.size:Int)<1))
  ·exact BZ O (BP O (BZ O (MU O Mb O (BZ O (JH O (El O (A0 O)))))))
  exact BG O O
 refine BP O (AZ 3 16 (.bool (((decide ((↑b.size:Int)<1))||(decide (24<(↑b.size:Int))))||(b==(ByteArray.mk #[111,117,116])))) ?_ ?_)
 ·cases c2:((decide ((↑b.size:Int)<1))||(decide (24<(↑b.size:Int))))
  ·exact BZ O (BP O (BZ O (RA O O O (El O (A0 O)))))
  exact BG O O
 refine BP O ?_;obtain⟨G,d,E⟩:=bd E;refine AZ 4 21 (.bool G) ?_ ?_
 ·cases H:(((decide ((↑b.size:Int)<1))||(decide (24<(↑b.size:Int))))||(b==(ByteArray.mk #[111,117,116])))
  ·have d:=G3 H d;refine BZ O (BP O (BZ O ?_));obtain⟨z5,t,d⟩:=bd d;have r6:=Li t;refine Lk O O Mb t O (BZ O (K4 O (El O ?_)));cases d;exact A0 O
  have d:=G2 H d;cases d;exact BG O O
 refine BP O ?_;obtain⟨K,g,E⟩:=bd E;refine AZ 4 26 (.bool K) ?_ ?_
 ·cases I:G
  ·have g:=G3 I g;refine BZ O (BP O (BZ O ?_));obtain⟨z9,u,g⟩:=bd g;have M:=Li u;refine Lk O O Mb u O (BZ O (JH O (El O ?_)));cases g;exact A0 O
  have g:=G2 I g;cases g;exact BG O O
 refine E7 (kp [26,0] O) (AH O E (λz E=>?_) (λz E=>?_))
 ·refine DZ (Dr O (kp [2] O) (Bu (λo p i j=>?_)));cases E;exact UE i j O O (B9.refl S h) ⟨O,F⟩
 refine GG (C9 (DZ (Dr O (kp [3,0] O) (AO (λa w=>IV B S h (54,[]) a w [] (L) λ_ _=>Hh N=some r) ?_ ?_))))
 ·refine AX (λJ=>λa w=>∃(k:Int),IV B S h (54,[]) a w [(0,.string b),(3,vI k)] (L) λ_ _=>AB k∧Fo N b (Hh N) J k=some r) N ?_ ?_ ?_
  ·intro o p i j;exact⟨1,_,_,i.sub (kp [0,3] O),j,F,(B9.refl S h),(iq (n:=1) O),E⟩
  ·rintro o p ⟨_,_,_,_,_,_,_,_,E⟩;rw[Fo] at E;cases E
  rintro J o p ⟨k,Q,U,i,j,m,s,V,E⟩;refine AK ?_ i j;clear i j p o;rw[Fo] at E;refine C9 (DZ (BP O (BP O (MU O Mb O (K4 O (E7 (kp [30,0,3] O) (AH O E (λA E=>?_) (λA E=>?_))))))))
  ·refine GG (C9 (AY (DZ (BP O (BP O ?_)))));obtain⟨c,q,E⟩:=bd E;have W:=Li q;refine Lk O O Mb q O (Dr O (kp [4,0,3] O) (DZ (BP O (K4 O (BP O (AZ 3 41 (.bool ((decide (c<97))||(decide (122<c)))) ?_ ?_))))))
   ·cases X:(decide (c<97))
    ·exact BZ O (BP O (BZ O (JH O (El O (A0 O)))))
    exact BG O O
   refine BP O (AZ 7 49 (.bool (((decide (c<97))||(decide (122<c)))&&((decide (c<48))||(decide (57<c))))) ?_ ?_)
   ·cases Y:((decide (c<97))||(decide (122<c)))
    ·exact BG O O
    refine BZ O (BP O (BZ O (K4 O (BZ O (BP O (AZ 3 48 (.bool ((decide (c<48))||(decide (57<c)))) ?_ ?_))))))
    ·cases Z:(decide (c<48))
     ·exact BZ O (BP O (BZ O (JH O (BZ O (El O (A0 O))))))
     exact BG O O
    exact El O (A0 O)
   refine BP O (AZ 3 53 (.bool ((((decide (c<97))||(decide (122<c)))&&((decide (c<48))||(decide (57<c))))&&(decide (c≠95)))) ?_ ?_)
   ·cases ab:(((decide (c<97))||(decide (122<c)))&&((decide (c<48))||(decide (57<c))))
    ·exact BG O O
    exact BZ O (BP O (BZ O (Sc O (El O (A0 O)))))
   refine E7 (kp [53,0,3] O) (AH O E (λC E=>?_) (λC E=>?_))
   ·refine DZ (Dr O (kp [2] O) (Bu (λo p i j=>?_)));cases E;exact UE i j O O s ⟨O,m⟩
   refine GG (BE (JO (.inl O) (BP O (Mx O (Dr O (kp [3,0] O) (WF.nil (λo p i j=>?_)))))));exact⟨(BC (k+1)),_,_,i.sub (kp [0,3] O),j,m,s,(BH _),E⟩
  refine BB O (λo p i j=>?_);exact⟨_,_,i.sub Nx,j,m,s,E⟩
 rintro o p ⟨ac,ad,i,j,x,D,E⟩;refine AK ?_ i j;clear i j p o;rw[Hh] at E;refine DZ (Dr O (kp [2] O) (Bu (λo p i j=>?_)));cases E;exact UE i j O O D ⟨O,x⟩
def SP {c:Nat}{d:(List (AG×Bool))}(F:St S (MP (λk:AG=>Value.agg (AG.v k).toArray) Value.bool c d::L) h){g:ByteArray}(i:g.size≤maxLen){b:ByteArray}(j:b.size≤maxLen){r:Bool×(List (AG×Bool))}(E:KM N d g b=some r):
 B3 prog 231 #[.map (some c),.string g,.string b] S h (λv S' h'=>v= .bool r.1∧St S' (MP (λk:AG=>Value.agg (AG.v k).toArray) Value.bool c r.2::L) h'):=by
 refine BA 23 func231 O ntmps231 O λB=>?_;rw[KM] at E;refine AU ?_;refine RA O O O (AU ?_);refine HI (λa w=>∃(l:ByteArray),IV B S h (23,[]) a w [(0,.map (some c)),(2,.string b),(1,.string l)] (MP (λk:AG=>Value.agg (AG.v k).toArray) Value.bool c d::L) λ_ _=>l.size≤maxLen∧H5 N d b l=some r) ?_ ?_
 ·refine AH O E (λH E=>?_) (λH E=>?_)
  ·refine AU ?_;refine WF.nil (λy A p q=>?_);exact⟨(ByteArray.mk #[116,111,119,110]),_,_,p.sub (kp [0,2,1] O),q,F,(B9.refl S h),(by decide),E⟩
  refine AU ?_;refine WF.nil (λy A p q=>?_);exact⟨g,_,_,p.sub (kp [0,2,1] O),q,F,(B9.refl S h),i,E⟩
 rintro y A ⟨l,X,Y,p,q,C,Z,r2,E⟩;refine AK ?_ p q;clear p q A y;rw[H5] at E;refine AU ?_;refine FY (cs:=[.string l,.string b]) oU O O O (AU ?_);refine CF nU O C λb8 h9 s I=>?_;refine C7 O O O O oK.1 O s .head O λJ m K=>AU ?_;refine BY (.inl O) m (AU ?_);refine A8 E O O O rB O (λn t h' o=>Rh (St.all h') j t) λn E=>AU ?_;refine AZ 4 20 (.bool ((!n)||((MN (λk:AG=>Value.agg (AG.v k).toArray) d (⟨l,b⟩:AG)).getD false))) ?_ ?_
 ·cases M:(!n)
  ·refine AU ?_;refine Xd (k0:=(⟨l,b⟩:AG)) (z:=false) PF m (mt mh) O O aN YN yM O O (AU ?_);exact A0 O
  exact BG O O
 refine BJ (kp [20,7,0] O) λQ u U=>AH O E (λD E=>?_) (λD E=>?_)
 ·exact RT
 refine AU ?_;exact Xf (k0:=(⟨l,b⟩:AG)) (x:=true) u (.tail .head) O O O aN YN λV G W=>RT
def EO {d:Nat}{c2_:(List (AG×Bool))}{a:Nat}{g:Nat}{c3_:Bool}(s:St S (Bx d 319 [.map (some a)]::MP (λk:AG=>Value.agg (AG.v k).toArray) Value.bool a c2_::Bx g 4 [.bool c3_]::L) h){b:ByteArray}(i:b.size≤maxLen){c:ByteArray}(j:c.size≤maxLen){r:(List (AG×Bool))×Bool}(E:C2 N c2_ c3_ b c=some r):
 B3 prog 230 #[.string b,.string c,vP d 0,vP g 0] S h (λv S' h'=>v= .tuple #[]∧St S' (Bx d 319 [.map (some a)]::MP (λk:AG=>Value.agg (AG.v k).toArray) Value.bool a r.1::Bx g 4 [.bool r.2]::L) h'):=by
 refine BA 13 func230 O ntmps230 O λB=>?_;rw[C2] at E;refine Bv (AU ?_);have n:=s.pick (.tail .head);refine BQ E O O O rO O (λt o=>SP n i j o) λt E y z A C p=>?_;obtain⟨rfl,q⟩:=p;refine AU ?_;refine C7 O O O O Qf.1 O q (.tail (.tail .head)) O λD l u=>AU ?_;refine WF.nil (λF G w x=>?_);have m:=l.sel [1,0,0] 0 O;cases E;exact JA w O x I9 O EX ⟨O,m⟩
def PL (hs:St S L h){Q:Value}{b:AF}(a9:Rd S h BV Q b){r:Bool}(E:JF N b=some r):
 B3 prog 176 #[Q] S h (λv S' h'=>v= .bool r∧St S' (L) h'):=by
 refine BA 106 func176 O ntmps176 O λB=>?_;rw[JF] at E;refine AU ?_;refine By O a9 CE O hs λq1 S2 h3 e4 e5 k6=>AU ?_;refine hJ (K:=0) (E:=0) O e4 (λk:AG=>Value.agg (AG.v k).toArray) Value.bool λm h8 e6 jn=>CF nW O e6 λl jo c1 jp=>?_;refine C7 O O O O oM.1 O c1 .head O λjq c2 jr=>AU ?_;refine CF yN O c2 λc js c3 jt=>?_;refine C7 O O O O Qf.1 O c3 .head O λbq c4 ju=>AU ?_;refine PU O O O ?_;have c5:=k6.nw;have e7:=c5.fl Hn;obtain⟨e8,_,e9⟩:=e7.ll;refine AU ?_;refine AO (λa w=>∃(ba:Bool) (bb:(List (AG×Bool))),IV B S2 bq (106,[]) a w [(5,.func (.func 230) #[] #[vP l 0,vP c 0]),(4,vP c 0),(1,q1)] (Bx c 4 [.bool ba]::Bx l 319 [.map (some m)]::MP (λk:AG=>Value.agg (AG.v k).toArray) Value.bool m bb::L) λ_ _=>Ej N b ba bb=some r) ?_ ?_
 ·refine AX (λn1=>λa w=>∃(ae:Int) (af:Bool) (ag:(List (AG×Bool))),IV B S2 bq (106,[]) a w [(24,vI (↑b.F.length:Int)),(23,e8),(5,.func (.func 230) #[] #[vP l 0,vP c 0]),(4,vP c 0),(1,q1),(25,vI ae)] (Bx c 4 [.bool af]::Bx l 319 [.map (some m)]::MP (λk:AG=>Value.agg (AG.v k).toArray) Value.bool m ag::L) λ_ _=>AB ae∧DQ N b (Ej N b) n1 ae af ag=some r) N ?_ ?_ ?_
  ·intro i j d g;exact⟨0,true,([]:(List (AG×Bool))),_,_,d.sub (kp [24,23,5,4,1,25] O),g,c4,(B9.refl S2 bq),(iq (n:=0) O),E⟩
  ·rintro i j ⟨_,_,_,_,_,_,_,_,_,_,E⟩;rw[DQ] at E;cases E
  rintro n1 i j ⟨ae,af,ag,jv,jw,d,g,bf,c6,jx,E⟩;refine AK ?_ d g;clear d g j i;rw[DQ] at E;refine AU ?_;refine AH O E (λfa E=>?_) (λfa E=>?_)
  ·refine AU ?_;refine AY (AU ?_);have fb:=e9.mono' c6;refine A6 E O O fb mL.1 O λjy E jz fc=>?_;have fd:=fc.sz;refine AU ?_;refine Bv (AU ?_);have c7:=bf.sel [1,1,0] 0 O;refine BQ E O O O QQ O (λbr c8=>EO (c2_:=ag) (c3_:=af) c7 (by decide) fd c8) λbr E j0 j1 j2 j3 p=>?_;obtain⟨rfl,c9⟩:=p;refine AU ?_;refine BE (AU ?_);refine WF.nil (λi j d g=>?_);have da:=c9.sel [2,0,0] 0 O;exact⟨(BC (ae+1)),br.2,br.1,_,_,d.sub (kp [24,23,5,4,1,25] O),g,da,EX,(BH _),E⟩
  refine BB O (λi j d g=>?_);exact⟨af,ag,_,_,d.sub (kp [5,4,1] O),g,bf,c6,E⟩
 rintro i j ⟨ba,bb,bs,bt,d,g,db,fe,E⟩;refine AK ?_ d g;clear d g j i;rw[Ej] at E;have dc:=c5.mono fe;have ff:=dc.fl B5;obtain⟨fg,_,fh⟩:=ff.ll;refine AU ?_;refine AO (λa w=>∃(bc:Bool) (be:(List (AG×Bool))),IV B bs bt (106,[]) a w [(5,.func (.func 230) #[] #[vP l 0,vP c 0]),(4,vP c 0),(1,q1)] (Bx c 4 [.bool bc]::Bx l 319 [.map (some m)]::MP (λk:AG=>Value.agg (AG.v k).toArray) Value.bool m be::L) λ_ _=>Ei N b bc be=some r) ?_ ?_
 ·refine AX (λn3=>λa w=>∃(ah:Int) (ai:Bool) (aj:(List (AG×Bool))),IV B bs bt (106,[]) a w [(35,vI (↑b.A.length:Int)),(34,fg),(5,.func (.func 230) #[] #[vP l 0,vP c 0]),(4,vP c 0),(1,q1),(36,vI ah)] (Bx c 4 [.bool ai]::Bx l 319 [.map (some m)]::MP (λk:AG=>Value.agg (AG.v k).toArray) Value.bool m aj::L) λ_ _=>AB ah∧DP N b (Ei N b) n3 ah ai aj=some r) N ?_ ?_ ?_
  ·intro i j d g;exact⟨0,ba,bb,_,_,d.sub (kp [35,34,5,4,1,36] O),g,db,(B9.refl bs bt),(iq (n:=0) O),E⟩
  ·rintro i j ⟨_,_,_,_,_,_,_,_,_,_,E⟩;rw[DP] at E;cases E
  rintro n3 i j ⟨ah,ai,aj,j4,j5,d,g,bg,dd,j6,E⟩;refine AK ?_ d g;clear d g j i;rw[DP] at E;refine AU ?_;refine AH O E (λfi E=>?_) (λfi E=>?_)
  ·refine AU ?_;refine AY (AU ?_);have fj:=fh.mono' dd;refine A6 E O O fj Md.1 O λj7 E j8 fk=>?_;obtain⟨j9,_,fm⟩:=fk.lv;refine AU ?_;refine CF NI O bg λka kb de fn=>?_;have fo:=fm.mono fn;obtain⟨fr,fs,ft,rfl,fp,kc,kd,fu,fv,fw,fx,fy,fz,f0,f1,f2⟩:=CC.ex fo;refine DL O O O ON NJ.1 O de .head O λf3 bu f4=>AU ?_;refine Bv (AU ?_);have bv:=bu.sel [2,2,1,0] 0 O;refine BQ E O O O QQ O (λak bw=>EO (c2_:=aj) (c3_:=ai) bv (by decide) fp bw) λak E f5 f6 f7 f8 p=>?_;obtain⟨rfl,bx⟩:=p;refine AU ?_;refine BE (AU ?_);refine WF.nil (λi j d g=>?_);have bz:=bx.sel [2,0,0] 1 O;exact⟨(BC (ah+1)),ak.2,ak.1,_,_,d.sub (kp [35,34,5,4,1,36] O),g,bz,EX,(BH _),E⟩
  refine BB O (λi j d g=>?_);exact⟨ai,aj,_,_,d.sub (kp [5,4,1] O),g,bg,dd,E⟩
 rintro i j ⟨bc,be,am,an,d,g,b0,df,E⟩;refine AK ?_ d g;clear d g j i;rw[Ei] at E;have bh:=dc.mono df;have dg:=bh.fl Gv;obtain⟨dh,_,di⟩:=dg.ll;refine AU ?_;refine AO (λa w=>∃(U:Bool) (V:(List (AG×Bool))),IV B am an (106,[]) a w [(5,.func (.func 230) #[] #[vP l 0,vP c 0]),(4,vP c 0),(1,q1)] (Bx c 4 [.bool U]::Bx l 319 [.map (some m)]::MP (λk:AG=>Value.agg (AG.v k).toArray) Value.bool m V::L) λ_ _=>Eh N b U V=some r) ?_ ?_
 ·refine AX (λn5=>λa w=>∃(o:Int) (q:Bool) (s:(List (AG×Bool))),IV B am an (106,[]) a w [(47,vI (↑b.G.length:Int)),(46,dh),(5,.func (.func 230) #[] #[vP l 0,vP c 0]),(4,vP c 0),(1,q1),(48,vI o)] (Bx c 4 [.bool q]::Bx l 319 [.map (some m)]::MP (λk:AG=>Value.agg (AG.v k).toArray) Value.bool m s::L) λ_ _=>AB o∧DO N b (Eh N b) n5 o q s=some r) N ?_ ?_ ?_
  ·intro i j d g;exact⟨0,bc,be,_,_,d.sub (kp [47,46,5,4,1,48] O),g,b0,(B9.refl am an),(iq (n:=0) O),E⟩
  ·rintro i j ⟨_,_,_,_,_,_,_,_,_,_,E⟩;rw[DO] at E;cases E
  rintro n5 i j ⟨o,q,s,f9,ga,d,g,ao,bi,gb,E⟩;refine AK ?_ d g;clear d g j i;rw[DO] at E;refine AU ?_;refine AH O E (λdj E=>?_) (λdj E=>?_)
  ·refine AU ?_;refine AY (AU ?_);have dk:=di.mono' bi;refine A6 E O O dk Ox.1 O λgc E gd dl=>?_;obtain⟨ge,_,dm⟩:=dl.lv;refine AU ?_;refine CF Ok O ao λgf gg b1 dn=>?_;have dp:=dm.mono dn;obtain⟨gh,gi,gj,rfl,dq,gl,gm,gn,gp,gq,gr,gs,gt,gu,gv,gw,gx,gy,gz,g0,g1,g2⟩:=B0.ex dp;refine DL O O O ON Ou.1 O b1 .head O λg3 b2 g4=>AU ?_;refine Bv (AU ?_);have b3:=b2.sel [2,2,1,0] 0 O;refine BQ E O O O QQ O (λap b4=>EO (c2_:=s) (c3_:=q) b3 (by decide) dq b4) λap E g5 g6 g7 g8 p=>?_;obtain⟨rfl,b5⟩:=p;refine AU ?_;refine BE (AU ?_);refine WF.nil (λi j d g=>?_);have b6:=b5.sel [2,0,0] 1 O;exact⟨(BC (o+1)),ap.2,ap.1,_,_,d.sub (kp [47,46,5,4,1,48] O),g,b6,EX,(BH _),E⟩
  refine BB O (λi j d g=>?_);exact⟨q,s,_,_,d.sub (kp [5,4,1] O),g,ao,bi,E⟩
 rintro i j ⟨U,V,aq,ar,d,g,b8,dr,E⟩;refine AK ?_ d g;clear d g j i;rw[Eh] at E;have bj:=bh.mono dr;have ds:=bj.fl Ju;obtain⟨dt,_,du⟩:=ds.ll;refine AU ?_;refine AO (λa w=>∃(W:Bool) (X:(List (AG×Bool))),IV B aq ar (106,[]) a w [(5,.func (.func 230) #[] #[vP l 0,vP c 0]),(4,vP c 0),(1,q1)] (Bx c 4 [.bool W]::Bx l 319 [.map (some m)]::MP (λk:AG=>Value.agg (AG.v k).toArray) Value.bool m X::L) λ_ _=>Eg N b W X=some r) ?_ ?_
 ·refine AX (λn7=>λa w=>∃(t:Int) (u:Bool) (x:(List (AG×Bool))),IV B aq ar (106,[]) a w [(59,vI (↑b.Ac.length:Int)),(58,dt),(5,.func (.func 230) #[] #[vP l 0,vP c 0]),(4,vP c 0),(1,q1),(60,vI t)] (Bx c 4 [.bool u]::Bx l 319 [.map (some m)]::MP (λk:AG=>Value.agg (AG.v k).toArray) Value.bool m x::L) λ_ _=>AB t∧DN N b (Eg N b) n7 t u x=some r) N ?_ ?_ ?_
  ·intro i j d g;exact⟨0,U,V,_,_,d.sub (kp [59,58,5,4,1,60] O),g,b8,(B9.refl aq ar),(iq (n:=0) O),E⟩
  ·rintro i j ⟨_,_,_,_,_,_,_,_,_,_,E⟩;rw[DN] at E;cases E
  rintro n7 i j ⟨t,u,x,g9,ha,d,g,au,bk,hb,E⟩;refine AK ?_ d g;clear d g j i;rw[DN] at E;refine AU ?_;refine AH O E (λdv E=>?_) (λdv E=>?_)
  ·refine AU ?_;refine AY (AU ?_);have dw:=du.mono' bk;refine A6 E O O dw bV.1 O λhc E hd dx=>?_;obtain⟨he,_,dy⟩:=dx.lv;refine AU ?_;refine CF aC O au λhg hh b9 dz=>?_;have d0:=dy.mono dz;obtain⟨rfl,⟨d1,hi,hj,hk,hl,hm,hn⟩⟩:=Hb.ex d0;refine C7 O O O O aX.1 O b9 .head O λho ca hp=>AU ?_;refine Bv (AU ?_);have cb:=ca.sel [2,2,1,0] 0 O;refine BQ E O O O QQ O (λav cc=>EO (c2_:=x) (c3_:=u) cb (by decide) d1 cc) λav E hq hr ht hu p=>?_;obtain⟨rfl,cd⟩:=p;refine AU ?_;refine BE (AU ?_);refine WF.nil (λi j d g=>?_);have ce:=cd.sel [2,0,0] 1 O;exact⟨(BC (t+1)),av.2,av.1,_,_,d.sub (kp [59,58,5,4,1,60] O),g,ce,EX,(BH _),E⟩
  refine BB O (λi j d g=>?_);exact⟨u,x,_,_,d.sub (kp [5,4,1] O),g,au,bk,E⟩
 rintro i j ⟨W,X,aw,ax,d,g,cf,d2,E⟩;refine AK ?_ d g;clear d g j i;rw[Eg] at E;have bl:=bj.mono d2;have d3:=bl.fl Jd;obtain⟨d4,_,d5⟩:=d3.ll;refine AU ?_;refine AO (λa w=>∃(Y:Bool) (Z:(List (AG×Bool))),IV B aw ax (106,[]) a w [(5,.func (.func 230) #[] #[vP l 0,vP c 0]),(4,vP c 0),(1,q1)] (Bx c 4 [.bool Y]::Bx l 319 [.map (some m)]::MP (λk:AG=>Value.agg (AG.v k).toArray) Value.bool m Z::L) λ_ _=>Ef N b Y Z=some r) ?_ ?_
 ·refine AX (λn9=>λa w=>∃(y:Int) (z:Bool) (C:(List (AG×Bool))),IV B aw ax (106,[]) a w [(71,vI (↑b.Aj.length:Int)),(70,d4),(5,.func (.func 230) #[] #[vP l 0,vP c 0]),(4,vP c 0),(1,q1),(72,vI y)] (Bx c 4 [.bool z]::Bx l 319 [.map (some m)]::MP (λk:AG=>Value.agg (AG.v k).toArray) Value.bool m C::L) λ_ _=>AB y∧DM N b (Ef N b) n9 y z C=some r) N ?_ ?_ ?_
  ·intro i j d g;exact⟨0,W,X,_,_,d.sub (kp [71,70,5,4,1,72] O),g,cf,(B9.refl aw ax),(iq (n:=0) O),E⟩
  ·rintro i j ⟨_,_,_,_,_,_,_,_,_,_,E⟩;rw[DM] at E;cases E
  rintro n9 i j ⟨y,z,C,hv,hx,d,g,ay,bm,hy,E⟩;refine AK ?_ d g;clear d g j i;rw[DM] at E;refine AU ?_;refine AH O E (λd6 E=>?_) (λd6 E=>?_)
  ·refine AU ?_;refine AY (AU ?_);have d7:=d5.mono' bm;refine A6 E O O d7 bS.1 O λhz E h0 d8=>?_;obtain⟨h1,_,d9⟩:=d8.lv;refine AU ?_;refine CF aA O ay λh2 h4 cg ea=>?_;have eb:=d9.mono ea;obtain⟨rfl,⟨ec,h5⟩⟩:=DI.ex eb;refine C7 O O O O aU.1 O cg .head O λh6 ch h7=>AU ?_;refine Bv (AU ?_);have ci:=ch.sel [2,2,1,0] 0 O;refine BQ E O O O QQ O (λaz cj=>EO (c2_:=C) (c3_:=z) ci (by decide) ec cj) λaz E h9 ia ib ic p=>?_;obtain⟨rfl,ck⟩:=p;refine AU ?_;refine BE (AU ?_);refine WF.nil (λi j d g=>?_);have cl:=ck.sel [2,0,0] 1 O;exact⟨(BC (y+1)),az.2,az.1,_,_,d.sub (kp [71,70,5,4,1,72] O),g,cl,EX,(BH _),E⟩
  refine BB O (λi j d g=>?_);exact⟨z,C,_,_,d.sub (kp [5,4,1] O),g,ay,bm,E⟩
 rintro i j ⟨Y,Z,a0,a1,d,g,cm,ed,E⟩;refine AK ?_ d g;clear d g j i;rw[Ef] at E;have bn:=bl.mono ed;have ee:=bn.fl KU;obtain⟨ef,_,eg⟩:=ee.ll;refine AU ?_;refine AO (λa w=>∃(ab:Bool) (ac:(List (AG×Bool))),IV B a0 a1 (106,[]) a w [(5,.func (.func 230) #[] #[vP l 0,vP c 0]),(4,vP c 0),(1,q1)] (Bx c 4 [.bool ab]::Bx l 319 [.map (some m)]::MP (λk:AG=>Value.agg (AG.v k).toArray) Value.bool m ac::L) λ_ _=>EN N b ab ac=some r) ?_ ?_
 ·refine AX (λeh=>λa w=>∃(D:Int) (H:Bool) (I:(List (AG×Bool))),IV B a0 a1 (106,[]) a w [(83,vI (↑b.Af.length:Int)),(82,ef),(5,.func (.func 230) #[] #[vP l 0,vP c 0]),(4,vP c 0),(1,q1),(84,vI D)] (Bx c 4 [.bool H]::Bx l 319 [.map (some m)]::MP (λk:AG=>Value.agg (AG.v k).toArray) Value.bool m I::L) λ_ _=>AB D∧DD N b (EN N b) eh D H I=some r) N ?_ ?_ ?_
  ·intro i j d g;exact⟨0,Y,Z,_,_,d.sub (kp [83,82,5,4,1,84] O),g,cm,(B9.refl a0 a1),(iq (n:=0) O),E⟩
  ·rintro i j ⟨_,_,_,_,_,_,_,_,_,_,E⟩;rw[DD] at E;cases E
  rintro eh i j ⟨D,H,I,id,ie,d,g,a2,bo,ig,E⟩;refine AK ?_ d g;clear d g j i;rw[DD] at E;refine AU ?_;refine AH O E (λei E=>?_) (λei E=>?_)
  ·refine AU ?_;refine AY (AU ?_);have ej:=eg.mono' bo;refine A6 E O O ej bU.1 O λih E ii ek=>?_;obtain⟨ij,_,el⟩:=ek.lv;refine AU ?_;refine CF Z9 O a2 λik il cn em=>?_;have en:=el.mono em;obtain⟨rfl,⟨eo,im,io,ip,ir⟩⟩:=Er.ex en;refine C7 O O O O aT.1 O cn .head O λit co iu=>AU ?_;refine Bv (AU ?_);have cp:=co.sel [2,2,1,0] 0 O;refine BQ E O O O QQ O (λa3 cq=>EO (c2_:=I) (c3_:=H) cp (by decide) eo cq) λa3 E iv iw iy iz p=>?_;obtain⟨rfl,cr⟩:=p;refine AU ?_;refine BE (AU ?_);refine WF.nil (λi j d g=>?_);have cs:=cr.sel [2,0,0] 1 O;exact⟨(BC (D+1)),a3.2,a3.1,_,_,d.sub (kp [83,82,5,4,1,84] O),g,cs,EX,(BH _),E⟩
  refine BB O (λi j d g=>?_);exact⟨H,I,_,_,d.sub (kp [5,4,1] O),g,a2,bo,E⟩
 rintro i j ⟨ab,ac,a4,a5,d,g,ct,ep,E⟩;refine AK ?_ d g;clear d g j i;rw[EN] at E;have eq:=bn.mono ep;have er:=eq.fl K9;obtain⟨es,_,eu⟩:=er.ll;refine AU ?_;refine AO (λa w=>∃(a6:Bool),IV B a4 a5 (106,[]) a w [(4,vP c 0)] (Bx c 4 [.bool a6]::L) λ_ _=>EM N a6=some r) ?_ ?_
 ·refine AX (λev=>λa w=>∃(J:Int) (M:Bool) (ad:(List (AG×Bool))),IV B a4 a5 (106,[]) a w [(95,vI (↑b.Ag.length:Int)),(94,es),(5,.func (.func 230) #[] #[vP l 0,vP c 0]),(4,vP c 0),(96,vI J)] (Bx c 4 [.bool M]::Bx l 319 [.map (some m)]::MP (λk:AG=>Value.agg (AG.v k).toArray) Value.bool m ad::L) λ_ _=>AB J∧DC N b (EM N) ev J M ad=some r) N ?_ ?_ ?_
  ·intro i j d g;exact⟨0,ab,ac,_,_,d.sub (kp [95,94,5,4,96] O),g,ct,(B9.refl a4 a5),(iq (n:=0) O),E⟩
  ·rintro i j ⟨_,_,_,_,_,_,_,_,_,_,E⟩;rw[DC] at E;cases E
  rintro ev i j ⟨J,M,ad,i0,i1,d,g,a7,bp,i2,E⟩;refine AK ?_ d g;clear d g j i;rw[DC] at E;refine AU ?_;refine AH O E (λew E=>?_) (λew E=>?_)
  ·refine AU ?_;refine AY (AU ?_);have ey:=eu.mono' bp;refine A6 E O O ey bT.1 O λi3 E i4 ez=>?_;obtain⟨i5,_,e0⟩:=ez.lv;refine AU ?_;refine CF Z8 O a7 λi6 i7 cu e1=>?_;have e2:=e0.mono e1;obtain⟨rfl,⟨e3,i8,i9,ja,jb,jc,jd⟩⟩:=G4.ex e2;refine C7 O O O O aS.1 O cu .head O λje cv jf=>AU ?_;refine Bv (AU ?_);have cw:=cv.sel [2,2,1,0] 0 O;refine BQ E O O O QQ O (λa8 cx=>EO (c2_:=ad) (c3_:=M) cw (by decide) e3 cx) λa8 E jg jh ji jj p=>?_;obtain⟨rfl,cy⟩:=p;refine AU ?_;refine BE (AU ?_);refine WF.nil (λi j d g=>?_);have cz:=cy.sel [2,0,0] 1 O;exact⟨(BC (J+1)),a8.2,a8.1,_,_,d.sub (kp [95,94,5,4,96] O),g,cz,EX,(BH _),E⟩
  refine BB O (λi j d g=>?_);have c0:=a7.sel [0] 2 O;exact⟨M,_,_,d.sub (kp [4] O),g,c0,bp,E⟩
 rintro i j ⟨a6,jk,jl,d,g,fq,jm,E⟩;refine AK ?_ d g;clear d g j i;rw[EM] at E;exact RT
def Kf (n:St S L h){a:Int}(d:AB a){b:Int}(g:AB b){r:Bool}(E:HG N a b=some r):
 B3 prog 233 #[vI a,vI b] S h (λv S' h'=>v= .bool r∧St S' (L) h'):=by
 refine BA 19 func233 O ntmps233 O λB=>?_;rw[HG] at E;refine AU ?_;refine BY (.inl O) n (AU ?_);refine A8 E O O O JY O (λk i h' o=>CP (St.all h') d i) λk E=>AU ?_;obtain⟨p,c,E⟩:=bd E;refine AZ 3 10 (.bool p) ?_ ?_
 ·cases l:k
  ·have c:=G3 l c;cases c;exact BG O O
  have c:=G2 l c;refine AU ?_;refine A8 c O O O JY O (λq j h' o=>CP (St.all h') g j) λq c=>AU ?_;cases c;exact A0 O
 refine AU ?_;exact BJ (kp [4] O) λt m s=>RT
def Hl (i:St S L h){b:Int}(c:AB b){a:Int}(d:AB a){r:Bool}(E:FC N b a=some r):
 B3 prog 235 #[vI b,vI a] S h (λv S' h'=>v= .bool r∧St S' (L) h'):=by
 refine BA 9 func235 O ntmps235 O λB=>?_;rw[FC] at E;refine AU ?_;refine BY (.inl O) i (AU ?_);refine A8 E O O O HH O (λj g h' o=>CB (St.all h') c (iq (n:=0) O) (BH _) g) λj E=>AU ?_;exact BJ (kp [4] O) λl k m=>RT
def Nl (w:St S L h){d:Value}{j:AF}(i:Rd S h BV d j){a:Int}(k:AB a){b:Int}(g:AB b){r:Bool}(E:I3 N j a b=some r):
 B3 prog 234 #[d,vI a,vI b] S h (λv S' h'=>v= .bool r∧St S' (L) h'):=by
 refine BA 21 func234 O ntmps234 O λB=>?_;rw[I3] at E;refine AU ?_;refine By O i CE O w λD S2 F m G x=>AU ?_;refine BY (.inl O) m (AU ?_);obtain⟨y,c,E⟩:=bd E;refine AZ 11 20 (.bool y) ?_ ?_
 ·cases t:(decide (b=(-1)))
  ·have c:=G3 t c;have n:=x.fl B5;obtain⟨z,_,p⟩:=n.ll;have q:=p.le;refine AU ?_;refine A8 c O O O QO O (λs l h' o=>Hl (St.all h') g (KZ q) l) λs c=>AU ?_;cases c;exact A0 O
  have c:=G2 t c;cases c;exact BG O O
 refine AU ?_;exact BJ (kp [6] O) λA u C=>RT
def Of (hs:St S L h){K:Value}{b:AF}(ab:Rd S h BV K b){r:Bool}(E:Hq N b=some r):
 B3 prog 177 #[K] S h (λv S' h'=>v= .bool r∧St S' (L) h'):=by
 refine BA 122 func177 O ntmps177 O λB=>?_;rw[Hq] at E;refine AU ?_;refine By O ab CE O hs λq1 S2 h3 ck e5 k6=>?_;have k8:=k6.fl B5;obtain⟨v9,_,cl⟩:=k8.ll;refine AU ?_;refine AO (λa w=>∃(ac:Int),IV B S2 h3 (122,[]) a w [(3,vI ac)] (L) λ_ _=>AB ac∧CA N ac=some r) ?_ ?_
 ·refine AX (λn1=>λa w=>∃(M:Int) (k:Int),IV B S2 h3 (122,[]) a w [(13,vI (↑b.A.length:Int)),(12,v9),(1,q1),(3,vI M),(14,vI k)] (L) λ_ _=>AB M∧AB k∧Bw N b (CA N) n1 M k=some r) N ?_ ?_ ?_
  ·intro x y d g;exact⟨0,0,_,_,d.sub (kp [13,12,1,3,14] O),g,ck,(B9.refl S2 h3),(iq (n:=0) O),(iq (n:=0) O),E⟩
  ·rintro x y ⟨_,_,_,_,_,_,_,_,_,_,E⟩;rw[Bw] at E;cases E
  rintro n1 x y ⟨M,k,ad,cm,d,g,af,a1,a2,cn,E⟩;refine AK ?_ d g;clear d g y x;rw[Bw] at E;refine AU ?_;refine AH O E (λco E=>?_) (λco E=>?_)
  ·refine AU ?_;refine AO (λa w=>∃(Q:Int),IV B ad cm (122,[]) a w [(13,vI (↑b.A.length:Int)),(12,v9),(1,q1),(14,vI k),(3,vI Q)] (L) λ_ _=>AB Q∧Cr N k (Bw N b (CA N) n1) Q=some r) ?_ ?_
   ·refine AU ?_;have cp:=cl.mono' a1;refine A6 E O O cp Md.1 O λc E d8 cq=>?_;obtain⟨d9,_,cr⟩:=cq.lv;refine AU ?_;refine CF NI O af λae ea a3 cs=>AU ?_;have ct:=cr.mono cs;obtain⟨a4,ak,am,rfl,eb,cu,cv,cw,cx,a5,cy,cz,c0,c1,c2,c3⟩:=CC.ex ct;refine DL O O O ON NJ.1 O a3 .head O λec U a6=>AU ?_;refine BY (.inl O) U (AU ?_);refine A8 E O O O HH O (λa7 a8 h' o=>CB (St.all h') cu (iq (n:=0) O) (iq (n:=3) O) a8) λa7 E=>AU ?_;obtain⟨a9,l,E⟩:=bd E;refine AZ 5 28 (.bool a9) ?_ ?_
    ·cases ba:(!a7)
     ·have l:=G3 ba l;refine AU ?_;refine A8 l O O O HH O (λc4 bb h' o=>CB (St.all h') cv (iq (n:=0) O) (iq (n:=2) O) bb) λc4 l=>AU ?_;cases l;exact A0 O
     have l:=G2 ba l;cases l;exact BG O O
    refine AU ?_;obtain⟨bc,m,E⟩:=bd E;refine AZ 5 34 (.bool bc) ?_ ?_
    ·cases be:a9
     ·have m:=G3 be m;refine AU ?_;refine A8 m O O O HH O (λc5 bf h' o=>CB (St.all h') c1 (iq (n:=0) O) (iq (n:=240) O) bf) λc5 m=>AU ?_;cases m;exact A0 O
     have m:=G2 be m;cases m;exact BG O O
    refine AU ?_;obtain⟨bg,p,E⟩:=bd E;refine AZ 5 40 (.bool bg) ?_ ?_
    ·cases bh:bc
     ·have p:=G3 bh p;refine AU ?_;refine A8 p O O O JY O (λc6 bi h' o=>CP (St.all h') cw bi) λc6 p=>AU ?_;cases p;exact A0 O
     have p:=G2 bh p;cases p;exact BG O O
    refine AU ?_;obtain⟨bj,q,E⟩:=bd E;refine AZ 5 46 (.bool bj) ?_ ?_
    ·cases bk:bg
     ·have q:=G3 bk q;refine AU ?_;refine A8 q O O O JY O (λc7 bl h' o=>CP (St.all h') c2 bl) λc7 q=>AU ?_;cases q;exact A0 O
     have q:=G2 bk q;cases q;exact BG O O
    refine AU ?_;obtain⟨bm,s,E⟩:=bd E;refine AZ 5 52 (.bool bm) ?_ ?_
    ·cases bn:bj
     ·have s:=G3 bn s;refine AU ?_;have c8:=cx.mono' a6;refine A8 s O O O QP O (λc9 bo h' o=>Hk (St.all h') (c8.mono' (o.all U.1)) bo) λc9 s=>AU ?_;cases s;exact A0 O
     have s:=G2 bn s;cases s;exact BG O O
    have ed:=a5.mono' a6;have ee:=k6.nw;refine AU ?_;obtain⟨bp,t,E⟩:=bd E;refine AZ 7 69 (.bool bp) ?_ ?_
    ·cases bq:(bm||(decide ((↑c.Be.length:Int)≠(↑b.F.length:Int))))
     ·have t:=G3 bq t;refine AU ?_;refine A8 t O O O XV O (λda br h' o=>Kf (St.all h') cy cz br) λda t=>AU ?_;cases t;exact A0 O
     have t:=G2 bq t;cases t;exact BG O O
    refine AU ?_;obtain⟨db,u,E⟩:=bd E;refine AZ 7 77 (.bool db) ?_ ?_
    ·cases bs:bp
     ·have u:=G3 bs u;have dc:=k6.nw;obtain⟨df,_,bt⟩:=dc.lv;refine AU ?_;refine A8 u O O O fG O (λbu an h' o=>Nl (St.all h') (bt.mono (o.all U.1)) cn c0 an) λbu u=>AU ?_;cases u;exact A0 O
     have u:=G2 bs u;cases u;exact BG O O
    refine BJ (kp [77,5,13,12,1,3,14] O) λV ao dg=>AH O E (λbv E=>?_) (λbv E=>?_)
    ·exact RT
    have bw:=a5.nw;refine AU ?_;refine AO (λa w=>∃(z:Int),IV B ad V (122,[]) a w [(5,vP ae 0),(13,vI (↑b.A.length:Int)),(12,v9),(1,q1),(14,vI k),(3,vI z)] (Bx ae 101 [.string c.J,vI c.H,vI c.Ao,vI c.Au,a4,ak,vI c.Y,vI c.T,vI c.Ap,vI c.S,vI c.Bf,am]::L) λ_ _=>AB z∧EL N b c (Cr N k (Bw N b (CA N) n1)) z=some r) ?_ ?_
    ·refine AX (λn4=>λa w=>∃(C:Int) (D:Int),IV B ad V (122,[]) a w [(80,vI (↑c.Be.length:Int)),(79,ak),(5,vP ae 0),(13,vI (↑b.A.length:Int)),(12,v9),(1,q1),(14,vI k),(3,vI C),(81,vI D)] (Bx ae 101 [.string c.J,vI c.H,vI c.Ao,vI c.Au,a4,ak,vI c.Y,vI c.T,vI c.Ap,vI c.S,vI c.Bf,am]::L) λ_ _=>AB C∧AB D∧DB N c (EL N b c (Cr N k (Bw N b (CA N) n1))) n4 C D=some r) N ?_ ?_ ?_
     ·intro x y d g;exact⟨M,0,_,_,d.sub (kp [80,79,5,13,12,1,14,3,81] O),g,ao,(B9.refl ad V),a2,(iq (n:=0) O),E⟩
     ·rintro x y ⟨_,_,_,_,_,_,_,_,_,_,E⟩;rw[DB] at E;cases E
     rintro n4 x y ⟨C,D,dh,di,d,g,W,ag,bx,dj,E⟩;refine AK ?_ d g;clear d g y x;rw[DB] at E;refine AU ?_;refine AH O E (λbz E=>?_) (λbz E=>?_)
     ·refine AU ?_;refine AY (AU ?_);have b0:=bw.mono' ag;refine A6 E O O b0 Ct.1 O λb1 E dk b2=>?_;have b3:=b2.i;refine AU ?_;refine BY (.inl O) W (AU ?_);refine A8 E O O O JY O (λb4 ap h' o=>CP (St.all h') b3 ap) λb4 E=>AU ?_;refine BJ (kp [87,7,80,79,5,13,12,1,14,3,81] O) λdl aq dm=>AH O E (λb5 E=>?_) (λb5 E=>?_)
      ·exact RT
      refine AU ?_;refine BE (AU ?_);refine WF.nil (λx y d g=>?_);exact⟨(BC (C+b1)),(BC (D+1)),_,_,d.sub (kp [80,79,5,13,12,1,14,3,81] O),g,aq,EX,(BH _),(BH _),E⟩
     refine BB O (λx y d g=>?_);exact⟨C,_,_,d.sub (kp [5,13,12,1,14,3] O),g,W,ag,bx,E⟩
    rintro x y ⟨z,ah,ai,d,g,ar,dn,b6,E⟩;refine AK ?_ d g;clear d g y x;rw[EL] at E;have b7:=c3.nw;refine AU ?_;refine AY (AX (λn5=>λa w=>∃(G:Int) (I:Int),IV B ah ai (122,[]) a w [(94,vI (↑c.Aa.length:Int)),(93,am),(13,vI (↑b.A.length:Int)),(12,v9),(1,q1),(14,vI k),(3,vI z),(8,vI G),(95,vI I)] (L) λ_ _=>AB G∧AB I∧DA N b c z (Cr N k (Bw N b (CA N) n1)) n5 G I=some r) N ?_ ?_ ?_)
    ·intro x y d g;have au:=ar.drop .head;exact⟨(-1),0,_,_,d.sub (kp [94,93,13,12,1,14,3,8,95] O),g,au,(B9.refl ah ai),(iq (n:=(-1)) O),(iq (n:=0) O),E⟩
    ·rintro x y ⟨_,_,_,_,_,_,_,_,_,_,E⟩;rw[DA] at E;cases E
    rintro n5 x y ⟨G,I,dp,dq,d,g,X,b8,dr,ds,E⟩;refine AK ?_ d g;clear d g y x;rw[DA] at E;refine AU ?_;refine AH O E (λb9 E=>?_) (λb9 E=>?_)
    ·refine AU ?_;refine AY (AU ?_);have ca:=b7.mono' b8;refine A6 E O O ca vE.1 O λZ E dt cb=>?_;obtain⟨du,_,cc⟩:=cb.lv;refine AU ?_;refine CF nX O X λdv dw av cd=>?_;have ce:=cc.mono cd;obtain⟨rfl,⟨cf,cg⟩⟩:=Mv.ex ce;refine C7 O O O O oN.1 O av .head O λdx aw dy=>AU ?_;refine BY (.inl O) aw ?_;have dz:=k6.nw;refine AU ?_;obtain⟨ch,j,E⟩:=bd E;refine AZ 5 115 (.bool ch) ?_ ?_
     ·cases aj:((decide (Z.Bh≤G))||(decide (b.P≤Z.Bh)))
      ·have j:=G3 aj j;refine AU ?_;refine A8 j O O O JY O (λci ax h' o=>CP (St.all h') cg ax) λci j=>AU ?_;cases j;exact A0 O
      have j:=G2 aj j;cases j;exact BG O O
     refine BJ (kp [115,10,94,93,13,12,1,14,3,95] O) λd0 ay d1=>AH O E (λcj E=>?_) (λcj E=>?_)
     ·exact RT
     refine AU ?_;refine BE (AU ?_);refine WF.nil (λx y d g=>?_);have az:=ay.drop .head;exact⟨Z.Bh,(BC (I+1)),_,_,d.sub (kp [94,93,13,12,1,14,3,8,95] O),g,az,EX,cf,(BH _),E⟩
    refine KN O (WF.nil (λx y d g=>?_));exact⟨z,_,_,d.sub (kp [13,12,1,14,3] O),g,X,EX,b6,E⟩
   rintro x y ⟨Q,d2,d3,d,g,a0,d4,dd,E⟩;refine AK ?_ d g;clear d g y x;rw[Cr] at E;refine AU ?_;refine WF.nil (λx y d g=>?_);exact⟨Q,(BC (k+1)),_,_,d.sub (kp [13,12,1,3,14] O),g,a0,EX,dd,(BH _),E⟩
  refine BB O (λx y d g=>?_);exact⟨M,_,_,d.sub (kp [3] O),g,af,a1,a2,E⟩
 rintro x y ⟨ac,d5,d6,d,g,de,d7,ef,E⟩;refine AK ?_ d g;clear d g y x;rw[CA] at E;exact RT
def OP (W:St S L h){b:Value}{d:(List BT)}(k:Sl S h B4 b d){c:Value}{g:(List BT)}(l:Sl S h B4 c g){r:Bool}(E:H0 N d g=some r):
 B3 prog 279 #[b,c] S h (λv S' h'=>v= .bool r∧St S' (L) h'):=by
 refine BA 66 func279 O ntmps279 O λB=>?_;rw[H0] at E;refine AU ?_;refine BY (.inl O) W (AU ?_);refine A8 E O O O QP O (λy1 X h' o=>Hk (St.all h') (k.mono' (o.all W.1)) X) λy1 E=>AU ?_;obtain⟨b4,m,E⟩:=bd E;refine AZ 4 20 (.bool b4) ?_ ?_
 ·cases c3:(!y1)
  ·have m:=G3 c3 m;refine AU ?_;refine A8 m O O O QP O (λy5 Y h' o=>Hk (St.all h') (l.mono' (o.all W.1)) Y) λy5 m=>AU ?_;cases m;exact A0 O
  have m:=G2 c3 m;cases m;exact BG O O
 refine BJ (kp [20,0,1] O) λZ ab e9=>AH O E (λac E=>?_) (λac E=>?_)
 ·exact RT
 have ad:=k.mono' e9;refine AU ?_;refine AO (λa w=>IV B S Z (66,[]) a w [(0,b),(1,c)] (L) λ_ _=>Gb N d g=some r) ?_ ?_
 ·refine AX (λn1=>λa w=>∃(s:Int),IV B S Z (66,[]) a w [(22,vI (↑d.length:Int)),(21,b),(0,b),(1,c),(23,vI s)] (L) λ_ _=>AB s∧Ga N d g (Gb N d g) n1 s=some r) N ?_ ?_ ?_
  ·intro p q i j;exact⟨0,_,_,i.sub (kp [22,21,0,1,23] O),j,ab,(B9.refl S Z),(iq (n:=0) O),E⟩
  ·rintro p q ⟨_,_,_,_,_,_,_,_,E⟩;rw[Ga] at E;cases E
  rintro n1 p q ⟨s,a7,a8,i,j,u,D,a9,E⟩;refine AK ?_ i j;clear i j q p;rw[Ga] at E;refine AU ?_;refine AH O E (λae E=>?_) (λae E=>?_)
  ·refine AU ?_;refine AY (AU ?_);have af:=ad.mono' D;refine A6 E O O af M7.1 O λba E bb ag=>?_;obtain⟨bc,_,ah⟩:=ag.lv;refine AU ?_;refine CF Uk O u λbe bf F ai=>?_;have aj:=ah.mono ai;obtain⟨rfl,⟨ak,bg⟩⟩:=B4.ex aj;refine C7 O O O O Uq.1 O F .head O λbh x bi=>AU ?_;refine BY (.inl O) x (AU ?_);have am:=l.nw;refine B7 E O O O XU O (λan G h' o=>L7 (St.all h') (am.mono' (o.all x.1)) ak G) λan E ao=>?_;have bj:=ao;refine AU ?_;refine BJ (kp [7,6,22,21,0,1,23] O) λbk H bl=>AU ?_;refine AH O E (λap E=>?_) (λap E=>?_)
   ·exact RT
   refine AU ?_;refine BE (AU ?_);refine WF.nil (λp q i j=>?_);have I:=H.drop .head;exact⟨(BC (s+1)),_,_,i.sub (kp [22,21,0,1,23] O),j,I,EX,(BH _),E⟩
  refine BB O (λp q i j=>?_);exact⟨_,_,i.sub (kp [0,1] O),j,u,D,E⟩
 rintro p q ⟨A,C,i,j,J,bm,E⟩;refine AK ?_ i j;clear i j q p;rw[Gb] at E;have aq:=l.nw;refine AU ?_;refine AO (λa w=>IV B A C (66,[]) a w [] (L) λ_ _=>H4 N=some r) ?_ ?_
 ·refine AX (λn3=>λa w=>∃(t:Int),IV B A C (66,[]) a w [(40,vI (↑g.length:Int)),(39,c),(0,b),(41,vI t)] (L) λ_ _=>AB t∧GZ N d g (H4 N) n3 t=some r) N ?_ ?_ ?_
  ·intro p q i j;exact⟨0,_,_,i.sub (kp [40,39,0,41] O),j,J,(B9.refl A C),(iq (n:=0) O),E⟩
  ·rintro p q ⟨_,_,_,_,_,_,_,_,E⟩;rw[GZ] at E;cases E
  rintro n3 p q ⟨t,bn,bo,i,j,y,K,bp,E⟩;refine AK ?_ i j;clear i j q p;rw[GZ] at E;refine AU ?_;refine AH O E (λar E=>?_) (λar E=>?_)
  ·refine AU ?_;refine AY (AU ?_);have au:=aq.mono' K;refine A6 E O O au M7.1 O λbq E br av=>?_;obtain⟨bs,_,aw⟩:=av.lv;refine AU ?_;refine CF Uk O y λbt bu M ax=>?_;have ay:=aw.mono ax;obtain⟨rfl,⟨az,bv⟩⟩:=B4.ex ay;refine C7 O O O O Uq.1 O M .head O λbw z bx=>AU ?_;refine BY (.inl O) z (AU ?_);have a0:=k.nw;refine B7 E O O O XU O (λa1 Q h' o=>L7 (St.all h') (a0.mono' (o.all z.1)) az Q) λa1 E a2=>?_;have bz:=a2;refine AU ?_;refine BJ (kp [12,11,10,40,39,0,41] O) λb0 U b1=>AU ?_;refine AH O E (λa3 E=>?_) (λa3 E=>?_)
   ·exact RT
   refine AU ?_;refine BE (AU ?_);refine WF.nil (λp q i j=>?_);have V:=U.drop .head;exact⟨(BC (t+1)),_,_,i.sub (kp [40,39,0,41] O),j,V,EX,(BH _),E⟩
  refine BB O (λp q i j=>?_);exact⟨_,_,i.sub Nx,j,y,K,E⟩
 rintro p q ⟨b2,a5,i,j,a4,a6,E⟩;refine AK ?_ i j;clear i j q p;rw[H4] at E;exact RT
def Oh (hs:St S L h){I:Value}{D:BO}(W:Rd S h B0 I D){r:Bool}(E:Fh N D=some r):
 B3 prog 236 #[I] S h (λv S' h'=>v= .bool r∧St S' (L) h'):=by
 refine BA 152 func236 O ntmps236 O λB=>?_;rw[Fh] at E;refine AU ?_;refine By O W CE O hs λq1 S2 h3 C e5 G=>AU ?_;refine AY (AU ?_);refine AH O E (λc7 E=>?_) (λc7 E=>?_)
 ·refine AU ?_;refine BY (.inl O) C ?_;have c8:=G.fl K7;obtain⟨eu,_,c9⟩:=c8.ll;refine AU ?_;refine A8 E O O O QP O (λa5 a6 h' o=>Hk (St.all h') (c9.mono' (o.all C.1)) a6) λa5 E=>AU ?_;obtain⟨a7,q,E⟩:=bd E;refine AZ 5 15 (.bool a7) ?_ ?_
  ·cases a8:a5
   ·have q:=G3 a8 q;cases q;exact BG O O
   have q:=G2 a8 q;have da:=G.fl K8;have db:=da.fl Qb;obtain⟨ev,_,dc⟩:=db.ll;refine AU ?_;refine A8 q O O O QP O (λdd a9 h' o=>Hk (St.all h') (dc.mono' (o.all C.1)) a9) λdd q=>AU ?_;cases q;exact A0 O
  refine AU ?_;obtain⟨ba,s,E⟩:=bd E;refine AZ 5 21 (.bool ba) ?_ ?_
  ·cases bb:a7
   ·have s:=G3 bb s;cases s;exact BG O O
   have s:=G2 bb s;have de:=G.fl K8;have df:=de.fl Qc;obtain⟨ew,_,dg⟩:=df.ll;refine AU ?_;refine A8 s O O O QP O (λdh bc h' o=>Hk (St.all h') (dg.mono' (o.all C.1)) bc) λdh s=>AU ?_;cases s;exact A0 O
  refine AU ?_;obtain⟨be,t,E⟩:=bd E;refine AZ 7 29 (.bool be) ?_ ?_
  ·cases bf:ba
   ·have t:=G3 bf t;cases t;exact BG O O
   have t:=G2 bf t;have di:=G.fl K8;have dj:=di.fl Qb;obtain⟨ex,_,dk⟩:=dj.ll;have dl:=G.fl K7;obtain⟨ey,_,dm⟩:=dl.ll;refine AU ?_;refine A8 t O O O eX O (λdn bg h' o=>OP (St.all h') (dk.mono' (o.all C.1)) (dm.mono' (o.all C.1)) bg) λdn t=>AU ?_;cases t;exact A0 O
  refine AU ?_;obtain⟨bh,u,E⟩:=bd E;refine AZ 7 37 (.bool bh) ?_ ?_
  ·cases bi:be
   ·have u:=G3 bi u;cases u;exact BG O O
   have u:=G2 bi u;have dp:=G.fl K7;obtain⟨ez,_,dq⟩:=dp.ll;have dr:=G.fl K8;have ds:=dr.fl Qc;obtain⟨e0,_,dt⟩:=ds.ll;refine AU ?_;refine A8 u O O O eX O (λdu bj h' o=>OP (St.all h') (dq.mono' (o.all C.1)) (dt.mono' (o.all C.1)) bj) λdu u=>AU ?_;cases u;exact A0 O
  refine AU ?_;obtain⟨bk,x,E⟩:=bd E;refine AZ 4 42 (.bool bk) ?_ ?_
  ·cases bl:bh
   ·have x:=G3 bl x;cases x;exact BG O O
   have x:=G2 bl x;have dv:=G.fl Fp;have dw:=dv.i;refine AU ?_;refine A8 x O O O HH O (λdx bm h' o=>CB (St.all h') dw (iq (n:=0) O) (iq (n:=64) O) bm) λdx x=>AU ?_;cases x;exact A0 O
  refine AU ?_;obtain⟨bn,y,E⟩:=bd E;refine AZ 6 49 (.bool bn) ?_ ?_
  ·cases bo:bk
   ·have y:=G3 bo y;cases y;exact BG O O
   have y:=G2 bo y;have dy:=G.fl KO;have dz:=dy.i;have d0:=G.fl Fp;have d1:=d0.i;refine AU ?_;refine A8 y O O O HH O (λd2 bp h' o=>CB (St.all h') dz (iq (n:=0) O) d1 bp) λd2 y=>AU ?_;cases y;exact A0 O
  refine AU ?_;obtain⟨bq,z,E⟩:=bd E;refine AZ 4 54 (.bool bq) ?_ ?_
  ·cases br:bn
   ·have z:=G3 br z;cases z;exact BG O O
   have z:=G2 br z;have d3:=G.fl OJ;have d4:=d3.i;refine AU ?_;refine A8 z O O O JY O (λd5 bs h' o=>CP (St.all h') d4 bs) λd5 z=>AU ?_;cases z;exact A0 O
  refine AU ?_;obtain⟨d6,A,E⟩:=bd E;refine AZ 6 61 (.bool d6) ?_ ?_
  ·cases bt:bq
   ·have A:=G3 bt A;cases A;exact BG O O
   have A:=G2 bt A;have d7:=G.fl JQ;have d8:=d7.i;have d9:=G.fl JR;have ea:=d9.i;refine AU ?_;refine A8 A O O O XV O (λeb bu h' o=>Kf (St.all h') d8 ea bu) λeb A=>AU ?_;cases A;exact A0 O
  refine AU ?_;exact BJ (kp [2] O) λeh ec ei=>RT
 refine AU ?_;refine HI (λa w=>∃(U:Bool),IV B S2 h3 (152,[]) a w [(4,vI D.H),(1,q1),(72,.bool U)] (L) λ_ _=>Dm N D U=some r) ?_ ?_
 ·refine AH O E (λbv E=>?_) (λbv E=>?_)
  ·refine AU ?_;refine WF.nil (λaa ww hf hw=>?_);exact⟨(decide (D.H=1)),_,_,hf.sub (kp [4,1,72] O),hw,C,(B9.refl S2 h3),E⟩
  refine AU ?_;refine WF.nil (λaa ww hf hw=>?_);exact⟨(decide (D.H=5)),_,_,hf.sub (kp [4,1,72] O),hw,C,(B9.refl S2 h3),E⟩
 rintro aa ww ⟨U,ej,ek,hf,hw,F,J,E⟩;refine AK ?_ hf hw;clear hf hw ww aa;rw[Dm] at E;refine AH O E (λbw E=>?_) (λbw E=>?_)
 ·refine AU ?_;refine BY (.inl O) F ?_;have V:=G.mono J;have bx:=V.fl NS;have bz:=bx.i;refine AU ?_;refine A8 E O O O JY O (λX aq h' o=>CP (St.all h') bz aq) λX E=>AU ?_;obtain⟨Y,b,E⟩:=bd E;refine AZ 4 82 (.bool Y) ?_ ?_
  ·cases Z:X
   ·have b:=G3 Z b;cases b;exact BG O O
   have b:=G2 Z b;have b0:=V.fl BO.f_Num;have b1:=b0.i;refine AU ?_;refine A8 b O O O JY O (λb2 ar h' o=>CP (St.all h') b1 ar) λb2 b=>AU ?_;cases b;exact A0 O
  refine AU ?_;obtain⟨b3,c,E⟩:=bd E;refine AZ 4 87 (.bool b3) ?_ ?_
  ·cases ab:Y
   ·have c:=G3 ab c;cases c;exact BG O O
   have c:=G2 ab c;have b4:=V.fl BO.f_Den;have b5:=b4.i;refine AU ?_;refine A8 c O O O HH O (λb6 au h' o=>CB (St.all h') b5 (iq (n:=1) O) (iq (n:=1125899906842624) O) au) λb6 c=>AU ?_;cases c;exact A0 O
  refine AU ?_;exact BJ (kp [2] O) λel ed em=>RT
 refine AU ?_;refine AH O E (λb7 E=>?_) (λb7 E=>?_)
 ·refine AU ?_;refine BY (.inl O) F ?_;have K:=G.mono J;have b8:=K.fl BO.f_Num;have b9:=b8.i;refine AU ?_;refine A8 E O O O JY O (λac av h' o=>CP (St.all h') b9 av) λac E=>AU ?_;obtain⟨ad,d,E⟩:=bd E;refine AZ 4 97 (.bool ad) ?_ ?_
  ·cases ae:ac
   ·have d:=G3 ae d;cases d;exact BG O O
   have d:=G2 ae d;have ca:=K.fl Fp;have cb:=ca.i;refine AU ?_;refine A8 d O O O HH O (λcc aw h' o=>CB (St.all h') cb (iq (n:=1) O) (iq (n:=64) O) aw) λcc d=>AU ?_;cases d;exact A0 O
  refine AU ?_;obtain⟨cd,g,E⟩:=bd E;refine AZ 6 104 (.bool cd) ?_ ?_
  ·cases af:ad
   ·have g:=G3 af g;cases g;exact BG O O
   have g:=G2 af g;have ce:=K.fl KO;have cf:=ce.i;have cg:=K.fl Fp;have ch:=cg.i;refine AU ?_;refine A8 g O O O HH O (λci ax h' o=>CB (St.all h') cf (iq (n:=0) O) ch ax) λci g=>AU ?_;cases g;exact A0 O
  refine AU ?_;exact BJ (kp [2] O) λen ee eo=>RT
 refine AU ?_;refine AH O E (λcj E=>?_) (λcj E=>?_)
 ·refine AU ?_;refine BY (.inl O) F ?_;have M:=G.mono J;have ck:=M.fl BO.f_Num;have cl:=ck.i;refine AU ?_;refine A8 E O O O JY O (λag ay h' o=>CP (St.all h') cl ay) λag E=>AU ?_;obtain⟨ah,j,E⟩:=bd E;refine AZ 4 114 (.bool ah) ?_ ?_
  ·cases ai:ag
   ·have j:=G3 ai j;cases j;exact BG O O
   have j:=G2 ai j;have cm:=M.fl BO.f_Den;have cn:=cm.i;refine AU ?_;refine A8 j O O O HH O (λco az h' o=>CB (St.all h') cn (iq (n:=1) O) (iq (n:=1125899906842624) O) az) λco j=>AU ?_;cases j;exact A0 O
  refine AU ?_;obtain⟨aj,k,E⟩:=bd E;refine AZ 4 119 (.bool aj) ?_ ?_
  ·cases ak:ah
   ·have k:=G3 ak k;cases k;exact BG O O
   have k:=G2 ak k;have cp:=M.fl P6;have cq:=cp.i;refine AU ?_;refine A8 k O O O JY O (λcr a0 h' o=>CP (St.all h') cq a0) λcr k=>AU ?_;cases k;exact A0 O
  refine AU ?_;obtain⟨cs,l,E⟩:=bd E;refine AZ 4 124 (.bool cs) ?_ ?_
  ·cases al:aj
   ·have l:=G3 al l;cases l;exact BG O O
   have l:=G2 al l;have ct:=M.fl P7;have cu:=ct.i;refine AU ?_;refine A8 l O O O JY O (λcv a1 h' o=>CP (St.all h') cu a1) λcv l=>AU ?_;cases l;exact A0 O
  refine AU ?_;exact BJ (kp [2] O) λep ef eq=>RT
 refine AU ?_;refine BE (AU ?_);refine BY (.inl O) F ?_;have Q:=G.mono J;have cw:=Q.fl BO.f_Num;have cx:=cw.i;refine AU ?_;refine A8 E O O O JY O (λam a2 h' o=>CP (St.all h') cx a2) λam E=>AU ?_;obtain⟨an,m,E⟩:=bd E;refine AZ 4 139 (.bool an) ?_ ?_
 ·cases ao:am
  ·have m:=G3 ao m;cases m;exact BG O O
  have m:=G2 ao m;have cy:=Q.fl BO.f_Den;have cz:=cy.i;refine AU ?_;refine A8 m O O O HH O (λc0 a3 h' o=>CB (St.all h') cz (iq (n:=1) O) (iq (n:=1125899906842624) O) a3) λc0 m=>AU ?_;cases m;exact A0 O
 refine AU ?_;obtain⟨c1,p,E⟩:=bd E;refine AZ 6 146 (.bool c1) ?_ ?_
 ·cases ap:an
  ·have p:=G3 ap p;cases p;exact BG O O
  have p:=G2 ap p;have c2:=Q.fl JQ;have c3:=c2.i;have c4:=Q.fl JR;have c5:=c4.i;refine AU ?_;refine A8 p O O O XV O (λc6 a4 h' o=>Kf (St.all h') c3 c5 a4) λc6 p=>AU ?_;cases p;exact A0 O
 refine AU ?_;exact BJ (kp [2] O) λer eg es=>RT
def Od (l:St S L h){a:Value}{c:BO}(b:Rd S h B0 a c){r:Bool}(E:Fg N c=some r):
 B3 prog 237 #[a] S h (λv S' h'=>v= .bool r∧St S' (L) h'):=by
 refine BA 112 func237 O ntmps237 O λB=>?_;rw[Fg] at E;refine AU ?_;refine By O b CE O l λn S2 o m p q=>AU ?_;refine AH O E (λd E=>?_) (λd E=>?_)
 ·exact RT
 refine AU ?_;refine AH O E (λg E=>?_) (λg E=>?_)
 ·exact RT
 refine AU ?_;refine AH O E (λi E=>?_) (λi E=>?_)
 ·exact RT
 refine AU ?_;refine AH O E (λj E=>?_) (λj E=>?_)
 ·exact RT
 refine AU ?_;refine AH O E (λk E=>?_) (λk E=>?_)
 ·exact RT
 exact RT
def PM (hs:St S L h){j:Value}{k:AF}(u:Rd S h BV j k){r:Bool}(E:E6 N k=some r):
 B3 prog 178 #[j] S h (λv S' h'=>v= .bool r∧St S' (L) h'):=by
 refine BA 51 func178 O ntmps178 O λB=>?_;rw[E6] at E;refine AU ?_;refine By O u CE O hs λq1 S2 h3 ai e5 k6=>?_;have k8:=k6.fl Gv;obtain⟨v9,_,aj⟩:=k8.ll;refine AU ?_;refine AO (λa w=>IV B S2 h3 (51,[]) a w [] (L) λ_ _=>DT N=some r) ?_ ?_
 ·refine AX (λn1=>λa w=>∃(m:Int),IV B S2 h3 (51,[]) a w [(7,vI (↑k.G.length:Int)),(6,v9),(1,q1),(8,vI m)] (L) λ_ _=>AB m∧Cm N k (DT N) n1 m=some r) N ?_ ?_ ?_
  ·intro y z p q;exact⟨0,_,_,p.sub (kp [7,6,1,8] O),q,ai,(B9.refl S2 h3),(iq (n:=0) O),E⟩
  ·rintro y z ⟨_,_,_,_,_,_,_,_,E⟩;rw[Cm] at E;cases E
  rintro n1 y z ⟨m,ba,bb,p,q,x,D,bc,E⟩;refine AK ?_ p q;clear p q z y;rw[Cm] at E;refine AU ?_;refine AH O E (λak E=>?_) (λak E=>?_)
  ·refine AU ?_;refine AY (AU ?_);have am:=aj.mono' D;refine A6 E O O am Ox.1 O λbe E bf an=>?_;obtain⟨bg,_,ao⟩:=an.lv;refine AU ?_;refine CF Ok O x λbh bi F ap=>?_;have A:=ao.mono ap;obtain⟨bj,bk,bl,rfl,bm,aq,H,ar,bn,bo,bp,bq,br,bs,bt,bu,bv,bw,bx,bz,b0,au⟩:=B0.ex A;refine DL O O O ON Ou.1 O F .head O λb1 l I=>AU ?_;refine BY (.inl O) l (AU ?_);refine A8 E O O O HH O (λJ K h' o=>CB (St.all h') aq (iq (n:=0) O) (iq (n:=5) O) K) λJ E=>AU ?_;obtain⟨M,b,E⟩:=bd E;refine AZ 8 24 (.bool M) ?_ ?_
   ·cases Q:(!J)
    ·have b:=G3 Q b;have av:=k6.nw;have aw:=av.fl B5;obtain⟨b2,_,ax⟩:=aw.ll;have ay:=ax.le;refine AU ?_;refine A8 b O O O QO O (λaz U h' o=>Hl (St.all h') H (KZ ay) U) λaz b=>AU ?_;cases b;exact A0 O
    have b:=G2 Q b;cases b;exact BG O O
   refine AU ?_;obtain⟨V,c,E⟩:=bd E;refine AZ 8 33 (.bool V) ?_ ?_
   ·cases W:M
    ·have c:=G3 W c;have a0:=k6.nw;obtain⟨b3,_,a1⟩:=a0.lv;refine AU ?_;refine A8 c O O O fG O (λa2 X h' o=>Nl (St.all h') (a1.mono (o.all l.1)) H ar X) λa2 c=>AU ?_;cases c;exact A0 O
    have c:=G2 W c;cases c;exact BG O O
   refine AU ?_;obtain⟨Y,d,E⟩:=bd E;refine AZ 5 39 (.bool Y) ?_ ?_
   ·cases Z:V
    ·have d:=G3 Z d;refine AU ?_;refine A8 d O O O HH O (λa3 ab h' o=>CB (St.all h') au (iq (n:=0) O) (iq (n:=240) O) ab) λa3 d=>AU ?_;cases d;exact A0 O
    have d:=G2 Z d;cases d;exact BG O O
   refine AU ?_;obtain⟨ac,g,E⟩:=bd E;refine AZ 4 44 (.bool ac) ?_ ?_
   ·cases ad:Y
    ·have g:=G3 ad g;refine AU ?_;have s:=A.mono I;obtain⟨b4,ae,g⟩:=bd g;refine Jt O O O rN O (λh' o=>Oh (St.all h') (s.mono (o.all l.1)) ae) (AU ?_);cases g;exact A0 O
    have g:=G2 ad g;cases g;exact BG O O
   refine AU ?_;obtain⟨a4,i,E⟩:=bd E;refine AZ 4 49 (.bool a4) ?_ ?_
   ·cases af:ac
    ·have i:=G3 af i;refine AU ?_;have t:=A.mono I;obtain⟨b5,ag,i⟩:=bd i;refine Jt O O O rM O (λh' o=>Od (St.all h') (t.mono (o.all l.1)) ag) (AU ?_);cases i;exact A0 O
    have i:=G2 af i;cases i;exact BG O O
   refine BJ (kp [49,7,6,1,8] O) λb6 ah b7=>AH O E (λa5 E=>?_) (λa5 E=>?_)
   ·exact RT
   refine AU ?_;refine BE (AU ?_);refine WF.nil (λy z p q=>?_);have C:=ah.drop .head;exact⟨(BC (m+1)),_,_,p.sub (kp [7,6,1,8] O),q,C,EX,(BH _),E⟩
  refine BB O (λy z p q=>?_);exact⟨_,_,p.sub Nx,q,x,D,E⟩
 rintro y z ⟨a7,a8,p,q,a6,a9,E⟩;refine AK ?_ p q;clear p q z y;rw[DT] at E;exact RT
def PN (l:St S L h){c:Value}{i:AF}(d:Rd S h BV c i){a:Int}(g:AB a){b:Int}(j:AB b){r:Bool}(E:J3 N i a b=some r):
 B3 prog 238 #[c,vI a,vI b] S h (λv S' h'=>v= .bool r∧St S' (L) h'):=by
 refine BA 27 func238 O ntmps238 O λB=>?_;rw[J3] at E;refine AU ?_;refine By O d CE O l λw S2 x m y n=>AU ?_;refine AH O E (λo E=>?_) (λo E=>?_)
 ·exact RT
 have p:=n.fl B5;obtain⟨q,_,k⟩:=p.ll;refine AU ?_;exact A6 E O O k Md.1 O λs E t u=>RT
def N9 (hs:St S L h){m:Value}{d:AF}(u:Rd S h BV m d){r:Bool}(E:HY N d=some r):
 B3 prog 179 #[m] S h (λv S' h'=>v= .bool r∧St S' (L) h'):=by
 refine BA 60 func179 O ntmps179 O λB=>?_;rw[HY] at E;refine AU ?_;refine By O u CE O hs λq1 S2 h3 aq e5 k6=>?_;have k8:=k6.fl B5;obtain⟨v9,_,ar⟩:=k8.ll;refine AU ?_;refine AO (λa w=>IV B S2 h3 (60,[]) a w [(1,q1)] (L) λ_ _=>DW N d=some r) ?_ ?_
 ·refine AX (λn1=>λa w=>∃(p:Int),IV B S2 h3 (60,[]) a w [(10,vI (↑d.A.length:Int)),(9,v9),(1,q1),(11,vI p)] (L) λ_ _=>AB p∧DV N d (DW N d) n1 p=some r) N ?_ ?_ ?_
  ·intro k l g j;exact⟨0,_,_,g.sub (kp [10,9,1,11] O),j,aq,(B9.refl S2 h3),(iq (n:=0) O),E⟩
  ·rintro k l ⟨_,_,_,_,_,_,_,_,E⟩;rw[DV] at E;cases E
  rintro n1 k l ⟨p,ch,ci,g,j,x,U,cj,E⟩;refine AK ?_ g j;clear g j l k;rw[DV] at E;refine AU ?_;refine AH O E (λau E=>?_) (λau E=>?_)
  ·refine AU ?_;refine AY (AU ?_);have av:=ar.mono' U;refine A6 E O O av Md.1 O λck E cl aw=>?_;obtain⟨cm,_,ax⟩:=aw.lv;refine AU ?_;refine CF NI O x λcn co V ay=>?_;have az:=ax.mono ay;obtain⟨cp,cq,cr,rfl,cs,ct,a0,cu,cv,cw,cx,cy,a1,cz,c0,c1⟩:=CC.ex az;refine DL O O O ON NJ.1 O V .head O λc2 y c3=>AU ?_;refine BY (.inl O) y ?_;have a2:=k6.nw;obtain⟨c4,_,a3⟩:=a2.lv;refine AU ?_;refine A8 E O O O fF O (λa4 W h' o=>PN (St.all h') (a3.mono (o.all y.1)) a0 a1 W) λa4 E=>AU ?_;refine BJ (kp [21,10,9,1,11] O) λc5 X c6=>AH O E (λa5 E=>?_) (λa5 E=>?_)
   ·exact RT
   refine AU ?_;refine BE (AU ?_);refine WF.nil (λk l g j=>?_);have Y:=X.drop .head;exact⟨(BC (p+1)),_,_,g.sub (kp [10,9,1,11] O),j,Y,EX,(BH _),E⟩
  refine BB O (λk l g j=>?_);exact⟨_,_,g.sub (kp [1] O),j,x,U,E⟩
 rintro k l ⟨I,J,g,j,Z,a6,E⟩;refine AK ?_ g j;clear g j l k;rw[DW] at E;have ab:=k6.mono a6;have a7:=ab.fl Gv;obtain⟨a8,_,a9⟩:=a7.ll;refine AU ?_;refine AO (λa w=>IV B I J (60,[]) a w [] (L) λ_ _=>Ep N=some r) ?_ ?_
 ·refine AX (λn3=>λa w=>∃(q:Int),IV B I J (60,[]) a w [(25,vI (↑d.G.length:Int)),(24,a8),(1,q1),(26,vI q)] (L) λ_ _=>AB q∧DU N d (Ep N) n3 q=some r) N ?_ ?_ ?_
  ·intro k l g j;exact⟨0,_,_,g.sub (kp [25,24,1,26] O),j,Z,(B9.refl I J),(iq (n:=0) O),E⟩
  ·rintro k l ⟨_,_,_,_,_,_,_,_,E⟩;rw[DU] at E;cases E
  rintro n3 k l ⟨q,c7,c8,g,j,z,ac,c9,E⟩;refine AK ?_ g j;clear g j l k;rw[DU] at E;refine AU ?_;refine AH O E (λba E=>?_) (λba E=>?_)
  ·refine AU ?_;refine AY (AU ?_);have bb:=a9.mono' ac;refine A6 E O O bb Ox.1 O λbc E da be=>?_;obtain⟨db,_,bf⟩:=be.lv;refine AU ?_;refine CF Ok O z λdc dd ad bg=>?_;have bh:=bf.mono bg;obtain⟨bk,bl,bm,rfl,de,df,dg,bi,bn,bo,bp,bq,br,bs,bt,bu,bv,bw,bx,bz,b0,b1⟩:=B0.ex bh;refine DL O O O ON Ou.1 O ad .head O λb2 s b3=>?_;have t:=ab.nw;have ae:=t.fl B5;obtain⟨b4,_,af⟩:=ae.ll;refine AU ?_;refine A6 E O O af Md.1 O λb5 E b6 ag=>?_;have ah:=ag.fl OT;have ai:=ah.i;refine AU ?_;refine BY (.inl O) s ?_;obtain⟨b7,_,aj⟩:=t.lv;refine AU ?_;refine A8 E O O O fF O (λC K h' o=>PN (St.all h') (aj.mono (o.all s.1)) ai bi K) λC E=>AU ?_;obtain⟨ak,b,E⟩:=bd E;refine AZ 15 58 (.bool ak) ?_ ?_
   ·cases D:(!C)
    ·have b:=G3 D b;refine AU ?_;obtain⟨am,c,b⟩:=bd b;refine AZ 10 57 (.bool am) ?_ ?_
     ·cases F:(decide (bc.H=4))
      ·have c:=G3 F c;cases c;exact BG O O
      have c:=G2 F c;have an:=t.fl B5;obtain⟨b8,_,ao⟩:=an.ll;refine AU ?_;refine A6 c O O ao Md.1 O λb9 c ca cb=>AU ?_;cases c;exact A0 O
     refine AU ?_;cases b;exact A0 O
    have b:=G2 D b;cases b;exact BG O O
   refine BJ (kp [58,25,24,1,26] O) λcc M cd=>AH O E (λap E=>?_) (λap E=>?_)
   ·exact RT
   refine AU ?_;refine BE (AU ?_);refine WF.nil (λk l g j=>?_);have Q:=M.drop .head;exact⟨(BC (q+1)),_,_,g.sub (kp [25,24,1,26] O),j,Q,EX,(BH _),E⟩
  refine BB O (λk l g j=>?_);exact⟨_,_,g.sub Nx,j,z,ac,E⟩
 rintro k l ⟨ce,cf,g,j,bj,cg,E⟩;refine AK ?_ g j;clear g j l k;rw[Ep] at E;exact RT
def IX (F:St S L h){b:Int}(k:AB b){c:Int}(l:AB c){r:Int}(E:Fy N b c=some r):
 B3 prog 239 #[vI b,vI c] S h (λv S' h'=>v=vI r∧AB r∧St S' (L) h'):=by
 refine BA 34 func239 O ntmps239 O λB=>?_;rw[Fy] at E;refine AU ?_;refine AH O E (λG E=>?_) (λG E=>?_)
 ·exact RT
 refine AU ?_;refine AH O E (λH E=>?_) (λH E=>?_)
 ·exact RT
 refine AU ?_;refine BY (.inl O) F (AU ?_);refine D9 O MJ Ip O ?_;obtain⟨s,t,E⟩:=bd E;refine If (v:= .tuple #[.int .u64 s.1,.int .u64 s.2]) (Ψ:=IntKind.has .u64 s.1∧IntKind.has .u64 s.2) O O O fC O (λh' o=>(MD (St.all h') (Cw _ _) (show IntKind.has .u64 1099511627776 by first|assumption|exact⟨by decide,by decide⟩) t).mono λ_ _ _ _ p=>⟨p.1,⟨p.2.1,p.2.2.1⟩⟩) λI=>?_;obtain⟨J,K⟩:=I;refine AU ?_;refine BJ (kp [6,5,1] O) λY u Z=>AU ?_;refine BY (.inl O) u (AU ?_);refine D9 O MJ Ip O ?_;obtain⟨d,q,E⟩:=bd E;refine If (v:= .tuple #[.int .u64 d.1,.int .u64 d.2]) (Ψ:=IntKind.has .u64 d.1∧IntKind.has .u64 d.2) O O O fA O (λh' o=>(ME (St.all h') J K (Cw _ _) q).mono λ_ _ _ _ p=>⟨p.1,⟨p.2.1,p.2.2.1⟩⟩) λx=>?_;obtain⟨y,M⟩:=x;refine AU ?_;refine BJ (kp [8,7] O) λj i Q=>AU ?_;refine HI (λa w=>∃(g:Int),IV B S j (34,[]) a w [(7,.int .u64 g)] (L) λ_ _=>IntKind.has .u64 g∧J2 N g=some r) ?_ ?_
 ·refine AH O E (λz E=>?_) (λz E=>?_)
  ·refine AU ?_;refine WF.nil (λA C m n=>?_);exact⟨(IntKind.wrap .u64 (d.1+1)),_,_,m.sub (kp [7] O),n,i,(B9.refl S j),(Cw _ _),E⟩
  refine AU ?_;refine WF.nil (λA C m n=>?_);exact⟨d.1,_,_,m.sub (kp [7] O),n,i,(B9.refl S j),y,E⟩
 rintro A C ⟨g,U,V,m,n,D,W,X,E⟩;refine AK ?_ m n;clear m n C A;rw[J2] at E;refine AU ?_;exact D9 O Ip MJ O (RT)
def QT (hs:St S L h){c:Value}{b:(List (List BT))}(i:Sl S h (A4.sl B4) c b){r:Int}(E:I4 N b=some r):
 B3 prog 240 #[c] S h (λv S' h'=>v=vI r∧AB r∧St S' (L) h'):=by
 refine BA 48 func240 O ntmps240 O λB=>?_;rw[I4] at E;refine AU ?_;refine AO (λa w=>∃(J:Int),IV B S h (48,[]) a w [(3,vI J)] (L) λ_ _=>AB J∧D7 N J=some r) ?_ ?_
 ·refine AX (λK=>λa w=>∃(A:Int) (j:Int),IV B S h (48,[]) a w [(8,vI (↑b.length:Int)),(7,c),(3,vI A),(9,vI j)] (L) λ_ _=>AB A∧AB j∧C8 N b (D7 N) K A j=some r) N ?_ ?_ ?_
  ·intro k l d g;exact⟨0,0,_,_,d.sub (kp [8,7,3,9] O),g,hs,(B9.refl S h),(iq (n:=0) O),(iq (n:=0) O),E⟩
  ·rintro k l ⟨_,_,_,_,_,_,_,_,_,_,E⟩;rw[C8] at E;cases E
  rintro K k l ⟨A,j,y,z,d,g,u,C,r9,ah,E⟩;refine AK ?_ d g;clear d g l k;rw[C8] at E;refine AU ?_;refine AH O E (λM E=>?_) (λM E=>?_)
  ·refine AU ?_;refine AO (λa w=>∃(q:Int),IV B y z (48,[]) a w [(8,vI (↑b.length:Int)),(7,c),(9,vI j),(3,vI q)] (L) λ_ _=>AB q∧Ff N j (C8 N b (D7 N) K) q=some r) ?_ ?_
   ·refine AU ?_;have Q:=i.mono' C;refine A6 E O O Q pA.1 O λU E ai V=>?_;obtain⟨W,_,s⟩:=V.ll;refine AU ?_;refine AY (AX (λn3=>λa w=>∃(m:Int) (t:Int),IV B y z (48,[]) a w [(5,W),(8,vI (↑b.length:Int)),(7,c),(9,vI j),(3,vI m),(6,vI t)] (L) λ_ _=>AB m∧AB t∧Ee N U (Ff N j (C8 N b (D7 N) K)) n3 m t=some r) N ?_ ?_ ?_)
    ·intro k l d g;exact⟨A,1,_,_,d.sub (kp [5,8,7,9,3,6] O),g,u,(B9.refl y z),r9,(iq (n:=1) O),E⟩
    ·rintro k l ⟨_,_,_,_,_,_,_,_,_,_,E⟩;rw[Ee] at E;cases E
    rintro n3 k l ⟨m,t,aj,ak,d,g,x,p,D,al,E⟩;refine AK ?_ d g;clear d g l k;rw[Ee] at E;have am:=s.mono' p;refine AU ?_;refine AH O E (λX E=>?_) (λX E=>?_)
    ·refine AU ?_;refine AY (BY (.inr ⟨mo,by kernel_rfl⟩) x (AU ?_));have Y:=s.mono' p;refine A6 E O O Y M7.1 O λan E ao ap=>AU ?_;have Z:=s.mono' p;refine A6 E O O Z M7.1 O λaq E ar au=>AU ?_;have ab:=s.mono' p;refine A6 E O O ab M7.1 O λav E aw ax=>AU ?_;have ac:=s.mono' p;refine A6 E O O ac M7.1 O λay E az a0=>AU ?_;refine B7 E O O O Re O (λF G h' o=>IX (St.all h') (BH _) (BH _) G) λF E ad=>?_;have ae:=ad;refine Td O O O (AU ?_);refine BJ (kp [3,5,8,7,9,6] O) λa1 H a2=>BE (AU ?_);refine WF.nil (λk l d g=>?_);exact⟨(max m F),(BC (t+1)),_,_,d.sub (kp [5,8,7,9,3,6] O),g,H,EX,(Rc D ae),(BH _),E⟩
    refine KN O (WF.nil (λk l d g=>?_));exact⟨m,_,_,d.sub (kp [8,7,9,3] O),g,x,p,D,E⟩
   rintro k l ⟨q,a3,a4,d,g,I,a5,af,E⟩;refine AK ?_ d g;clear d g l k;rw[Ff] at E;refine AU ?_;refine WF.nil (λk l d g=>?_);exact⟨q,(BC (j+1)),_,_,d.sub (kp [8,7,3,9] O),g,I,EX,af,(BH _),E⟩
  refine BB O (λk l d g=>?_);exact⟨A,_,_,d.sub (kp [3] O),g,u,C,r9,E⟩
 rintro k l ⟨J,a6,a7,d,g,ag,a8,r3,E⟩;refine AK ?_ d g;clear d g l k;rw[D7] at E;exact RT
def Oe (hs:St S L h){ai:Value}{k:AF}(a3:Rd S h BV ai k){r:Bool}(E:Hp N k=some r):
 B3 prog 180 #[ai] S h (λv S' h'=>v= .bool r∧St S' (L) h'):=by
 refine BA 128 func180 O ntmps180 O λB=>?_;rw[Hp] at E;refine AU ?_;refine By O a3 CE O hs λq1 S2 h3 fp e5 k6=>AU ?_;obtain⟨dk,E⟩:=LQ E;refine J9 (r:=AC) (zx:=0) HZ O ⟨O,by unfold AB;omega⟩ O O dk O O fp λq bo dl fq=>?_;have dm:=k6.mono fq;have fr:=dm.fl B5;obtain⟨fs,_,ft⟩:=fr.ll;refine AU ?_;refine AO (λa w=>∃(a4:List Int),IV B S2 bo (128,[]) a w [(3,q),(1,q1)] (OS AC 3 q a4::L) λ_ _=>Dj N k a4=some r) ?_ ?_
 ·refine AX (λn1=>λa w=>∃(ah:Int) (an:List Int),IV B S2 bo (128,[]) a w [(16,vI (↑k.A.length:Int)),(15,fs),(3,q),(1,q1),(17,vI ah)] (OS AC 3 q an::L) λ_ _=>AB ah∧Dh N k (Dj N k) n1 ah an=some r) N ?_ ?_ ?_
  ·intro t u d g;exact⟨0,(List.replicate ((↑k.A.length:Int):Int).toNat (0:Int)),_,_,d.sub (kp [16,15,3,1,17] O),g,dl,(B9.refl S2 bo),(iq (n:=0) O),E⟩
  ·rintro t u ⟨_,_,_,_,_,_,_,_,_,E⟩;rw[Dh] at E;cases E
  rintro n1 t u ⟨ah,an,jq,jr,d,g,a8,dn,js,E⟩;refine AK ?_ d g;clear d g u t;rw[Dh] at E;refine AU ?_;refine AH O E (λfu E=>?_) (λfu E=>?_)
  ·refine AU ?_;refine AY (AU ?_);have fv:=ft.mono' dn;refine A6 E O O fv Md.1 O λjt E ju fw=>?_;obtain⟨jv,_,fx⟩:=fw.lv;refine AU ?_;refine CF NI O a8 λjw jx dp fy=>AU ?_;have f0:=fx.mono fy;obtain⟨jy,jz,j0,rfl,j1,j2,j3,j4,j5,j6,f1,f2,j7,j8,j9,ka⟩:=CC.ex f0;refine DL O O O ON NJ.1 O dp .head O λkb dq kc=>AU ?_;refine Bv (AU ?_);refine CQ E O O O Re O dq (λbp dr=>IX (St.all _) f1 f2 dr) λbp E kd ke kf a9 kg kh p=>?_;obtain⟨rfl,f3,ge⟩:=p;refine AU ?_;obtain⟨ki,ds,E⟩:=bd E;refine BS a9 (mt mh) O O Ct.1 ds O λkj dt=>AU ?_;obtain⟨f4,du,E⟩:=bd E;refine E9 (r:=AC) (l:=an) (i:=ah) (x:=f4) O O (⟨_,O,O,f3⟩:Rd _ _ AC _ bp) dt du NT.id HA.1 (λ_=>rfl) a9 (.tail .head) λkk dv kl=>AU ?_;refine BE (AU ?_);refine WF.nil (λt u d g=>?_);have dw:=dv.sel [1] 1 O;exact⟨(BC (ah+1)),(upd an ah bp),_,_,d.sub (kp [16,15,3,1,17] O),g,dw,EX,(BH _),E⟩
  refine BB O (λt u d g=>?_);exact⟨an,_,_,d.sub (kp [3,1] O),g,a8,dn,E⟩
 rintro t u ⟨a4,bq,br,d,g,dx,f5,E⟩;refine AK ?_ d g;clear d g u t;rw[Dj] at E;have f6:=dm.mono f5;have f7:=f6.fl Gv;obtain⟨ap,_,f8⟩:=f7.ll;refine AU ?_;refine AO (λa w=>∃(ao:List Int),IV B bq br (128,[]) a w [(3,q)] (OS AC 3 q ao::L) λ_ _=>Cq N ao=some r) ?_ ?_
 ·refine AX (λn3=>λa w=>∃(V:Int) (y:List Int),IV B bq br (128,[]) a w [(33,vI (↑k.G.length:Int)),(32,ap),(3,q),(34,vI V)] (OS AC 3 q y::L) λ_ _=>AB V∧BU N k (Cq N) n3 V y=some r) N ?_ ?_ ?_
  ·intro t u d g;exact⟨0,a4,_,_,d.sub (kp [33,32,3,34] O),g,dx,(B9.refl bq br),(iq (n:=0) O),E⟩
  ·rintro t u ⟨_,_,_,_,_,_,_,_,_,E⟩;rw[BU] at E;cases E
  rintro n3 t u ⟨V,y,D,dy,d,g,aq,ba,km,E⟩;refine AK ?_ d g;clear d g u t;rw[BU] at E;refine AU ?_;refine AH O E (λdz E=>?_) (λdz E=>?_)
  ·refine AU ?_;refine AO (λa w=>∃(aj:List Int),IV B D dy (128,[]) a w [(33,vI (↑k.G.length:Int)),(32,ap),(3,q),(34,vI V)] (OS AC 3 q aj::L) λ_ _=>Cc N V (BU N k (Cq N) n3) aj=some r) ?_ ?_
   ·refine AU ?_;have d0:=f8.mono' ba;refine A6 E O O d0 Ox.1 O λc E gf d1=>?_;obtain⟨gg,_,d2⟩:=d1.lv;refine AU ?_;refine CF Ok O aq λz gh bs d3=>?_;have d4:=d2.mono d3;obtain⟨bb,bc,be,rfl,gi,gj,gl,gm,d5,d6,d7,gn,gp,gq,gr,bf,bg,gs,gt,bh,bi,gu⟩:=B0.ex d4;refine DL O O O ON Ou.1 O bs .head O λF j gv=>AU ?_;refine AY (AU ?_);refine AH O E (λd8 E=>?_) (λd8 E=>?_)
    ·refine AU ?_;obtain⟨gw,bt,E⟩:=bd E;obtain⟨M,bu,E⟩:=bd E;obtain⟨Q,bv,E⟩:=bd E;obtain⟨gx,bw,E⟩:=bd E;refine Ms (m:=[(7,vP z 0),(33,vI (↑k.G.length:Int)),(32,ap),(3,q),(34,vI V)]) 17 (λi v hh=>match i with|0=>v=q|1=>v=vP z 2|2=>v=vI c.I∧AB c.I|3=>EP q (c.I.toNat*(AC).sz+0) v|4=>v=vI M∧AB M|5=>v=vP z 4|6=>Sl D hh B4 v c.Av|7=>v=vP z 5|8=>v=vP z 5|9=>Sl D hh B4 v c.Ah.Ay|10=>v=vP z 5|11=>v=vP z 6|12=>Sl D hh B4 v c.Ah.Az|13=>Sl (SN D F hh) hh (A4.sl B4) v ([c.Av,c.Ah.Ay,c.Ah.Az]:List (List BT))∧∃ad,v= .slice (some ad) 3 3|14=>v=vI Q∧AB Q|15=>v=vI (BC (M+Q))∧AB (BC (M+Q))|16=>EP q (c.I.toNat*(AC).sz+0) v|_=>False) [[],[],[(1,43)],[(0,42),(2,44)],[(3,45)],[],[(5,47)],[],[(7,49)],[(8,50)],[],[(10,52)],[(11,53)],[(6,48),(9,51),(12,54)],[(13,55)],[(4,46),(14,56)],[(0,42),(2,44)]] [(15,57),(16,58)] mo (by kernel_rfl) [7,33,32,3,34] O (by kernel_rfl) (by kernel_rfl) (by kernel_rfl) (kp [7,33,32,3,34] O) MO ?_ ?_
     ·refine AQ.cons O D8 (AQ.cons O D8 (AQ.cons O D8 (AQ.cons O ?_ ?_)))
      ·intro mq hh o;intro gy d9 gz eb;have K:=o.st j;cases d9;obtain⟨rfl,g0⟩:=eb;refine AU ?_;refine BS K (mt mh) O O Ct.1 bt O λg1 bx=>AU ?_;exact A5 bx
      refine AQ.cons O ?_ ?_
      ·intro mq hh o;intro g2 ec;have K:=o.st j;refine AU ?_;have ed:=K.epAt (mt mh) bu F9.id ec;refine Gf LD (λ_ x=>x) O ed HA.1 O λee=>AU ?_;exact A5 ⟨O,ee⟩
      refine AQ.cons O D8 (AQ.cons O ?_ ?_)
      ·intro mq hh o;intro g3 ef;have K:=o.st j;cases ef;refine AU ?_;have eg:=d5.nw;exact A5 eg
      refine AQ.cons O D8 (AQ.cons O D8 (AQ.cons O ?_ ?_))
      ·intro mq hh o;intro g4 eh;have K:=o.st j;cases eh;refine AU ?_;have ei:=d6.nw;exact A5 ei
      refine AQ.cons O D8 (AQ.cons O D8 (AQ.cons O ?_ ?_))
      ·intro mq hh o;intro g5 ej;have K:=o.st j;cases ej;refine AU ?_;have ek:=d7.nw;exact A5 ek
      refine AQ.cons O ?_ ?_
      ·intro mq hh o;intro el X em Z en ab;have K:=SN.st j o;have X:=Sl.sn F X;have X:Sl _ _ B4 el c.Av:=X;have Z:=Sl.sn F Z;have Z:Sl _ _ B4 em c.Ah.Ay:=Z;have ab:=Sl.sn F ab;have ab:Sl _ _ B4 en c.Ah.Az:=ab;have f9:=K.fz;obtain⟨bz,a5,rfl,g6⟩:=(X).len;obtain⟨b0,a6,rfl,g7⟩:=(Z).len;obtain⟨b1,a7,rfl,g8⟩:=(ab).len;refine Dn (cs:=[(.slice bz c.Av.length a5),(.slice b0 c.Ah.Ay.length a6),(.slice b1 c.Ah.Az.length a7)]) qO O O O O O O O f9 λg9 ha b2 ar=>?_;have eo:=ab.mono' ar;have ep:=Z.mono' ar;have eq:=X.mono' ar;have b3:=b2.bxos (r:=(A4.sl B4)) (l:=([c.Av,c.Ah.Ay,c.Ah.Az]:List (List BT))) .head ⟨_,_,O,⟨_,O,eq⟩,⟨_,_,O,⟨_,O,ep⟩,⟨_,_,O,⟨_,O,eo⟩,O⟩⟩⟩ (by simp [maxLen]);obtain⟨hc,b4,hd,er⟩:=b3.pubs .head;have au:=Fz.done o EX b4;exact A9 au.1 ⟨Sl.mono' er au.2,_,O⟩
      refine AQ.cons O ?_ ?_
      ·intro mq hh o;intro he av;have K:=SN.st j o;obtain⟨av,ga,rfl⟩:=av;refine FA O O O rL O K (QT (St.all _) (av.mono K.ea.1 K.ea.2) bv) λhg hi hj gb hk bj p=>?_;obtain⟨rfl,es,gc⟩:=p;exact A9 ⟨bj.siz,λb hb=>bj.same b hb⟩ ⟨O,es⟩
      refine AQ.cons O D8 (AQ.cons O ?_ ?_)
      ·intro mq hh o;intro hl eu hm ev;have K:=o.st j;cases eu;obtain⟨rfl,hn⟩:=ev;refine AU ?_;refine BS K (mt mh) O O Ct.1 bw O λho b5=>AU ?_;exact A5 b5
      exact trivial
     intro hp ew hq ey hr ez;have b6:=SN.st j ew;obtain⟨rfl,e0⟩:=ey;obtain⟨e1,b7,E⟩:=bd E;refine E9 (r:=AC) (l:=y) (i:=c.I) (x:=e1) O O (⟨_,O,O,e0⟩:Rd _ _ AC _ (BC (M+Q))) ez b7 NT.id HA.1 (λ_=>rfl) b6 (.tail .head) λht W hu=>AU ?_;refine AH O E (λe2 E=>?_) (λe2 E=>?_)
     ·refine MA 12 mo (by kernel_rfl) O W (AU ?_);obtain⟨hv,b8,E⟩:=bd E;refine BS W (mt mh) O O Ct.1 b8 O λhx b9=>?_;obtain⟨bk,ca,E⟩:=bd E;have e3:=W.epAt (mt mh) ca F9.id b9;refine Gf PF (λ_ x=>x) O e3 HA.1 O λhy=>AU ?_;refine B7 E O O O Re O (λaw cb h' o=>IX (St.all h') bh bi cb) λaw E e4=>?_;have hz:=e4;refine AU ?_;obtain⟨h0,cc,E⟩:=bd E;refine BS W (mt mh) O O Ct.1 cc O λh1 cd=>KT λh2 ce h4=>?_;obtain⟨e6,cf,E⟩:=bd E;refine E9 (r:=AC) (l:=(upd y c.I (BC (M+Q)))) (i:=c.C) (x:=e6) O O (⟨_,O,O,(BH _)⟩:Rd _ _ AC _ (BC (bk+aw))) cd cf NT.id HA.1 (λ_=>rfl) ce (.tail .head) λh5 cg h6=>AU ?_;refine BE (WF.nil (λt u d g=>?_));have ch:=cg.sel [1] 1 O;exact⟨(upd (upd y c.I (BC (M+Q))) c.C (BC (bk+aw))),_,_,d.sub (kp [33,32,3,34] O),g,ch,EX,E⟩
     refine AU ?_;refine BE (WF.nil (λt u d g=>?_));have ci:=W.sel [1] 1 O;exact⟨(upd y c.I (BC (M+Q))),_,_,d.sub (kp [33,32,3,34] O),g,ci,EX,E⟩
    refine AU ?_;refine HI (λa w=>∃(ax:Bool),IV B D F (128,[]) a w [(39,vI c.H),(7,vP z 0),(33,vI (↑k.G.length:Int)),(32,ap),(3,q),(34,vI V),(74,.bool ax)] (Bx z 117 [.string c.J,vI c.H,vI c.I,vI c.C,bb,bc,be,vI c.U,vI c.Ad,vI c.Ba,vI c.Bb,vI c.Y,vI c.T,vI c.Aw,vI c.Ax,vI c.Ar,vI c.An,vI c.S]::OS AC 3 q y::L) λ_ _=>Di N y c (Cc N V (BU N k (Cq N) n3)) ax=some r) ?_ ?_
    ·refine AH O E (λe7 E=>?_) (λe7 E=>?_)
     ·refine AU ?_;refine WF.nil (λt u d g=>?_);exact⟨(decide (c.H=1)),_,_,d.sub (kp [39,7,33,32,3,34,74] O),g,j,(B9.refl D F),E⟩
     refine AU ?_;refine HI (λa w=>∃(ak:Bool),IV B D F (128,[]) a w [(39,vI c.H),(7,vP z 0),(33,vI (↑k.G.length:Int)),(32,ap),(3,q),(34,vI V),(74,.bool ak)] (Bx z 117 [.string c.J,vI c.H,vI c.I,vI c.C,bb,bc,be,vI c.U,vI c.Ad,vI c.Ba,vI c.Bb,vI c.Y,vI c.T,vI c.Aw,vI c.Ax,vI c.Ar,vI c.An,vI c.S]::OS AC 3 q y::L) λ_ _=>Hu N (Di N y c (Cc N V (BU N k (Cq N) n3))) ak=some r) ?_ ?_
     ·refine AH O E (λe8 E=>?_) (λe8 E=>?_)
      ·refine AU ?_;refine WF.nil (λt u d g=>?_);exact⟨(decide (c.H=5)),_,_,d.sub (kp [39,7,33,32,3,34,74] O),g,j,(B9.refl D F),E⟩
      refine AU ?_;refine WF.nil (λt u d g=>?_);exact⟨(decide (c.H=3)),_,_,d.sub (kp [39,7,33,32,3,34,74] O),g,j,(B9.refl D F),E⟩
     rintro t u ⟨ak,h7,h8,d,g,cj,e9,E⟩;refine AK ?_ d g;clear d g u t;rw[Hu] at E;refine WF.nil (λt u d g=>?_);exact⟨ak,_,_,d.sub (kp [39,7,33,32,3,34,74] O),g,cj,e9,E⟩
    rintro t u ⟨ax,h9,ia,d,g,s,ib,E⟩;refine AK ?_ d g;clear d g u t;rw[Di] at E;refine AH O E (λfa E=>?_) (λfa E=>?_)
    ·refine MA 12 mo (by kernel_rfl) O s (AU ?_);obtain⟨ic,ck,E⟩:=bd E;refine BS s (mt mh) O O Ct.1 ck O λie cl=>?_;obtain⟨bl,cm,E⟩:=bd E;have fb:=s.epAt (mt mh) cm F9.id cl;refine Gf PF (λ_ x=>x) O fb HA.1 O λig=>AU ?_;refine B7 E O O O Re O (λay cn h' o=>IX (St.all h') bf bg cn) λay E fc=>?_;have ih:=fc;refine AU ?_;obtain⟨ii,co,E⟩:=bd E;refine BS s (mt mh) O O Ct.1 co O λij cp=>KT λik cq il=>?_;obtain⟨fd,cr,E⟩:=bd E;refine E9 (r:=AC) (l:=y) (i:=c.I) (x:=fd) O O (⟨_,O,O,(BH _)⟩:Rd _ _ AC _ (BC (bl+ay))) cp cr NT.id HA.1 (λ_=>rfl) cq (.tail .head) λim ct io=>AU ?_;refine BE (WF.nil (λt u d g=>?_));have cu:=ct.sel [1] 1 O;exact⟨(upd y c.I (BC (bl+ay))),_,_,d.sub (kp [33,32,3,34] O),g,cu,EX,E⟩
    refine AU ?_;refine AH O E (λfe E=>?_) (λfe E=>?_)
    ·refine AU ?_;refine MA 13 mo (by kernel_rfl) O s (AU ?_);obtain⟨ip,cv,E⟩:=bd E;refine BS s (mt mh) O O Ct.1 cv O λir cw=>?_;obtain⟨az,cx,E⟩:=bd E;have ff:=s.epAt (mt mh) cx F9.id cw;refine Gf PF (λ_ x=>x) O ff HA.1 O λit=>AU ?_;refine B7 E O O O Re O (λam cy h' o=>IX (St.all h') bf bg cy) λam E fg=>?_;have iu:=fg;refine AU ?_;obtain⟨iv,cz,E⟩:=bd E;refine BS s (mt mh) O O Ct.1 cz O λiw c0=>KT λiy c1 iz=>?_;obtain⟨fh,c2,E⟩:=bd E;refine E9 (r:=AC) (l:=y) (i:=c.I) (x:=fh) O O (⟨_,O,O,(BH _)⟩:Rd _ _ AC _ (BC (az+(BC (2*am))))) c0 c2 NT.id HA.1 (λ_=>rfl) c1 (.tail .head) λi0 ac i1=>AU ?_;refine MA 13 mo (by kernel_rfl) O ac (AU ?_);obtain⟨i2,c3,E⟩:=bd E;refine BS ac (mt mh) O O Ct.1 c3 O λi3 c4=>?_;obtain⟨bm,c5,E⟩:=bd E;have fi:=ac.epAt (mt mh) c5 F9.id c4;refine Gf PF (λ_ x=>x) O fi HA.1 O λi4=>AU ?_;refine B7 E O O O Re O (λa0 c6 h' o=>IX (St.all h') bh bi c6) λa0 E fj=>?_;have i5:=fj;refine AU ?_;obtain⟨i6,c7,E⟩:=bd E;refine BS ac (mt mh) O O Ct.1 c7 O λi7 c8=>KT λi8 c9 i9=>?_;obtain⟨fk,da,E⟩:=bd E;refine E9 (r:=AC) (l:=(upd y c.I (BC (az+(BC (2*am)))))) (i:=c.C) (x:=fk) O O (⟨_,O,O,(BH _)⟩:Rd _ _ AC _ (BC (bm+(BC (2*a0))))) c8 da NT.id HA.1 (λ_=>rfl) c9 (.tail .head) λja db jb=>AU ?_;refine BE (WF.nil (λt u d g=>?_));have dc:=db.sel [1] 1 O;exact⟨(upd (upd y c.I (BC (az+(BC (2*am))))) c.C (BC (bm+(BC (2*a0))))),_,_,d.sub (kp [33,32,3,34] O),g,dc,EX,E⟩
    refine AU ?_;refine BE (WF.nil (λt u d g=>?_));have dd:=s.sel [1] 1 O;exact⟨y,_,_,d.sub (kp [33,32,3,34] O),g,dd,EX,E⟩
   rintro t u ⟨aj,jc,jd,d,g,de,je,E⟩;refine AK ?_ d g;clear d g u t;rw[Cc] at E;refine AU ?_;refine WF.nil (λt u d g=>?_);exact⟨(BC (V+1)),aj,_,_,d.sub (kp [33,32,3,34] O),g,de,EX,(BH _),E⟩
  refine BB O (λt u d g=>?_);exact⟨y,_,_,d.sub (kp [3] O),g,aq,ba,E⟩
 rintro t u ⟨ao,a1,a2,d,g,df,jf,E⟩;refine AK ?_ d g;clear d g u t;rw[Cq] at E;refine AU ?_;refine AO (λa w=>IV B a1 a2 (128,[]) a w [] (L) λ_ _=>FV N=some r) ?_ ?_
 ·refine AX (λn8=>λa w=>∃(ag:Int),IV B a1 a2 (128,[]) a w [(120,vI (↑ao.length:Int)),(119,q),(121,vI ag)] (OS AC 3 q ao::L) λ_ _=>AB ag∧Dg N ao (FV N) n8 ag=some r) N ?_ ?_ ?_
  ·intro t u d g;exact⟨0,_,_,d.sub (kp [120,119,121] O),g,df,(B9.refl a1 a2),(iq (n:=0) O),E⟩
  ·rintro t u ⟨_,_,_,_,_,_,_,_,E⟩;rw[Dg] at E;cases E
  rintro n8 t u ⟨ag,jg,jh,d,g,af,bn,ji,E⟩;refine AK ?_ d g;clear d g u t;rw[Dg] at E;refine AU ?_;refine AH O E (λfm E=>?_) (λfm E=>?_)
  ·refine AU ?_;refine AY (AU ?_);obtain⟨jj,dg,E⟩:=bd E;refine BS af mh O O Ct.1 dg O λjk dh=>?_;obtain⟨jl,di,E⟩:=bd E;have fn:=af.epAt mh di F9.id dh;refine Gf LD (λ_ x=>x) O fn HA.1 O λjm=>AU ?_;refine AH O E (λfo E=>?_) (λfo E=>?_)
   ·exact RT
   refine AU ?_;refine BE (AU ?_);refine WF.nil (λt u d g=>?_);exact⟨(BC (ag+1)),_,_,d.sub (kp [120,119,121] O),g,af,bn,(BH _),E⟩
  refine BB O (λt u d g=>?_);have dj:=af.drop .head;exact⟨_,_,d.sub Nx,g,dj,bn,E⟩
 rintro t u ⟨jn,jo,d,g,gd,jp,E⟩;refine AK ?_ d g;clear d g u t;rw[FV] at E;exact RT
def PJ (hs:St S L h){q:Value}{b:AF}(u:Rd S h BV q b){r:Bool}(E:ID N b=some r):
 B3 prog 181 #[q] S h (λv S' h'=>v= .bool r∧St S' (L) h'):=by
 refine BA 64 func181 O ntmps181 O λB=>?_;rw[ID] at E;refine AU ?_;refine By O u CE O hs λq1 S2 h3 ax e5 k6=>?_;have k8:=k6.fl Ju;obtain⟨v9,_,ay⟩:=k8.ll;refine AU ?_;refine AO (λa w=>IV B S2 h3 (64,[]) a w [(1,q1)] (L) λ_ _=>D0 N b=some r) ?_ ?_
 ·refine AX (λn1=>λa w=>∃(s:Int),IV B S2 h3 (64,[]) a w [(9,vI (↑b.Ac.length:Int)),(8,v9),(1,q1),(10,vI s)] (L) λ_ _=>AB s∧Dz N b (D0 N b) n1 s=some r) N ?_ ?_ ?_
  ·intro m p k l;exact⟨0,_,_,k.sub (kp [9,8,1,10] O),l,ax,(B9.refl S2 h3),(iq (n:=0) O),E⟩
  ·rintro m p ⟨_,_,_,_,_,_,_,_,E⟩;rw[Dz] at E;cases E
  rintro n1 m p ⟨s,b9,ca,k,l,x,I,cb,E⟩;refine AK ?_ k l;clear k l p m;rw[Dz] at E;refine AU ?_;refine AH O E (λaz E=>?_) (λaz E=>?_)
  ·refine AU ?_;refine AY (AU ?_);have a0:=ay.mono' I;refine A6 E O O a0 bV.1 O λcc E cd a1=>?_;obtain⟨ce,_,a2⟩:=a1.lv;refine AU ?_;refine CF aC O x λcf cg J a3=>?_;have a4:=a2.mono a3;obtain⟨rfl,⟨ch,a5,a6,a7,a8,a9,ba⟩⟩:=Hb.ex a4;refine C7 O O O O aX.1 O J .head O λci K cj=>AU ?_;refine BY (.inl O) K ?_;have bb:=k6.nw;have bc:=bb.fl B5;obtain⟨ck,_,be⟩:=bc.ll;have bf:=be.le;refine AU ?_;refine A8 E O O O QO O (λM Q h' o=>Hl (St.all h') a5 (KZ bf) Q) λM E=>AU ?_;obtain⟨U,c,E⟩:=bd E;refine AZ 5 26 (.bool U) ?_ ?_
   ·cases V:(!M)
    ·have c:=G3 V c;refine AU ?_;refine A8 c O O O JY O (λbg W h' o=>CP (St.all h') a6 W) λbg c=>AU ?_;cases c;exact A0 O
    have c:=G2 V c;cases c;exact BG O O
   refine AU ?_;obtain⟨X,d,E⟩:=bd E;refine AZ 5 32 (.bool X) ?_ ?_
   ·cases Y:U
    ·have d:=G3 Y d;refine AU ?_;refine A8 d O O O HH O (λbh Z h' o=>CB (St.all h') a7 (iq (n:=0) O) (iq (n:=24) O) Z) λbh d=>AU ?_;cases d;exact A0 O
    have d:=G2 Y d;cases d;exact BG O O
   refine AU ?_;obtain⟨ab,g,E⟩:=bd E;refine AZ 5 38 (.bool ab) ?_ ?_
   ·cases ac:X
    ·have g:=G3 ac g;refine AU ?_;refine A8 g O O O HH O (λbi ad h' o=>CB (St.all h') a8 (iq (n:=0) O) (iq (n:=1073741824) O) ad) λbi g=>AU ?_;cases g;exact A0 O
    have g:=G2 ac g;cases g;exact BG O O
   refine AU ?_;obtain⟨ae,i,E⟩:=bd E;refine AZ 5 44 (.bool ae) ?_ ?_
   ·cases af:ab
    ·have i:=G3 af i;refine AU ?_;refine A8 i O O O JY O (λbj ag h' o=>CP (St.all h') a9 ag) λbj i=>AU ?_;cases i;exact A0 O
    have i:=G2 af i;cases i;exact BG O O
   refine AU ?_;obtain⟨bk,j,E⟩:=bd E;refine AZ 5 50 (.bool bk) ?_ ?_
   ·cases ah:ae
    ·have j:=G3 ah j;refine AU ?_;refine A8 j O O O HH O (λbl ai h' o=>CB (St.all h') ba (iq (n:=0) O) (iq (n:=128) O) ai) λbl j=>AU ?_;cases j;exact A0 O
    have j:=G2 ah j;cases j;exact BG O O
   refine BJ (kp [50,9,8,1,10] O) λcl aj cm=>AH O E (λbm E=>?_) (λbm E=>?_)
   ·exact RT
   refine AU ?_;refine BE (AU ?_);refine WF.nil (λm p k l=>?_);have ak:=aj.drop .head;exact⟨(BC (s+1)),_,_,k.sub (kp [9,8,1,10] O),l,ak,EX,(BH _),E⟩
  refine BB O (λm p k l=>?_);exact⟨_,_,k.sub (kp [1] O),l,x,I,E⟩
 rintro m p ⟨z,A,k,l,am,bn,E⟩;refine AK ?_ k l;clear k l p m;rw[D0] at E;have bo:=k6.mono bn;have bp:=bo.fl Jd;obtain⟨bq,_,br⟩:=bp.ll;refine AU ?_;refine AO (λa w=>IV B z A (64,[]) a w [] (L) λ_ _=>Fs N=some r) ?_ ?_
 ·refine AX (λn3=>λa w=>∃(t:Int),IV B z A (64,[]) a w [(54,vI (↑b.Aj.length:Int)),(53,bq),(55,vI t)] (L) λ_ _=>AB t∧Dy N b (Fs N) n3 t=some r) N ?_ ?_ ?_
  ·intro m p k l;exact⟨0,_,_,k.sub (kp [54,53,55] O),l,am,(B9.refl z A),(iq (n:=0) O),E⟩
  ·rintro m p ⟨_,_,_,_,_,_,_,_,E⟩;rw[Dy] at E;cases E
  rintro n3 m p ⟨t,cn,co,k,l,y,an,cp,E⟩;refine AK ?_ k l;clear k l p m;rw[Dy] at E;refine AU ?_;refine AH O E (λbs E=>?_) (λbs E=>?_)
  ·refine AU ?_;refine AY (AU ?_);have bt:=br.mono' an;refine A6 E O O bt bS.1 O λbv E bw ao=>?_;obtain⟨bx,_,ap⟩:=ao.lv;refine AU ?_;refine CF aA O y λbz b0 C aq=>?_;have ar:=ap.mono aq;obtain⟨rfl,⟨b1,au⟩⟩:=DI.ex ar;refine C7 O O O O aU.1 O C .head O λb2 D b3=>AU ?_;refine BY (.inl O) D (AU ?_);refine A8 E O O O HH O (λav F h' o=>CB (St.all h') au (iq (n:=0) O) (iq (n:=1073741824) O) F) λav E=>AU ?_;refine BJ (kp [62,54,53,55] O) λb4 G b5=>AH O E (λaw E=>?_) (λaw E=>?_)
   ·exact RT
   refine AU ?_;refine BE (AU ?_);refine WF.nil (λm p k l=>?_);have H:=G.drop .head;exact⟨(BC (t+1)),_,_,k.sub (kp [54,53,55] O),l,H,EX,(BH _),E⟩
  refine BB O (λm p k l=>?_);exact⟨_,_,k.sub Nx,l,y,an,E⟩
 rintro m p ⟨b6,b7,k,l,bu,b8,E⟩;refine AK ?_ k l;clear k l p m;rw[Fs] at E;exact RT
def Og (hs:St S L h){g:Value}{b:AF}(s:Rd S h BV g b){r:Bool}(E:Hr N b=some r):
 B3 prog 182 #[g] S h (λv S' h'=>v= .bool r∧St S' (L) h'):=by
 refine BA 47 func182 O ntmps182 O λB=>?_;rw[Hr] at E;refine AU ?_;refine By O s CE O hs λq1 S2 h3 ad e5 k6=>?_;have k8:=k6.fl KU;obtain⟨v9,_,ae⟩:=k8.ll;refine AU ?_;refine AO (λa w=>IV B S2 h3 (47,[]) a w [] (L) λ_ _=>FW N=some r) ?_ ?_
 ·refine AX (λn1=>λa w=>∃(j:Int),IV B S2 h3 (47,[]) a w [(8,vI (↑b.Af.length:Int)),(7,v9),(1,q1),(9,vI j)] (L) λ_ _=>AB j∧Dk N b (FW N) n1 j=some r) N ?_ ?_ ?_
  ·intro x y k m;exact⟨0,_,_,k.sub (kp [8,7,1,9] O),m,ad,(B9.refl S2 h3),(iq (n:=0) O),E⟩
  ·rintro x y ⟨_,_,_,_,_,_,_,_,E⟩;rw[Dk] at E;cases E
  rintro n1 x y ⟨j,a9,ba,k,m,t,D,bb,E⟩;refine AK ?_ k m;clear k m y x;rw[Dk] at E;refine AU ?_;refine AH O E (λaf E=>?_) (λaf E=>?_)
  ·refine AU ?_;refine AY (AU ?_);have ag:=ae.mono' D;refine A6 E O O ag bU.1 O λbc E be ah=>?_;obtain⟨bf,_,ai⟩:=ah.lv;refine AU ?_;refine CF Z9 O t λbg bh F aj=>?_;have ak:=ai.mono aj;obtain⟨rfl,⟨bi,am,an,ao,ap⟩⟩:=Er.ex ak;refine C7 O O O O aT.1 O F .head O λbj H bk=>AU ?_;refine BY (.inl O) H (AU ?_);refine A8 E O O O HH O (λI J h' o=>CB (St.all h') am (iq (n:=0) O) (iq (n:=2) O) J) λI E=>AU ?_;obtain⟨K,c,E⟩:=bd E;refine AZ 5 22 (.bool K) ?_ ?_
   ·cases M:(!I)
    ·have c:=G3 M c;refine AU ?_;refine A8 c O O O HH O (λaq Q h' o=>CB (St.all h') ao (iq (n:=0) O) (iq (n:=1099511627776) O) Q) λaq c=>AU ?_;cases c;exact A0 O
    have c:=G2 M c;cases c;exact BG O O
   refine AU ?_;obtain⟨ar,d,E⟩:=bd E;refine AZ 5 28 (.bool ar) ?_ ?_
   ·cases U:K
    ·have d:=G3 U d;refine AU ?_;refine A8 d O O O HH O (λau V h' o=>CB (St.all h') ap (iq (n:=0) O) (iq (n:=1440) O) V) λau d=>AU ?_;cases d;exact A0 O
    have d:=G2 U d;cases d;exact BG O O
   refine BJ (kp [28,4,8,7,1,9] O) λbl W bm=>AH O E (λav E=>?_) (λav E=>?_)
   ·exact RT
   have C:=k6.nw;have aw:=C.fl B5;obtain⟨bn,_,ax⟩:=aw.ll;have ay:=ax.le;have az:=C.fl M2;have a0:=az.i;have a1:=C.fl Gv;obtain⟨bo,_,a2⟩:=a1.ll;have a3:=a2.le;refine AU ?_;refine lO (cs:=[vI (↑b.A.length:Int),vI b.P,vI (↑b.G.length:Int)]) tI O O O (AU ?_);refine CF nV O W λbp bq X br=>?_;refine C7 O O O O oL.1 O X .head O λbs u bt=>AU ?_;refine BY (.inr ⟨mo,by kernel_rfl⟩) u (AU ?_);obtain⟨a4,q,E⟩:=bd E;have Y:=wP q;refine tV O O tH Y.1 Y.2 O (lL (l:=([(↑b.A.length:Int),b.P,(↑b.G.length:Int)]:List Int)) (Value.int .i64) PF u O mh O q HA.1 O ?_);have a5:AB a4:=wO (p:=λz=>AB z) (all_cons (KZ ay) (all_cons a0 (all_cons (KZ a3) kN))) q;refine A8 E O O O QO O (λa6 Z h' o=>Hl (St.all h') an a5 Z) λa6 E=>AU ?_;refine BJ (kp [45,8,7,1,9] O) λbu ab bv=>AH O E (λa7 E=>?_) (λa7 E=>?_)
   ·exact RT
   refine AU ?_;refine BE (AU ?_);refine WF.nil (λx y k m=>?_);have ac:=ab.sel [] 2 O;exact⟨(BC (j+1)),_,_,k.sub (kp [8,7,1,9] O),m,ac,EX,(BH _),E⟩
  refine BB O (λx y k m=>?_);exact⟨_,_,k.sub Nx,m,t,D,E⟩
 rintro x y ⟨bw,bx,k,m,a8,bz,E⟩;refine AK ?_ k m;clear k m y x;rw[FW] at E;exact RT
def PK (hs:St S L h){k:Value}{l:AF}(t:Rd S h BV k l){r:Bool}(E:IE N l=some r):
 B3 prog 183 #[k] S h (λv S' h'=>v= .bool r∧St S' (L) h'):=by
 refine BA 80 func183 O ntmps183 O λB=>?_;rw[IE] at E;refine AU ?_;refine By O t CE O hs λq1 S2 h3 aj e5 k6=>?_;have k8:=k6.fl K9;obtain⟨v9,_,ak⟩:=k8.ll;refine AU ?_;refine AO (λa w=>IV B S2 h3 (80,[]) a w [] (L) λ_ _=>Ft N=some r) ?_ ?_
 ·refine AX (λn1=>λa w=>∃(m:Int),IV B S2 h3 (80,[]) a w [(7,vI (↑l.Ag.length:Int)),(6,v9),(1,q1),(8,vI m)] (L) λ_ _=>AB m∧D2 N l (Ft N) n1 m=some r) N ?_ ?_ ?_
  ·intro x y p q;exact⟨0,_,_,p.sub (kp [7,6,1,8] O),q,aj,(B9.refl S2 h3),(iq (n:=0) O),E⟩
  ·rintro x y ⟨_,_,_,_,_,_,_,_,E⟩;rw[D2] at E;cases E
  rintro n1 x y ⟨m,bn,bo,p,q,u,A,bp,E⟩;refine AK ?_ p q;clear p q y x;rw[D2] at E;refine AU ?_;refine AH O E (λam E=>?_) (λam E=>?_)
  ·refine AU ?_;refine AY (AU ?_);have an:=ak.mono' A;refine A6 E O O an bT.1 O λs E bq ao=>?_;obtain⟨br,_,ap⟩:=ao.lv;refine AU ?_;refine CF Z8 O u λbs bt D aq=>?_;have ar:=ap.mono aq;obtain⟨rfl,⟨bu,au,av,aw,ax,ay,az⟩⟩:=G4.ex ar;refine C7 O O O O aS.1 O D .head O λbv F bw=>AU ?_;refine BY (.inl O) F ?_;have G:=k6.nw;have a0:=G.fl Ju;obtain⟨bx,_,a1⟩:=a0.ll;have a2:=a1.le;refine AU ?_;refine A8 E O O O QO O (λH J h' o=>Hl (St.all h') au (KZ a2) J) λH E=>AU ?_;obtain⟨K,b,E⟩:=bd E;refine AZ 12 31 (.bool K) ?_ ?_
   ·cases M:(!H)
    ·have b:=G3 M b;refine AU ?_;refine A8 b O O O QO O (λa3 Q h' o=>Hl (St.all h') av (BH _) Q) λa3 b=>AU ?_;cases b;exact A0 O
    have b:=G2 M b;cases b;exact BG O O
   refine AU ?_;obtain⟨U,c,E⟩:=bd E;refine AZ 5 44 (.bool U) ?_ ?_
   ·cases V:(K||(decide (s.I=s.C)))
    ·have c:=G3 V c;refine AU ?_;refine A8 c O O O HH O (λa4 W h' o=>CB (St.all h') aw (iq (n:=1) O) (iq (n:=24) O) W) λa4 c=>AU ?_;cases c;exact A0 O
    have c:=G2 V c;cases c;exact BG O O
   refine AU ?_;obtain⟨X,d,E⟩:=bd E;refine AZ 5 50 (.bool X) ?_ ?_
   ·cases Y:U
    ·have d:=G3 Y d;refine AU ?_;refine A8 d O O O HH O (λa5 Z h' o=>CB (St.all h') ax (iq (n:=0) O) (iq (n:=1073741824) O) Z) λa5 d=>AU ?_;cases d;exact A0 O
    have d:=G2 Y d;cases d;exact BG O O
   refine AU ?_;obtain⟨a6,g,E⟩:=bd E;refine AZ 5 56 (.bool a6) ?_ ?_
   ·cases ab:X
    ·have g:=G3 ab g;refine AU ?_;refine A8 g O O O JY O (λa7 ac h' o=>CP (St.all h') az ac) λa7 g=>AU ?_;cases g;exact A0 O
    have g:=G2 ab g;cases g;exact BG O O
   refine BJ (kp [56,4,7,6,1,8] O) λbz ad a8=>AH O E (λa9 E=>?_) (λa9 E=>?_)
   ·exact RT
   refine AU ?_;refine BY (.inl O) ad (AU ?_);obtain⟨ba,i,E⟩:=bd E;refine AZ 13 78 (.bool ba) ?_ ?_
   ·cases ae:((decide (s.Bi=(-1)))&&(decide (s.Bj≠0)))
    ·have i:=G3 ae i;refine AU ?_;obtain⟨bb,j,i⟩:=bd i;refine AZ 8 77 (.bool bb) ?_ ?_
     ·cases af:(decide (s.Bi≠(-1)))
      ·have j:=G3 af j;cases j;exact BG O O
      have j:=G2 af j;have bc:=G.mono a8;have be:=bc.fl B5;obtain⟨b0,_,bf⟩:=be.ll;have bg:=bf.le;refine AU ?_;refine A8 j O O O QO O (λbh ag h' o=>Hl (St.all h') ay (KZ bg) ag) λbh j=>AU ?_;cases j;exact A0 O
     refine AU ?_;cases i;exact A0 O
    have i:=G2 ae i;cases i;exact BG O O
   refine BJ (kp [78,7,6,1,8] O) λb1 ah bj=>AH O E (λai E=>?_) (λai E=>?_)
   ·exact RT
   refine AU ?_;refine BE (AU ?_);refine WF.nil (λx y p q=>?_);have z:=ah.drop .head;exact⟨(BC (m+1)),_,_,p.sub (kp [7,6,1,8] O),q,z,EX,(BH _),E⟩
  refine BB O (λx y p q=>?_);exact⟨_,_,p.sub Nx,q,u,A,E⟩
 rintro x y ⟨bk,bl,p,q,bi,bm,E⟩;refine AK ?_ p q;clear p q y x;rw[Ft] at E;exact RT
def OQ (hs:St S L h){m:Value}{q:AF}(n:Rd S h BV m q){r:Bool}(E:F5 N q=some r):
 B3 prog 98 #[m] S h (λv S' h'=>v= .bool r∧St S' (L) h'):=by
 refine BA 37 func98 O ntmps98 O λB=>?_;rw[F5] at E;refine AU ?_;refine By O n CE O hs λq1 S2 h3 l e5 p=>AU ?_;refine BY (.inl O) l ?_;obtain⟨v7,_,k8⟩:=p.lv;refine AU ?_;refine A8 E O O O sJ O (λy9 Z h' o=>Pw (St.all h') (k8.mono (o.all l.1)) Z) λy9 E=>AU ?_;obtain⟨s,a,E⟩:=bd E;refine AZ 3 8 (.bool s) ?_ ?_
 ·cases t:y9
  ·have a:=G3 t a;cases a;exact BG O O
  have a:=G2 t a;obtain⟨au,_,aa⟩:=p.lv;refine AU ?_;refine A8 a O O O sI O (λab u h' o=>PL (St.all h') (aa.mono (o.all l.1)) u) λab a=>AU ?_;cases a;exact A0 O
 refine AU ?_;obtain⟨w,b,E⟩:=bd E;refine AZ 3 12 (.bool w) ?_ ?_
 ·cases x:s
  ·have b:=G3 x b;cases b;exact BG O O
  have b:=G2 x b;obtain⟨av,_,ac⟩:=p.lv;refine AU ?_;refine A8 b O O O sH O (λad y h' o=>Of (St.all h') (ac.mono (o.all l.1)) y) λad b=>AU ?_;cases b;exact A0 O
 refine AU ?_;obtain⟨z,c,E⟩:=bd E;refine AZ 3 16 (.bool z) ?_ ?_
 ·cases A:w
  ·have c:=G3 A c;cases c;exact BG O O
  have c:=G2 A c;obtain⟨aw,_,ae⟩:=p.lv;refine AU ?_;refine A8 c O O O sG O (λaf C h' o=>PM (St.all h') (ae.mono (o.all l.1)) C) λaf c=>AU ?_;cases c;exact A0 O
 refine AU ?_;obtain⟨D,d,E⟩:=bd E;refine AZ 3 20 (.bool D) ?_ ?_
 ·cases F:z
  ·have d:=G3 F d;cases d;exact BG O O
  have d:=G2 F d;obtain⟨ax,_,ag⟩:=p.lv;refine AU ?_;refine A8 d O O O sF O (λah G h' o=>N9 (St.all h') (ag.mono (o.all l.1)) G) λah d=>AU ?_;cases d;exact A0 O
 refine AU ?_;obtain⟨H,g,E⟩:=bd E;refine AZ 3 24 (.bool H) ?_ ?_
 ·cases I:D
  ·have g:=G3 I g;cases g;exact BG O O
  have g:=G2 I g;obtain⟨ay,_,ai⟩:=p.lv;refine AU ?_;refine A8 g O O O sE O (λaj J h' o=>Oe (St.all h') (ai.mono (o.all l.1)) J) λaj g=>AU ?_;cases g;exact A0 O
 refine AU ?_;obtain⟨K,i,E⟩:=bd E;refine AZ 3 28 (.bool K) ?_ ?_
 ·cases M:H
  ·have i:=G3 M i;cases i;exact BG O O
  have i:=G2 M i;obtain⟨az,_,ak⟩:=p.lv;refine AU ?_;refine A8 i O O O sD O (λal Q h' o=>PJ (St.all h') (ak.mono (o.all l.1)) Q) λal i=>AU ?_;cases i;exact A0 O
 refine AU ?_;obtain⟨U,j,E⟩:=bd E;refine AZ 3 32 (.bool U) ?_ ?_
 ·cases V:K
  ·have j:=G3 V j;cases j;exact BG O O
  have j:=G2 V j;obtain⟨a0,_,am⟩:=p.lv;refine AU ?_;refine A8 j O O O sC O (λan W h' o=>Og (St.all h') (am.mono (o.all l.1)) W) λan j=>AU ?_;cases j;exact A0 O
 refine AU ?_;obtain⟨ao,k,E⟩:=bd E;refine AZ 3 36 (.bool ao) ?_ ?_
 ·cases X:U
  ·have k:=G3 X k;cases k;exact BG O O
  have k:=G2 X k;obtain⟨a1,_,ap⟩:=p.lv;refine AU ?_;refine A8 k O O O sB O (λaq Y h' o=>PK (St.all h') (ap.mono (o.all l.1)) Y) λaq k=>AU ?_;cases k;exact A0 O
 refine AU ?_;exact BJ (kp [2] O) λa2 ar a3=>RT
end Go.Proofs.YtedgiljmffngoaaGreat
