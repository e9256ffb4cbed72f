import Derived.Test.YtibidnaedddfdaaGreatEFacts
import Derived.Test.YtibidnaedddfdaaGreatEForms
import Derived.Test.YtibidnaedddfdaaGreatEInsert
namespace Go.Proofs.YtibidnaedddfdaaGreat
set_option linter.all false
open Go.RowKit
open Go.Proofs.Tryz
set_option maxRecDepth 10000
set_option maxHeartbeats 2000000
variable {N:Nat}{S:Nat→Prop}{L:List HP}{h:AX}
def Ch (j:St S L h) {c:Int}(i:AA c) {b:Int}(g:AA b) {a:Int}(d:AA a) {r:Bool}(E:C8 N c b a=some r):
 CD prog 85 #[vI c,vI b,vI a] S h (λv S' h'=>v= .bool r∧St S' (L) h'):=by
 refine A7 15 func85 O ntmps85 O λB=>?_;rw[C8] at E;exact RT
def Co (d:St S L h) {a:Int}(b:AA a) {r:Bool}(E:Cr N a=some r):
 CD prog 86 #[vI a] S h (λv S' h'=>v= .bool r∧St S' (L) h'):=by
 refine A7 5 func86 O ntmps86 O λB=>?_;rw[Cr] at E;refine AU ?_;refine WF.rc (.inl O) d (AU ?_);refine BC E O O O KD O (λg c h' o=>Ch (St.all h') b (iq (n:=0) O) (iq (n:=1125899906842624) O) c) λg E=>AU ?_;exact BD (kp [2] O) λj i k=>RT
def P5 (hs:St S L h) {s:Value}{b:AF}(z:Rd S h B7 s b) {r:Bool}(E:Jt N b=some r):
 CD prog 36 #[s] S h (λv S' h'=>v= .bool r∧St S' (L) h'):=by
 refine A7 109 func36 O ntmps36 O λB=>?_;rw[Jt] at E;refine AU ?_;refine AT O z CE O hs λq1 S2 h3 aw e5 Q=>AU ?_;refine WF.rc (.inl O) aw (AU ?_);obtain⟨U,c,E⟩:=bd E;refine A6 6 17 (.bool U) ?_ ?_
 ·cases V:(decide (500<(↑b.M.size:Int)))
  ·have c:=H8 V c;have ax:=Q.fl Me;obtain⟨bs,_,ay⟩:=ax.ll;have az:=ay.le;refine AU ?_;refine BC c O O O KD O (λa0 W h' o=>Ch (St.all h') (M0 az) (iq (n:=1) O) (iq (n:=16) O) W) λa0 c=>AU ?_;cases c;exact A5 O
  have c:=H7 V c;cases c;exact BO O O
 refine AU ?_;obtain⟨X,d,E⟩:=bd E;refine A6 5 23 (.bool X) ?_ ?_
 ·cases Y:U
  ·have d:=H8 Y d;have a1:=Q.fl NI;have a2:=a1.i;refine AU ?_;refine BC d O O O KD O (λa3 Z h' o=>Ch (St.all h') a2 (iq (n:=0) O) (iq (n:=64) O) Z) λa3 d=>AU ?_;cases d;exact A5 O
  have d:=H7 Y d;cases d;exact BO O O
 refine AU ?_;obtain⟨ab,g,E⟩:=bd E;refine A6 6 30 (.bool ab) ?_ ?_
 ·cases ac:X
  ·have g:=H8 ac g;have a4:=Q.fl Ck;obtain⟨bt,_,a5⟩:=a4.ll;have a6:=a5.le;refine AU ?_;refine BC g O O O KD O (λa7 ad h' o=>Ch (St.all h') (M0 a6) (iq (n:=1) O) (iq (n:=64) O) ad) λa7 g=>AU ?_;cases g;exact A5 O
  have g:=H7 ac g;cases g;exact BO O O
 refine AU ?_;obtain⟨a8,j,E⟩:=bd E;refine A6 5 72 (.bool a8) ?_ ?_
 ·cases ae:((((((ab||(decide (96<(↑b.D.length:Int))))||(decide (40<(↑b.Ad.length:Int))))||(decide (128<(↑b.Ab.length:Int))))||(decide (128<(↑b.Ar.length:Int))))||(decide (40<(↑b.At.length:Int))))||(decide ((↑b.As.length:Int)≠3)))
  ·have j:=H8 ae j;have a9:=Q.fl AF.f_Err;have ba:=a9.i;refine AU ?_;refine BC j O O O KD O (λbb af h' o=>Ch (St.all h') ba (iq (n:=0) O) (iq (n:=1099511627776) O) af) λbb j=>AU ?_;cases j;exact A5 O
  have j:=H7 ae j;cases j;exact BO O O
 refine BD (kp [72,1] O) λG ag bc=>AE O E (λbe E=>?_) (λbe E=>?_)
 ·exact RT
 have ah:=Q.mono bc;refine AU ?_;refine AQ (λa w=>IV B S2 G (109,[]) a w [(1,q1)] (L) λ_ _=>FD N b=some r) ?_ ?_
 ·refine BJ (λn1=>λa w=>∃(t:Int),IV B S2 G (109,[]) a w [(75,vI (↑b.M.size:Int)),(1,q1),(76,vI t)] (L) λ_ _=>AA t∧FC N b (FD N b) n1 t=some r) N ?_ ?_ ?_
  ·intro p q k l;exact⟨0,_,_,k.sub (kp [75,1,76] O),l,ag,(Cc.refl S2 G),(iq (n:=0) O),E⟩
  ·rintro p q ⟨_,_,_,_,_,_,_,_,E⟩;rw[FC] at E;cases E
  rintro n1 p q ⟨t,bu,bv,k,l,A,H,bw,E⟩;refine AI ?_ k l;clear k l q p;rw[FC] at E;refine AU ?_;refine AE O E (λbf E=>?_) (λbf E=>?_)
  ·refine AU ?_;refine BQ ?_;have bx:=ah.mono H;refine AU ?_;obtain⟨bz,C,E⟩:=bd E;have bh:=Q8 C;refine RJ O O us_9.1 C O (AU ?_);refine AE O E (λai E=>?_) (λai E=>?_)
   ·exact RT
   refine AU ?_;refine B3 (AU ?_);refine WF.nil (λp q k l=>?_);exact⟨(BR (t+1)),_,_,k.sub (kp [75,1,76] O),l,A,H,(B1 _),E⟩
  refine WF.exit O (λp q k l=>?_);exact⟨_,_,k.sub (kp [1] O),l,A,H,E⟩
 rintro p q ⟨u,x,k,l,I,aj,E⟩;refine AI ?_ k l;clear k l q p;rw[FD] at E;have ak:=ah.mono aj;have al:=ak.fl AF.f_Room;obtain⟨am,_,an⟩:=al.ll;refine AU ?_;refine AQ (λa w=>IV B u x (109,[]) a w [] (L) λ_ _=>Ha N=some r) ?_ ?_
 ·refine BJ (λn3=>λa w=>∃(m:Int),IV B u x (109,[]) a w [(100,vI (↑b.As.length:Int)),(99,am),(101,vI m)] (L) λ_ _=>AA m∧FB N b (Ha N) n3 m=some r) N ?_ ?_ ?_
  ·intro p q k l;exact⟨0,_,_,k.sub (kp [100,99,101] O),l,I,(Cc.refl u x),(iq (n:=0) O),E⟩
  ·rintro p q ⟨_,_,_,_,_,_,_,_,E⟩;rw[FB] at E;cases E
  rintro n3 p q ⟨m,bi,bj,k,l,y,F,bk,E⟩;refine AI ?_ k l;clear k l q p;rw[FB] at E;refine AU ?_;refine AE O E (λao E=>?_) (λao E=>?_)
  ·refine AU ?_;refine BQ (AU ?_);have ap:=an.mono' F;refine AN E O O ap sl_29.1 O λbl E bm aq=>?_;have ar:=aq.i;refine AU ?_;refine WF.rc (.inl O) y (AU ?_);refine BC E O O O Lv O (λau J h' o=>Co (St.all h') ar J) λau E=>AU ?_;refine BD (kp [107,100,99,101] O) λbn K bo=>AE O E (λav E=>?_) (λav E=>?_)
   ·exact RT
   refine AU ?_;refine B3 (AU ?_);refine WF.nil (λp q k l=>?_);exact⟨(BR (m+1)),_,_,k.sub (kp [100,99,101] O),l,K,EX,(B1 _),E⟩
  refine WF.exit O (λp q k l=>?_);exact⟨_,_,k.sub Ob,l,y,F,E⟩
 rintro p q ⟨bp,bq,k,l,bg,br,E⟩;refine AI ?_ k l;clear k l q p;rw[Ha] at E;exact RT
def Rk (G:St S L h) {b:ByteArray}(t:b.size≤maxLen) {r:Bool}(E:Kr N b=some r):
 CD prog 140 #[.string b] S h (λv S' h'=>v= .bool r∧St S' (L) h'):=by
 refine A7 54 func140 O ntmps140 O λB=>?_;rw[Kr] at E;refine AU ?_;refine A6 3 16 (.bool (((decide ((↑b.size:Int)<1))||(decide (24<(↑b.size:Int))))||(b==(ByteArray.mk #[111,117,116])))) ?_ ?_
 ·cases Y:((decide ((↑b.size:Int)<1))||(decide (24<(↑b.size:Int))))
  ·refine AU ?_;refine WK O O O (AU ?_);exact A5 O
  exact BO O O
 refine AU ?_;obtain⟨z,c,E⟩:=bd E;refine A6 4 21 (.bool z) ?_ ?_
 ·cases A:(((decide ((↑b.size:Int)<1))||(decide (24<(↑b.size:Int))))||(b==(ByteArray.mk #[111,117,116])))
  ·have c:=H8 A c;refine AU ?_;obtain⟨Z,p,c⟩:=bd c;have r6:=Q8 p;refine RJ O O us_9.1 p O (AU ?_);cases c;exact A5 O
  have c:=H7 A c;cases c;exact BO O O
 refine AU ?_;obtain⟨H,d,E⟩:=bd E;refine A6 4 26 (.bool H) ?_ ?_
 ·cases C:z
  ·have d:=H8 C d;refine AU ?_;obtain⟨z9,q,d⟩:=bd d;have I:=Q8 q;refine RJ O O us_9.1 q O (AU ?_);cases d;exact A5 O
  have d:=H7 C d;cases d;exact BO O O
 refine AU ?_;refine AE O E (λu E=>?_) (λu E=>?_)
 ·exact RT
 refine AU ?_;refine AQ (λa w=>IV B S h (54,[]) a w [] (L) λ_ _=>Ij N=some r) ?_ ?_
 ·refine BJ (λD=>λa w=>∃(g:Int),IV B S h (54,[]) a w [(0,.string b),(3,vI g)] (L) λ_ _=>AA g∧G1 N b (Ij N) D g=some r) N ?_ ?_ ?_
  ·intro m o i j;exact⟨1,_,_,i.sub (kp [0,3] O),j,G,(Cc.refl S h),(iq (n:=1) O),E⟩
  ·rintro m o ⟨_,_,_,_,_,_,_,_,E⟩;rw[G1] at E;cases E
  rintro D m o ⟨g,J,K,i,j,k,s,M,E⟩;refine AI ?_ i j;clear i j o m;rw[G1] at E;refine AU ?_;refine AE O E (λx E=>?_) (λx E=>?_)
  ·refine AU ?_;refine BQ (AU ?_);obtain⟨Q,l,E⟩:=bd E;have U:=Q8 l;refine RJ O O us_9.1 l O (AU ?_);refine AE O E (λy E=>?_) (λy E=>?_)
   ·exact RT
   refine AU ?_;refine B3 (AU ?_);refine WF.nil (λm o i j=>?_);exact⟨(BR (g+1)),_,_,i.sub (kp [0,3] O),j,k,s,(B1 _),E⟩
  refine WF.exit O (λm o i j=>?_);exact⟨_,_,i.sub Ob,j,k,s,E⟩
 rintro m o ⟨V,W,i,j,F,X,E⟩;refine AI ?_ i j;clear i j o m;rw[Ij] at E;exact RT
def SP {c:Nat}{d:(List (AG×Bool))}(F:St S (MP (λk:AG=>Value.agg (AG.v k).toArray) Value.bool c d::L) h) {g:ByteArray}(i:g.size≤maxLen) {b:ByteArray}(j:b.size≤maxLen) {r:Bool×(List (AG×Bool))}(E:LD N d g b=some r):
 CD prog 88 #[.map (some c),.string g,.string b] S h (λv S' h'=>v= .bool r.1∧St S' (MP (λk:AG=>Value.agg (AG.v k).toArray) Value.bool c r.2::L) h'):=by
 refine A7 23 func88 O ntmps88 O λB=>?_;rw[LD] at E;refine AU ?_;refine WK O O O (AU ?_);refine Er (λa w=>∃(l:ByteArray),IV B S h (23,[]) a w [(0,.map (some c)),(2,.string b),(1,.string l)] (MP (λk:AG=>Value.agg (AG.v k).toArray) Value.bool c d::L) λ_ _=>l.size≤maxLen∧JP N d b l=some r) ?_ ?_
 ·refine AE O E (λH E=>?_) (λH E=>?_)
  ·refine AU ?_;refine WF.nil (λy A p q=>?_);exact⟨(ByteArray.mk #[116,111,119,110]),_,_,p.sub (kp [0,2,1] O),q,F,(Cc.refl S h),(by decide),E⟩
  refine AU ?_;refine WF.nil (λy A p q=>?_);exact⟨g,_,_,p.sub (kp [0,2,1] O),q,F,(Cc.refl S h),i,E⟩
 rintro y A ⟨l,X,Y,p,q,C,Z,r2,E⟩;refine AI ?_ p q;clear p q A y;rw[JP] at E;refine AU ?_;refine B6 (cs:=[.string l,.string b]) iN O O O (AU ?_);refine BZ gW O C λb8 h9 s I=>?_;refine AW O O O O ty_210.1 O s .head O λJ m K=>AU ?_;refine WF.rc (.inl O) m (AU ?_);refine BC E O O O lE O (λn t h' o=>Rk (St.all h') j t) λn E=>AU ?_;refine A6 4 20 (.bool ((!n)||((Oc (λk:AG=>Value.agg (AG.v k).toArray) d (⟨l,b⟩:AG)).getD false))) ?_ ?_
 ·cases M:(!n)
  ·refine AU ?_;refine mQ (k0:=(⟨l,b⟩:AG)) (z:=false) SO m (mt mh) O O ZI Xd sL O O (AU ?_);exact A5 O
  exact BO O O
 refine BD (kp [20,7,0] O) λQ u U=>AE O E (λD E=>?_) (λD E=>?_)
 ·exact RT
 refine AU ?_;exact nC (k0:=(⟨l,b⟩:AG)) (x:=true) u (.tail .head) O O O ZI Xd λV G W=>RT
def FW {d:Nat}{c2_:(List (AG×Bool))}{a:Nat}{g:Nat}{c3_:Bool}(s:St S (Bx d 154 [.map (some a)]::MP (λk:AG=>Value.agg (AG.v k).toArray) Value.bool a c2_::Bx g 4 [.bool c3_]::L) h) {b:ByteArray}(i:b.size≤maxLen) {c:ByteArray}(j:c.size≤maxLen) {r:(List (AG×Bool))×Bool}(E:Dc N c2_ c3_ b c=some r):
 CD prog 87 #[.string b,.string c,vP d 0,vP g 0] S h (λv S' h'=>v= .tuple #[]∧St S' (Bx d 154 [.map (some a)]::MP (λk:AG=>Value.agg (AG.v k).toArray) Value.bool a r.1::Bx g 4 [.bool r.2]::L) h'):=by
 refine A7 13 func87 O ntmps87 O λB=>?_;rw[Dc] at E;refine Ej (AU ?_);have n:=s.pick (.tail .head);refine GA E O O O pW O (λt o=>SP n i j o) λt E y z A C p=>?_;obtain⟨rfl,q⟩:=p;refine AU ?_;refine AW O O O O ty_4.1 O q (.tail (.tail .head)) O λD l u=>AU ?_;refine WF.nil (λF G w x=>?_);have m:=l.sel [1,0,0] 0 O;cases E;exact IS w O x ID O EX ⟨O,m⟩
def PV (hs:St S L h) {J:Value}{b:AF}(a7:Rd S h B7 J b) {r:Bool}(E:KM N b=some r):
 CD prog 37 #[J] S h (λv S' h'=>v= .bool r∧St S' (L) h'):=by
 refine A7 106 func37 O ntmps37 O λB=>?_;rw[KM] at E;refine AU ?_;refine AT O a7 CE O hs λq1 S2 h3 e2 e5 k6=>AU ?_;refine nD (K:=0) (E:=0) O e2 (λk:AG=>Value.agg (AG.v k).toArray) Value.bool λm h8 e3 jm=>BZ iD O e3 λl jn cz jo=>?_;refine AW O O O O ty_154.1 O cz .head O λjp c0 jq=>AU ?_;refine BZ nM O c0 λc jr c1 js=>?_;refine AW O O O O ty_4.1 O c1 .head O λbo c2 jt=>AU ?_;refine Ma O O O ?_;have c3:=k6.nw;have e4:=c3.fl Me;obtain⟨e6,_,e7⟩:=e4.ll;refine AU ?_;refine AQ (λa w=>∃(a8:Bool) (a9:(List (AG×Bool))),IV B S2 bo (106,[]) a w [(5,.func (.func 87) #[] #[vP l 0,vP c 0]),(4,vP c 0),(1,q1)] (Bx c 4 [.bool a8]::Bx l 154 [.map (some m)]::MP (λk:AG=>Value.agg (AG.v k).toArray) Value.bool m a9::L) λ_ _=>Fu N b a8 a9=some r) ?_ ?_
 ·refine BJ (λn1=>λa w=>∃(ac:Int) (ad:Bool) (ae:(List (AG×Bool))),IV B S2 bo (106,[]) a w [(24,vI (↑b.Aq.length:Int)),(23,e6),(5,.func (.func 87) #[] #[vP l 0,vP c 0]),(4,vP c 0),(1,q1),(25,vI ac)] (Bx c 4 [.bool ad]::Bx l 154 [.map (some m)]::MP (λk:AG=>Value.agg (AG.v k).toArray) Value.bool m ae::L) λ_ _=>AA ac∧EI N b (Fu N b) n1 ac ad ae=some r) N ?_ ?_ ?_
  ·intro i j d g;exact⟨0,true,([]:(List (AG×Bool))),_,_,d.sub (kp [24,23,5,4,1,25] O),g,c2,(Cc.refl S2 bo),(iq (n:=0) O),E⟩
  ·rintro i j ⟨_,_,_,_,_,_,_,_,_,_,E⟩;rw[EI] at E;cases E
  rintro n1 i j ⟨ac,ad,ae,ju,jv,d,g,bc,c4,jw,E⟩;refine AI ?_ d g;clear d g j i;rw[EI] at E;refine AU ?_;refine AE O E (λe8 E=>?_) (λe8 E=>?_)
  ·refine AU ?_;refine BQ (AU ?_);have e9:=e7.mono' c4;refine AN E O O e9 sl_22.1 O λjx E jy fa=>?_;have fb:=fa.sz;refine AU ?_;refine Ej (AU ?_);have c5:=bc.sel [1,1,0] 0 O;refine GA E O O O TO O (λbp c6=>FW (c2_:=ae) (c3_:=ad) c5 (by decide) fb c6) λbp E jz j0 j1 j2 p=>?_;obtain⟨rfl,c7⟩:=p;refine AU ?_;refine B3 (AU ?_);refine WF.nil (λi j d g=>?_);have c8:=c7.sel [2,0,0] 0 O;exact⟨(BR (ac+1)),bp.2,bp.1,_,_,d.sub (kp [24,23,5,4,1,25] O),g,c8,EX,(B1 _),E⟩
  refine WF.exit O (λi j d g=>?_);exact⟨ad,ae,_,_,d.sub (kp [5,4,1] O),g,bc,c4,E⟩
 rintro i j ⟨a8,a9,bq,br,d,g,c9,fc,E⟩;refine AI ?_ d g;clear d g j i;rw[Fu] at E;have da:=c3.mono fc;have fd:=da.fl Ck;obtain⟨fe,_,ff⟩:=fd.ll;refine AU ?_;refine AQ (λa w=>∃(ba:Bool) (bb:(List (AG×Bool))),IV B bq br (106,[]) a w [(5,.func (.func 87) #[] #[vP l 0,vP c 0]),(4,vP c 0),(1,q1)] (Bx c 4 [.bool ba]::Bx l 154 [.map (some m)]::MP (λk:AG=>Value.agg (AG.v k).toArray) Value.bool m bb::L) λ_ _=>Ft N b ba bb=some r) ?_ ?_
 ·refine BJ (λn3=>λa w=>∃(af:Int) (ag:Bool) (ah:(List (AG×Bool))),IV B bq br (106,[]) a w [(35,vI (↑b.E.length:Int)),(34,fe),(5,.func (.func 87) #[] #[vP l 0,vP c 0]),(4,vP c 0),(1,q1),(36,vI af)] (Bx c 4 [.bool ag]::Bx l 154 [.map (some m)]::MP (λk:AG=>Value.agg (AG.v k).toArray) Value.bool m ah::L) λ_ _=>AA af∧EH N b (Ft N b) n3 af ag ah=some r) N ?_ ?_ ?_
  ·intro i j d g;exact⟨0,a8,a9,_,_,d.sub (kp [35,34,5,4,1,36] O),g,c9,(Cc.refl bq br),(iq (n:=0) O),E⟩
  ·rintro i j ⟨_,_,_,_,_,_,_,_,_,_,E⟩;rw[EH] at E;cases E
  rintro n3 i j ⟨af,ag,ah,j3,j4,d,g,be,db,j5,E⟩;refine AI ?_ d g;clear d g j i;rw[EH] at E;refine AU ?_;refine AE O E (λfg E=>?_) (λfg E=>?_)
  ·refine AU ?_;refine BQ (AU ?_);have fh:=ff.mono' db;refine AN E O O fh sl_23.1 O λj6 E j7 fi=>?_;obtain⟨j8,_,fj⟩:=fi.lv;refine AU ?_;refine BZ Qh O be λj9 ka dc fk=>?_;have fm:=fj.mono fk;obtain⟨fp,fq,fr,rfl,fn,kb,kc,fs,ft,fu,fv,fw,fx,fy,fz,f0⟩:=B4.ex fm;refine Hv O O O ON ty_57.1 O dc .head O λf1 bs f2=>AU ?_;refine Ej (AU ?_);have bt:=bs.sel [2,2,1,0] 0 O;refine GA E O O O TO O (λai bu=>FW (c2_:=ah) (c3_:=ag) bt (by decide) fn bu) λai E f3 f4 f5 f6 p=>?_;obtain⟨rfl,bv⟩:=p;refine AU ?_;refine B3 (AU ?_);refine WF.nil (λi j d g=>?_);have bw:=bv.sel [2,0,0] 1 O;exact⟨(BR (af+1)),ai.2,ai.1,_,_,d.sub (kp [35,34,5,4,1,36] O),g,bw,EX,(B1 _),E⟩
  refine WF.exit O (λi j d g=>?_);exact⟨ag,ah,_,_,d.sub (kp [5,4,1] O),g,be,db,E⟩
 rintro i j ⟨ba,bb,aj,ak,d,g,bx,dd,E⟩;refine AI ?_ d g;clear d g j i;rw[Ft] at E;have bf:=da.mono dd;have de:=bf.fl AF.f_Links;obtain⟨df,_,dg⟩:=de.ll;refine AU ?_;refine AQ (λa w=>∃(M:Bool) (Q:(List (AG×Bool))),IV B aj ak (106,[]) a w [(5,.func (.func 87) #[] #[vP l 0,vP c 0]),(4,vP c 0),(1,q1)] (Bx c 4 [.bool M]::Bx l 154 [.map (some m)]::MP (λk:AG=>Value.agg (AG.v k).toArray) Value.bool m Q::L) λ_ _=>Fs N b M Q=some r) ?_ ?_
 ·refine BJ (λn5=>λa w=>∃(o:Int) (q:Bool) (s:(List (AG×Bool))),IV B aj ak (106,[]) a w [(47,vI (↑b.D.length:Int)),(46,df),(5,.func (.func 87) #[] #[vP l 0,vP c 0]),(4,vP c 0),(1,q1),(48,vI o)] (Bx c 4 [.bool q]::Bx l 154 [.map (some m)]::MP (λk:AG=>Value.agg (AG.v k).toArray) Value.bool m s::L) λ_ _=>AA o∧EG N b (Fs N b) n5 o q s=some r) N ?_ ?_ ?_
  ·intro i j d g;exact⟨0,ba,bb,_,_,d.sub (kp [47,46,5,4,1,48] O),g,bx,(Cc.refl aj ak),(iq (n:=0) O),E⟩
  ·rintro i j ⟨_,_,_,_,_,_,_,_,_,_,E⟩;rw[EG] at E;cases E
  rintro n5 i j ⟨o,q,s,f7,f8,d,g,am,bg,f9,E⟩;refine AI ?_ d g;clear d g j i;rw[EG] at E;refine AU ?_;refine AE O E (λdh E=>?_) (λdh E=>?_)
  ·refine AU ?_;refine BQ (AU ?_);have di:=dg.mono' bg;refine AN E O O di sl_24.1 O λga E gb dj=>?_;obtain⟨gc,_,dk⟩:=dj.lv;refine AU ?_;refine BZ Nb O am λge gf bz dl=>?_;have dm:=dk.mono dl;obtain⟨gg,gh,gi,rfl,dn,gj,gk,gl,gm,gn,gp,gq,gr,gs,gu,gv,gw,gx,gy,gz,g0,g1⟩:=BI.ex dm;refine Hv O O O ON ty_102.1 O bz .head O λg2 b0 g3=>AU ?_;refine Ej (AU ?_);have b1:=b0.sel [2,2,1,0] 0 O;refine GA E O O O TO O (λan b2=>FW (c2_:=s) (c3_:=q) b1 (by decide) dn b2) λan E g4 g5 g6 g7 p=>?_;obtain⟨rfl,b3⟩:=p;refine AU ?_;refine B3 (AU ?_);refine WF.nil (λi j d g=>?_);have b4:=b3.sel [2,0,0] 1 O;exact⟨(BR (o+1)),an.2,an.1,_,_,d.sub (kp [47,46,5,4,1,48] O),g,b4,EX,(B1 _),E⟩
  refine WF.exit O (λi j d g=>?_);exact⟨q,s,_,_,d.sub (kp [5,4,1] O),g,am,bg,E⟩
 rintro i j ⟨M,Q,ao,ap,d,g,b5,dp,E⟩;refine AI ?_ d g;clear d g j i;rw[Fs] at E;have bh:=bf.mono dp;have dq:=bh.fl GT;obtain⟨dr,_,ds⟩:=dq.ll;refine AU ?_;refine AQ (λa w=>∃(U:Bool) (V:(List (AG×Bool))),IV B ao ap (106,[]) a w [(5,.func (.func 87) #[] #[vP l 0,vP c 0]),(4,vP c 0),(1,q1)] (Bx c 4 [.bool U]::Bx l 154 [.map (some m)]::MP (λk:AG=>Value.agg (AG.v k).toArray) Value.bool m V::L) λ_ _=>Fq N b U V=some r) ?_ ?_
 ·refine BJ (λn7=>λa w=>∃(t:Int) (u:Bool) (x:(List (AG×Bool))),IV B ao ap (106,[]) a w [(59,vI (↑b.Ad.length:Int)),(58,dr),(5,.func (.func 87) #[] #[vP l 0,vP c 0]),(4,vP c 0),(1,q1),(60,vI t)] (Bx c 4 [.bool u]::Bx l 154 [.map (some m)]::MP (λk:AG=>Value.agg (AG.v k).toArray) Value.bool m x::L) λ_ _=>AA t∧EF N b (Fq N b) n7 t u x=some r) N ?_ ?_ ?_
  ·intro i j d g;exact⟨0,M,Q,_,_,d.sub (kp [59,58,5,4,1,60] O),g,b5,(Cc.refl ao ap),(iq (n:=0) O),E⟩
  ·rintro i j ⟨_,_,_,_,_,_,_,_,_,_,E⟩;rw[EF] at E;cases E
  rintro n7 i j ⟨t,u,x,g8,g9,d,g,aq,bi,ha,E⟩;refine AI ?_ d g;clear d g j i;rw[EF] at E;refine AU ?_;refine AE O E (λdt E=>?_) (λdt E=>?_)
  ·refine AU ?_;refine BQ (AU ?_);have du:=ds.mono' bi;refine AN E O O du sl_25.1 O λhb E hc dv=>?_;obtain⟨hd,_,dw⟩:=dv.lv;refine AU ?_;refine BZ Sf O aq λhe hg b6 dx=>?_;have dy:=dw.mono dx;obtain⟨rfl,⟨dz,hh,hi,hj,hk,hl,hm⟩⟩:=Dn.ex dy;refine AW O O O O ty_114.1 O b6 .head O λhn b8 ho=>AU ?_;refine Ej (AU ?_);have b9:=b8.sel [2,2,1,0] 0 O;refine GA E O O O TO O (λar ca=>FW (c2_:=x) (c3_:=u) b9 (by decide) dz ca) λar E hp hq hr ht p=>?_;obtain⟨rfl,cb⟩:=p;refine AU ?_;refine B3 (AU ?_);refine WF.nil (λi j d g=>?_);have cc:=cb.sel [2,0,0] 1 O;exact⟨(BR (t+1)),ar.2,ar.1,_,_,d.sub (kp [59,58,5,4,1,60] O),g,cc,EX,(B1 _),E⟩
  refine WF.exit O (λi j d g=>?_);exact⟨u,x,_,_,d.sub (kp [5,4,1] O),g,aq,bi,E⟩
 rintro i j ⟨U,V,au,av,d,g,cd,d0,E⟩;refine AI ?_ d g;clear d g j i;rw[Fq] at E;have bj:=bh.mono d0;have d1:=bj.fl Ls;obtain⟨d2,_,d3⟩:=d1.ll;refine AU ?_;refine AQ (λa w=>∃(W:Bool) (X:(List (AG×Bool))),IV B au av (106,[]) a w [(5,.func (.func 87) #[] #[vP l 0,vP c 0]),(4,vP c 0),(1,q1)] (Bx c 4 [.bool W]::Bx l 154 [.map (some m)]::MP (λk:AG=>Value.agg (AG.v k).toArray) Value.bool m X::L) λ_ _=>Fp N b W X=some r) ?_ ?_
 ·refine BJ (λn9=>λa w=>∃(y:Int) (z:Bool) (A:(List (AG×Bool))),IV B au av (106,[]) a w [(71,vI (↑b.At.length:Int)),(70,d2),(5,.func (.func 87) #[] #[vP l 0,vP c 0]),(4,vP c 0),(1,q1),(72,vI y)] (Bx c 4 [.bool z]::Bx l 154 [.map (some m)]::MP (λk:AG=>Value.agg (AG.v k).toArray) Value.bool m A::L) λ_ _=>AA y∧EE N b (Fp N b) n9 y z A=some r) N ?_ ?_ ?_
  ·intro i j d g;exact⟨0,U,V,_,_,d.sub (kp [71,70,5,4,1,72] O),g,cd,(Cc.refl au av),(iq (n:=0) O),E⟩
  ·rintro i j ⟨_,_,_,_,_,_,_,_,_,_,E⟩;rw[EE] at E;cases E
  rintro n9 i j ⟨y,z,A,hu,hv,d,g,aw,bk,hx,E⟩;refine AI ?_ d g;clear d g j i;rw[EE] at E;refine AU ?_;refine AE O E (λd4 E=>?_) (λd4 E=>?_)
  ·refine AU ?_;refine BQ (AU ?_);have d5:=d3.mono' bk;refine AN E O O d5 sl_28.1 O λhy E hz d6=>?_;obtain⟨h0,_,d7⟩:=d6.lv;refine AU ?_;refine BZ Y9 O aw λh1 h2 ce d8=>?_;have d9:=d7.mono d8;obtain⟨rfl,⟨ea,h4⟩⟩:=DB.ex d9;refine AW O O O O ty_158.1 O ce .head O λh5 cf h6=>AU ?_;refine Ej (AU ?_);have cg:=cf.sel [2,2,1,0] 0 O;refine GA E O O O TO O (λax ch=>FW (c2_:=A) (c3_:=z) cg (by decide) ea ch) λax E h7 h9 ia ib p=>?_;obtain⟨rfl,ci⟩:=p;refine AU ?_;refine B3 (AU ?_);refine WF.nil (λi j d g=>?_);have cj:=ci.sel [2,0,0] 1 O;exact⟨(BR (y+1)),ax.2,ax.1,_,_,d.sub (kp [71,70,5,4,1,72] O),g,cj,EX,(B1 _),E⟩
  refine WF.exit O (λi j d g=>?_);exact⟨z,A,_,_,d.sub (kp [5,4,1] O),g,aw,bk,E⟩
 rintro i j ⟨W,X,ay,az,d,g,ck,eb,E⟩;refine AI ?_ d g;clear d g j i;rw[Fp] at E;have bl:=bj.mono eb;have ec:=bl.fl H5;obtain⟨ed,_,ee⟩:=ec.ll;refine AU ?_;refine AQ (λa w=>∃(Y:Bool) (Z:(List (AG×Bool))),IV B ay az (106,[]) a w [(5,.func (.func 87) #[] #[vP l 0,vP c 0]),(4,vP c 0),(1,q1)] (Bx c 4 [.bool Y]::Bx l 154 [.map (some m)]::MP (λk:AG=>Value.agg (AG.v k).toArray) Value.bool m Z::L) λ_ _=>FV N b Y Z=some r) ?_ ?_
 ·refine BJ (λef=>λa w=>∃(C:Int) (F:Bool) (G:(List (AG×Bool))),IV B ay az (106,[]) a w [(83,vI (↑b.Ab.length:Int)),(82,ed),(5,.func (.func 87) #[] #[vP l 0,vP c 0]),(4,vP c 0),(1,q1),(84,vI C)] (Bx c 4 [.bool F]::Bx l 154 [.map (some m)]::MP (λk:AG=>Value.agg (AG.v k).toArray) Value.bool m G::L) λ_ _=>AA C∧D1 N b (FV N b) ef C F G=some r) N ?_ ?_ ?_
  ·intro i j d g;exact⟨0,W,X,_,_,d.sub (kp [83,82,5,4,1,84] O),g,ck,(Cc.refl ay az),(iq (n:=0) O),E⟩
  ·rintro i j ⟨_,_,_,_,_,_,_,_,_,_,E⟩;rw[D1] at E;cases E
  rintro ef i j ⟨C,F,G,ic,id,d,g,a0,bm,ie,E⟩;refine AI ?_ d g;clear d g j i;rw[D1] at E;refine AU ?_;refine AE O E (λeg E=>?_) (λeg E=>?_)
  ·refine AU ?_;refine BQ (AU ?_);have eh:=ee.mono' bm;refine AN E O O eh sl_26.1 O λig E ih ei=>?_;obtain⟨ii,_,ej⟩:=ei.lv;refine AU ?_;refine BZ QL O a0 λij ik cl ek=>?_;have el:=ej.mono ek;obtain⟨rfl,⟨em,il,im,io,ip⟩⟩:=De.ex el;refine AW O O O O ty_147.1 O cl .head O λir cm it=>AU ?_;refine Ej (AU ?_);have cn:=cm.sel [2,2,1,0] 0 O;refine GA E O O O TO O (λa1 co=>FW (c2_:=G) (c3_:=F) cn (by decide) em co) λa1 E iu iv iw iy p=>?_;obtain⟨rfl,cp⟩:=p;refine AU ?_;refine B3 (AU ?_);refine WF.nil (λi j d g=>?_);have cq:=cp.sel [2,0,0] 1 O;exact⟨(BR (C+1)),a1.2,a1.1,_,_,d.sub (kp [83,82,5,4,1,84] O),g,cq,EX,(B1 _),E⟩
  refine WF.exit O (λi j d g=>?_);exact⟨F,G,_,_,d.sub (kp [5,4,1] O),g,a0,bm,E⟩
 rintro i j ⟨Y,Z,a2,a3,d,g,cr,en,E⟩;refine AI ?_ d g;clear d g j i;rw[FV] at E;have eo:=bl.mono en;have ep:=eo.fl NH;obtain⟨eq,_,er⟩:=ep.ll;refine AU ?_;refine AQ (λa w=>∃(a4:Bool),IV B a2 a3 (106,[]) a w [(4,vP c 0)] (Bx c 4 [.bool a4]::L) λ_ _=>FU N a4=some r) ?_ ?_
 ·refine BJ (λes=>λa w=>∃(H:Int) (I:Bool) (ab:(List (AG×Bool))),IV B a2 a3 (106,[]) a w [(95,vI (↑b.Ar.length:Int)),(94,eq),(5,.func (.func 87) #[] #[vP l 0,vP c 0]),(4,vP c 0),(96,vI H)] (Bx c 4 [.bool I]::Bx l 154 [.map (some m)]::MP (λk:AG=>Value.agg (AG.v k).toArray) Value.bool m ab::L) λ_ _=>AA H∧D0 N b (FU N) es H I ab=some r) N ?_ ?_ ?_
  ·intro i j d g;exact⟨0,Y,Z,_,_,d.sub (kp [95,94,5,4,96] O),g,cr,(Cc.refl a2 a3),(iq (n:=0) O),E⟩
  ·rintro i j ⟨_,_,_,_,_,_,_,_,_,_,E⟩;rw[D0] at E;cases E
  rintro es i j ⟨H,I,ab,iz,i0,d,g,a5,bn,i1,E⟩;refine AI ?_ d g;clear d g j i;rw[D0] at E;refine AU ?_;refine AE O E (λeu E=>?_) (λeu E=>?_)
  ·refine AU ?_;refine BQ (AU ?_);have ev:=er.mono' bn;refine AN E O O ev sl_27.1 O λi2 E i3 ew=>?_;obtain⟨i4,_,ey⟩:=ew.lv;refine AU ?_;refine BZ Y8 O a5 λi5 i6 cs ez=>?_;have e0:=ey.mono ez;obtain⟨rfl,⟨e1,i7,i8,i9,ja,jb,jc⟩⟩:=GQ.ex e0;refine AW O O O O ty_160.1 O cs .head O λjd ct je=>AU ?_;refine Ej (AU ?_);have cu:=ct.sel [2,2,1,0] 0 O;refine GA E O O O TO O (λa6 cv=>FW (c2_:=ab) (c3_:=I) cu (by decide) e1 cv) λa6 E jf jg jh ji p=>?_;obtain⟨rfl,cw⟩:=p;refine AU ?_;refine B3 (AU ?_);refine WF.nil (λi j d g=>?_);have cx:=cw.sel [2,0,0] 1 O;exact⟨(BR (H+1)),a6.2,a6.1,_,_,d.sub (kp [95,94,5,4,96] O),g,cx,EX,(B1 _),E⟩
  refine WF.exit O (λi j d g=>?_);have cy:=a5.sel [0] 2 O;exact⟨I,_,_,d.sub (kp [4] O),g,cy,bn,E⟩
 rintro i j ⟨a4,jj,jk,d,g,fo,jl,E⟩;refine AI ?_ d g;clear d g j i;rw[FU] at E;exact RT
end Go.Proofs.YtibidnaedddfdaaGreat
