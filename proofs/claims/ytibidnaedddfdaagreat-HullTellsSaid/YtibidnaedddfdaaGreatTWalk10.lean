import Derived.Test.YtibidnaedddfdaaGreatTFacts
import Derived.Test.YtibidnaedddfdaaGreatTForms
import Derived.Test.YtibidnaedddfdaaGreatTWalk0
import Derived.Test.YtibidnaedddfdaaGreatTWalk2
import Derived.Test.YtibidnaedddfdaaGreatTWalk4
namespace Go.Proofs.YtibidnaedddfdaaGreat
set_option linter.all false
open Go.RowKit
open Go.Proofs.Tryz
set_option maxRecDepth 10000
set_option maxHeartbeats 2000000
variable {N:Nat}{S:Nat→Prop}{L:List HP}{h:A4}
def Q0 (u:St S L h) {b:Value}{k:AH}(i:Rd S h B5 b k) {c:Value}{l:AX}(j:Rd S h DD c l) {a:Value}{d:Cn}(g:Rd S h Gr a d) {r:Bool}(E:K7 N k l d=some r):
 CA prog 9 #[b,c,a] S h (λv w h'=>v= .bool r∧St w (L) h'):=by
 refine A8 57 func9 O ntmps9 O λB=>?_;rw[K7] at E;refine AU ?_;refine A6 O i CE O u λK M Q n x y=>?_;have z:=j.mono x;refine A6 O z CE O n λU V A m C o=>?_;have p:=g.nw;refine A6 O p CE O m λD F G t q H=>?_;have I:=y.nw;have J:=o.mono q;refine AU ?_;refine AE O E (λs E=>?_) (λs E=>?_)
 ·exact RT
 exact RT
def Ch (k:St S L h) {c:Int}(i:AA c) {b:Int}(g:AA b) {a:Int}(d:AA a) {r:Bool}(E:DA N c b a=some r):
 CA prog 85 #[vI c,vI b,vI a] S h (λv j h'=>v= .bool r∧St j (L) h'):=by
 refine A8 15 func85 O ntmps85 O λB=>?_;rw[DA] at E;exact RT
def Cp (d:St S L h) {a:Int}(b:AA a) {r:Bool}(E:Cr N a=some r):
 CA prog 86 #[vI a] S h (λv g h'=>v= .bool r∧St g (L) h'):=by
 refine A8 5 func86 O ntmps86 O λB=>?_;rw[Cr] at E;refine AU ?_;refine WF.rc (.inl O) d (AU ?_);refine BE E O O O Kg O (λi c h' o=>Ch (St.all h') b (iq (n:=0) O) (iq (n:=1125899906842624) O) c) λi E=>AU ?_;exact BB (kp [2] O) λk j l=>RT
def Q3 (hs:St S L h) {s:Value}{b:AH}(z:Rd S h B5 s b) {r:Bool}(E:KE N b=some r):
 CA prog 36 #[s] S h (λv S' h'=>v= .bool r∧St S' (L) h'):=by
 refine A8 109 func36 O ntmps36 O λB=>?_;rw[KE] at E;refine AU ?_;refine A6 O z CE O hs λq1 S2 h3 av e5 M=>AU ?_;refine WF.rc (.inl O) av (AU ?_);obtain⟨Q,c,E⟩:=bd E;refine A0 6 17 (.bool Q) ?_ ?_
 ·cases U:(decide (500<(↑b.O.size:Int)))
  ·have c:=HX U c;have aw:=M.fl JC;obtain⟨br,_,ax⟩:=aw.ll;have ay:=ax.le;refine AU ?_;refine BE c O O O Kg O (λaz V h' o=>Ch (St.all h') (MB ay) (iq (n:=1) O) (iq (n:=16) O) V) λaz c=>AU ?_;cases c;exact AZ O
  have c:=HU U c;cases c;exact BM O O
 refine AU ?_;obtain⟨W,d,E⟩:=bd E;refine A0 5 23 (.bool W) ?_ ?_
 ·cases X:Q
  ·have d:=HX X d;have a0:=M.fl Ns;have a1:=a0.i;refine AU ?_;refine BE d O O O Kg O (λa2 Y h' o=>Ch (St.all h') a1 (iq (n:=0) O) (iq (n:=64) O) Y) λa2 d=>AU ?_;cases d;exact AZ O
  have d:=HU X d;cases d;exact BM O O
 refine AU ?_;obtain⟨Z,g,E⟩:=bd E;refine A0 6 30 (.bool Z) ?_ ?_
 ·cases ab:W
  ·have g:=HX ab g;have a3:=M.fl CS;obtain⟨bs,_,a4⟩:=a3.ll;have a5:=a4.le;refine AU ?_;refine BE g O O O Kg O (λa6 ac h' o=>Ch (St.all h') (MB a5) (iq (n:=1) O) (iq (n:=64) O) ac) λa6 g=>AU ?_;cases g;exact AZ O
  have g:=HU ab g;cases g;exact BM O O
 refine AU ?_;obtain⟨a7,j,E⟩:=bd E;refine A0 5 72 (.bool a7) ?_ ?_
 ·cases ad:((((((Z||(decide (96<(↑b.D.length:Int))))||(decide (40<(↑b.Ak.length:Int))))||(decide (128<(↑b.Ap.length:Int))))||(decide (128<(↑b.Aq.length:Int))))||(decide (40<(↑b.As.length:Int))))||(decide ((↑b.Ar.length:Int)≠3)))
  ·have j:=HX ad j;have a8:=M.fl AH.f_Err;have a9:=a8.i;refine AU ?_;refine BE j O O O Kg O (λba ae h' o=>Ch (St.all h') a9 (iq (n:=0) O) (iq (n:=1099511627776) O) ae) λba j=>AU ?_;cases j;exact AZ O
  have j:=HU ad j;cases j;exact BM O O
 refine BB (kp [72,1] O) λG af bb=>AE O E (λbc E=>?_) (λbc E=>?_)
 ·exact RT
 have ag:=M.mono bb;refine AU ?_;refine AN (λa w=>IV B S2 G (109,[]) a w [(1,q1)] (L) λ_ _=>E3 N b=some r) ?_ ?_
 ·refine BA (λn1=>λa w=>∃(t:Int),IV B S2 G (109,[]) a w [(75,vI (↑b.O.size:Int)),(1,q1),(76,vI t)] (L) λ_ _=>AA t∧E2 N b (E3 N b) n1 t=some r) N ?_ ?_ ?_
  ·intro p q k l;exact⟨0,_,_,k.sub (kp [75,1,76] O),l,af,(CX.refl S2 G),(iq (n:=0) O),E⟩
  ·rintro p q ⟨_,_,_,_,_,_,_,_,E⟩;rw[E2] at E;cases E
  rintro n1 p q ⟨t,bt,bu,k,l,A,H,bv,E⟩;refine AI ?_ k l;clear k l q p;rw[E2] at E;refine AU ?_;refine AE O E (λbe E=>?_) (λbe E=>?_)
  ·refine AU ?_;refine BG ?_;have bw:=ag.mono H;refine AU ?_;obtain⟨bx,C,E⟩:=bd E;have bg:=SD C;refine SL O O us_9.1 C O (AU ?_);refine AE O E (λah E=>?_) (λah E=>?_)
   ·exact RT
   refine AU ?_;refine BP (AU ?_);refine WF.nil (λp q k l=>?_);exact⟨(BV (t+1)),_,_,k.sub (kp [75,1,76] O),l,A,H,(BY _),E⟩
  refine WF.exit O (λp q k l=>?_);exact⟨_,_,k.sub (kp [1] O),l,A,H,E⟩
 rintro p q ⟨u,x,k,l,I,ai,E⟩;refine AI ?_ k l;clear k l q p;rw[E3] at E;have aj:=ag.mono ai;have ak:=aj.fl AH.f_Room;obtain⟨al,_,am⟩:=ak.ll;refine AU ?_;refine AN (λa w=>IV B u x (109,[]) a w [] (L) λ_ _=>Hn N=some r) ?_ ?_
 ·refine BA (λn3=>λa w=>∃(m:Int),IV B u x (109,[]) a w [(100,vI (↑b.Ar.length:Int)),(99,al),(101,vI m)] (L) λ_ _=>AA m∧E0 N b (Hn N) n3 m=some r) N ?_ ?_ ?_
  ·intro p q k l;exact⟨0,_,_,k.sub (kp [100,99,101] O),l,I,(CX.refl u x),(iq (n:=0) O),E⟩
  ·rintro p q ⟨_,_,_,_,_,_,_,_,E⟩;rw[E0] at E;cases E
  rintro n3 p q ⟨m,bh,bi,k,l,y,F,bj,E⟩;refine AI ?_ k l;clear k l q p;rw[E0] at E;refine AU ?_;refine AE O E (λan E=>?_) (λan E=>?_)
  ·refine AU ?_;refine BG (AU ?_);have ao:=am.mono' F;refine AO E O O ao sl_29.1 O λbk E bl ap=>?_;have aq:=ap.i;refine AU ?_;refine WF.rc (.inl O) y (AU ?_);refine BE E O O O MW O (λar J h' o=>Cp (St.all h') aq J) λar E=>AU ?_;refine BB (kp [107,100,99,101] O) λbm K bn=>AE O E (λau E=>?_) (λau E=>?_)
   ·exact RT
   refine AU ?_;refine BP (AU ?_);refine WF.nil (λp q k l=>?_);exact⟨(BV (m+1)),_,_,k.sub (kp [100,99,101] O),l,K,EX,(BY _),E⟩
  refine WF.exit O (λp q k l=>?_);exact⟨_,_,k.sub PJ,l,y,F,E⟩
 rintro p q ⟨bo,bp,k,l,bf,bq,E⟩;refine AI ?_ k l;clear k l q p;rw[Hn] at E;exact RT
def Si (G:St S L h) {b:ByteArray}(t:b.size≤maxLen) {r:Bool}(E:LN N b=some r):
 CA prog 140 #[.string b] S h (λv H h'=>v= .bool r∧St H (L) h'):=by
 refine A8 54 func140 O ntmps140 O λB=>?_;rw[LN] at E;refine AU ?_;refine A0 3 16 (.bool (((decide ((↑b.size:Int)<1))||(decide (24<(↑b.size:Int))))||(b==(ByteArray.mk #[111,117,116])))) ?_ ?_
 ·cases Z:((decide ((↑b.size:Int)<1))||(decide (24<(↑b.size:Int))))
  ·refine AU ?_;refine Wq O O O (AU ?_);exact AZ O
  exact BM O O
 refine AU ?_;obtain⟨z,c,E⟩:=bd E;refine A0 4 21 (.bool z) ?_ ?_
 ·cases A:(((decide ((↑b.size:Int)<1))||(decide (24<(↑b.size:Int))))||(b==(ByteArray.mk #[111,117,116])))
  ·have c:=HX A c;refine AU ?_;obtain⟨z5,p,c⟩:=bd c;have r6:=SD p;refine SL O O us_9.1 p O (AU ?_);cases c;exact AZ O
  have c:=HU A c;cases c;exact BM O O
 refine AU ?_;obtain⟨I,d,E⟩:=bd E;refine A0 4 26 (.bool I) ?_ ?_
 ·cases C:z
  ·have d:=HX C d;refine AU ?_;obtain⟨z9,q,d⟩:=bd d;have J:=SD q;refine SL O O us_9.1 q O (AU ?_);cases d;exact AZ O
  have d:=HU C d;cases d;exact BM O O
 refine AU ?_;refine AE O E (λu E=>?_) (λu E=>?_)
 ·exact RT
 refine AU ?_;refine AN (λa w=>IV B S h (54,[]) a w [] (L) λ_ _=>Iw N=some r) ?_ ?_
 ·refine BA (λD=>λa w=>∃(g:Int),IV B S h (54,[]) a w [(0,.string b),(3,vI g)] (L) λ_ _=>AA g∧G6 N b (Iw N) D g=some r) N ?_ ?_ ?_
  ·intro m o i j;exact⟨1,_,_,i.sub (kp [0,3] O),j,G,(CX.refl S h),(iq (n:=1) O),E⟩
  ·rintro m o ⟨_,_,_,_,_,_,_,_,E⟩;rw[G6] at E;cases E
  rintro D m o ⟨g,K,M,i,j,k,s,Q,E⟩;refine AI ?_ i j;clear i j o m;rw[G6] at E;refine AU ?_;refine AE O E (λx E=>?_) (λx E=>?_)
  ·refine AU ?_;refine BG (AU ?_);obtain⟨U,l,E⟩:=bd E;have V:=SD l;refine SL O O us_9.1 l O (AU ?_);refine AE O E (λy E=>?_) (λy E=>?_)
   ·exact RT
   refine AU ?_;refine BP (AU ?_);refine WF.nil (λm o i j=>?_);exact⟨(BV (g+1)),_,_,i.sub (kp [0,3] O),j,k,s,(BY _),E⟩
  refine WF.exit O (λm o i j=>?_);exact⟨_,_,i.sub PJ,j,k,s,E⟩
 rintro m o ⟨W,X,i,j,F,Y,E⟩;refine AI ?_ i j;clear i j o m;rw[Iw] at E;exact RT
def TN {c:Nat}{d:(List (AG×Bool))}(F:St S (MP (λk:AG=>Value.agg (AG.v k).toArray) Value.bool c d::L) h) {g:ByteArray}(i:g.size≤maxLen) {b:ByteArray}(j:b.size≤maxLen) {r:Bool×(List (AG×Bool))}(E:Lj N d g b=some r):
 CA prog 88 #[.map (some c),.string g,.string b] S h (λv H h'=>v= .bool r.1∧St H (MP (λk:AG=>Value.agg (AG.v k).toArray) Value.bool c r.2::L) h'):=by
 refine A8 23 func88 O ntmps88 O λB=>?_;rw[Lj] at E;refine AU ?_;refine Wq O O O (AU ?_);refine F2 (λa w=>∃(l:ByteArray),IV B S h (23,[]) a w [(0,.map (some c)),(2,.string b),(1,.string l)] (MP (λk:AG=>Value.agg (AG.v k).toArray) Value.bool c d::L) λ_ _=>l.size≤maxLen∧Jf N d b l=some r) ?_ ?_
 ·refine AE O E (λI E=>?_) (λI E=>?_)
  ·refine AU ?_;refine WF.nil (λy A p q=>?_);exact⟨(ByteArray.mk #[116,111,119,110]),_,_,p.sub (kp [0,2,1] O),q,F,(CX.refl S h),(by decide),E⟩
  refine AU ?_;refine WF.nil (λy A p q=>?_);exact⟨g,_,_,p.sub (kp [0,2,1] O),q,F,(CX.refl S h),i,E⟩
 rintro y A ⟨l,Y,Z,p,q,C,e7,r2,E⟩;refine AI ?_ p q;clear p q A y;rw[Jf] at E;refine AU ?_;refine CT (cs:=[.string l,.string b]) jQ O O O (AU ?_);refine BZ jB O C λb8 h9 s J=>?_;refine BI O O O O ty_210.1 O s .head O λK m M=>AU ?_;refine WF.rc (.inl O) m (AU ?_);refine BE E O O O mL O (λn t h' o=>Si (St.all h') j t) λn E=>AU ?_;refine A0 4 20 (.bool ((!n)||((Lu (λk:AG=>Value.agg (AG.v k).toArray) d (⟨l,b⟩:AG)).getD false))) ?_ ?_
 ·cases Q:(!n)
  ·refine AU ?_;refine Vq (k0:=(⟨l,b⟩:AG)) (z:=false) RG m (mt mh) O O Zy YG oN O O (AU ?_);exact AZ O
  exact BM O O
 refine BB (kp [20,7,0] O) λU u V=>AE O E (λD E=>?_) (λD E=>?_)
 ·exact RT
 refine AU ?_;exact XZ (k0:=(⟨l,b⟩:AG)) (x:=true) u (.tail .head) O O O Zy YG λW G X=>RT
def FT {d:Nat}{c2_:(List (AG×Bool))}{a:Nat}{g:Nat}{c3_:Bool}(s:St S (Bx d 154 [.map (some a)]::MP (λk:AG=>Value.agg (AG.v k).toArray) Value.bool a c2_::Bx g 4 [.bool c3_]::L) h) {b:ByteArray}(i:b.size≤maxLen) {c:ByteArray}(j:c.size≤maxLen) {r:(List (AG×Bool))×Bool}(E:De N c2_ c3_ b c=some r):
 CA prog 87 #[.string b,.string c,vP d 0,vP g 0] S h (λv t h'=>v= .tuple #[]∧St t (Bx d 154 [.map (some a)]::MP (λk:AG=>Value.agg (AG.v k).toArray) Value.bool a r.1::Bx g 4 [.bool r.2]::L) h'):=by
 refine A8 13 func87 O ntmps87 O λB=>?_;rw[De] at E;refine Es (AU ?_);have n:=s.pick (.tail .head);refine E4 E O O O rY O (λu o=>TN n i j o) λu E z A C D p=>?_;obtain⟨rfl,q⟩:=p;refine AU ?_;refine BI O O O O ty_4.1 O q (.tail (.tail .head)) O λF l w=>AU ?_;refine WF.nil (λG H x y=>?_);have m:=l.sel [1,0,0] 0 O;cases E;exact Jw x O y Jr O EX ⟨O,m⟩
def QQ (hs:St S L h) {M:Value}{b:AH}(a9:Rd S h B5 M b) {r:Bool}(E:Kn N b=some r):
 CA prog 37 #[M] S h (λv S' h'=>v= .bool r∧St S' (L) h'):=by
 refine A8 106 func37 O ntmps37 O λB=>?_;rw[Kn] at E;refine AU ?_;refine A6 O a9 CE O hs λq1 S2 h3 e4 e5 k6=>AU ?_;refine Xa (K:=0) (E:=0) O e4 (λk:AG=>Value.agg (AG.v k).toArray) Value.bool λm h8 e6 jo=>BZ jI O e6 λl jp c1 jq=>?_;refine BI O O O O ty_154.1 O c1 .head O λjr c2 js=>AU ?_;refine BZ oP O c2 λc jt c3 ju=>?_;refine BI O O O O ty_4.1 O c3 .head O λbq c4 jv=>AU ?_;refine OG O O O ?_;have c5:=k6.nw;have e7:=c5.fl JC;obtain⟨e8,_,e9⟩:=e7.ll;refine AU ?_;refine AN (λa w=>∃(ba:Bool) (bb:(List (AG×Bool))),IV B S2 bq (106,[]) a w [(5,.func (.func 87) #[] #[vP l 0,vP c 0]),(4,vP c 0),(1,q1)] (Bx c 4 [.bool ba]::Bx l 154 [.map (some m)]::MP (λk:AG=>Value.agg (AG.v k).toArray) Value.bool m bb::L) λ_ _=>F1 N b ba bb=some r) ?_ ?_
 ·refine BA (λn1=>λa w=>∃(ae:Int) (af:Bool) (ag:(List (AG×Bool))),IV B S2 bq (106,[]) a w [(24,vI (↑b.Z.length:Int)),(23,e8),(5,.func (.func 87) #[] #[vP l 0,vP c 0]),(4,vP c 0),(1,q1),(25,vI ae)] (Bx c 4 [.bool af]::Bx l 154 [.map (some m)]::MP (λk:AG=>Value.agg (AG.v k).toArray) Value.bool m ag::L) λ_ _=>AA ae∧EB N b (F1 N b) n1 ae af ag=some r) N ?_ ?_ ?_
  ·intro i j d g;exact⟨0,true,([]:(List (AG×Bool))),_,_,d.sub (kp [24,23,5,4,1,25] O),g,c4,(CX.refl S2 bq),(iq (n:=0) O),E⟩
  ·rintro i j ⟨_,_,_,_,_,_,_,_,_,_,E⟩;rw[EB] at E;cases E
  rintro n1 i j ⟨ae,af,ag,jw,jx,d,g,bf,c6,jy,E⟩;refine AI ?_ d g;clear d g j i;rw[EB] at E;refine AU ?_;refine AE O E (λfa E=>?_) (λfa E=>?_)
  ·refine AU ?_;refine BG (AU ?_);have fb:=e9.mono' c6;refine AO E O O fb sl_22.1 O λjz E j0 fc=>?_;have fd:=fc.sz;refine AU ?_;refine Es (AU ?_);have c7:=bf.sel [1,1,0] 0 O;refine E4 E O O O UD O (λbr c8=>FT (c2_:=ag) (c3_:=af) c7 (by decide) fd c8) λbr E j1 j2 j3 j4 p=>?_;obtain⟨rfl,c9⟩:=p;refine AU ?_;refine BP (AU ?_);refine WF.nil (λi j d g=>?_);have da:=c9.sel [2,0,0] 0 O;exact⟨(BV (ae+1)),br.2,br.1,_,_,d.sub (kp [24,23,5,4,1,25] O),g,da,EX,(BY _),E⟩
  refine WF.exit O (λi j d g=>?_);exact⟨af,ag,_,_,d.sub (kp [5,4,1] O),g,bf,c6,E⟩
 rintro i j ⟨ba,bb,bs,bt,d,g,db,fe,E⟩;refine AI ?_ d g;clear d g j i;rw[F1] at E;have dc:=c5.mono fe;have ff:=dc.fl CS;obtain⟨fg,_,fh⟩:=ff.ll;refine AU ?_;refine AN (λa w=>∃(bc:Bool) (be:(List (AG×Bool))),IV B bs bt (106,[]) a w [(5,.func (.func 87) #[] #[vP l 0,vP c 0]),(4,vP c 0),(1,q1)] (Bx c 4 [.bool bc]::Bx l 154 [.map (some m)]::MP (λk:AG=>Value.agg (AG.v k).toArray) Value.bool m be::L) λ_ _=>Fy N b bc be=some r) ?_ ?_
 ·refine BA (λn3=>λa w=>∃(ah:Int) (ai:Bool) (aj:(List (AG×Bool))),IV B bs bt (106,[]) a w [(35,vI (↑b.F.length:Int)),(34,fg),(5,.func (.func 87) #[] #[vP l 0,vP c 0]),(4,vP c 0),(1,q1),(36,vI ah)] (Bx c 4 [.bool ai]::Bx l 154 [.map (some m)]::MP (λk:AG=>Value.agg (AG.v k).toArray) Value.bool m aj::L) λ_ _=>AA ah∧EA N b (Fy N b) n3 ah ai aj=some r) N ?_ ?_ ?_
  ·intro i j d g;exact⟨0,ba,bb,_,_,d.sub (kp [35,34,5,4,1,36] O),g,db,(CX.refl bs bt),(iq (n:=0) O),E⟩
  ·rintro i j ⟨_,_,_,_,_,_,_,_,_,_,E⟩;rw[EA] at E;cases E
  rintro n3 i j ⟨ah,ai,aj,j5,j6,d,g,bg,dd,j7,E⟩;refine AI ?_ d g;clear d g j i;rw[EA] at E;refine AU ?_;refine AE O E (λfi E=>?_) (λfi E=>?_)
  ·refine AU ?_;refine BG (AU ?_);have fj:=fh.mono' dd;refine AO E O O fj sl_23.1 O λj8 E j9 fk=>?_;obtain⟨ka,_,fm⟩:=fk.lv;refine AU ?_;refine BZ PH O bg λkb kc de fn=>?_;have fo:=fm.mono fn;obtain⟨fr,fs,ft,rfl,fp,kd,ke,fu,fv,fw,fx,fy,fz,f0,f1,f2⟩:=B3.ex fo;refine G1 O O O ON ty_57.1 O de .head O λf3 bu f4=>AU ?_;refine Es (AU ?_);have bv:=bu.sel [2,2,1,0] 0 O;refine E4 E O O O UD O (λak bw=>FT (c2_:=aj) (c3_:=ai) bv (by decide) fp bw) λak E f5 f6 f7 f8 p=>?_;obtain⟨rfl,bx⟩:=p;refine AU ?_;refine BP (AU ?_);refine WF.nil (λi j d g=>?_);have bz:=bx.sel [2,0,0] 1 O;exact⟨(BV (ah+1)),ak.2,ak.1,_,_,d.sub (kp [35,34,5,4,1,36] O),g,bz,EX,(BY _),E⟩
  refine WF.exit O (λi j d g=>?_);exact⟨ai,aj,_,_,d.sub (kp [5,4,1] O),g,bg,dd,E⟩
 rintro i j ⟨bc,be,am,an,d,g,b0,df,E⟩;refine AI ?_ d g;clear d g j i;rw[Fy] at E;have bh:=dc.mono df;have dg:=bh.fl AH.f_Links;obtain⟨dh,_,di⟩:=dg.ll;refine AU ?_;refine AN (λa w=>∃(Q:Bool) (U:(List (AG×Bool))),IV B am an (106,[]) a w [(5,.func (.func 87) #[] #[vP l 0,vP c 0]),(4,vP c 0),(1,q1)] (Bx c 4 [.bool Q]::Bx l 154 [.map (some m)]::MP (λk:AG=>Value.agg (AG.v k).toArray) Value.bool m U::L) λ_ _=>Fx N b Q U=some r) ?_ ?_
 ·refine BA (λn5=>λa w=>∃(o:Int) (q:Bool) (s:(List (AG×Bool))),IV B am an (106,[]) a w [(47,vI (↑b.D.length:Int)),(46,dh),(5,.func (.func 87) #[] #[vP l 0,vP c 0]),(4,vP c 0),(1,q1),(48,vI o)] (Bx c 4 [.bool q]::Bx l 154 [.map (some m)]::MP (λk:AG=>Value.agg (AG.v k).toArray) Value.bool m s::L) λ_ _=>AA o∧D9 N b (Fx N b) n5 o q s=some r) N ?_ ?_ ?_
  ·intro i j d g;exact⟨0,bc,be,_,_,d.sub (kp [47,46,5,4,1,48] O),g,b0,(CX.refl am an),(iq (n:=0) O),E⟩
  ·rintro i j ⟨_,_,_,_,_,_,_,_,_,_,E⟩;rw[D9] at E;cases E
  rintro n5 i j ⟨o,q,s,f9,ga,d,g,ao,bi,gb,E⟩;refine AI ?_ d g;clear d g j i;rw[D9] at E;refine AU ?_;refine AE O E (λdj E=>?_) (λdj E=>?_)
  ·refine AU ?_;refine BG (AU ?_);have dk:=di.mono' bi;refine AO E O O dk sl_24.1 O λgc E ge dl=>?_;obtain⟨gf,_,dm⟩:=dl.lv;refine AU ?_;refine BZ NW O ao λgg gh b1 dn=>?_;have dp:=dm.mono dn;obtain⟨gi,gj,gk,rfl,dq,gl,gm,gn,gp,gq,gr,gs,gu,gv,gw,gx,gy,gz,g0,g1,g2,g3⟩:=BL.ex dp;refine G1 O O O ON ty_102.1 O b1 .head O λg4 b2 g5=>AU ?_;refine Es (AU ?_);have b3:=b2.sel [2,2,1,0] 0 O;refine E4 E O O O UD O (λap b4=>FT (c2_:=s) (c3_:=q) b3 (by decide) dq b4) λap E g6 g7 g8 g9 p=>?_;obtain⟨rfl,b5⟩:=p;refine AU ?_;refine BP (AU ?_);refine WF.nil (λi j d g=>?_);have b6:=b5.sel [2,0,0] 1 O;exact⟨(BV (o+1)),ap.2,ap.1,_,_,d.sub (kp [47,46,5,4,1,48] O),g,b6,EX,(BY _),E⟩
  refine WF.exit O (λi j d g=>?_);exact⟨q,s,_,_,d.sub (kp [5,4,1] O),g,ao,bi,E⟩
 rintro i j ⟨Q,U,aq,ar,d,g,b8,dr,E⟩;refine AI ?_ d g;clear d g j i;rw[Fx] at E;have bj:=bh.mono dr;have ds:=bj.fl MR;obtain⟨dt,_,du⟩:=ds.ll;refine AU ?_;refine AN (λa w=>∃(V:Bool) (W:(List (AG×Bool))),IV B aq ar (106,[]) a w [(5,.func (.func 87) #[] #[vP l 0,vP c 0]),(4,vP c 0),(1,q1)] (Bx c 4 [.bool V]::Bx l 154 [.map (some m)]::MP (λk:AG=>Value.agg (AG.v k).toArray) Value.bool m W::L) λ_ _=>Fw N b V W=some r) ?_ ?_
 ·refine BA (λn7=>λa w=>∃(t:Int) (u:Bool) (x:(List (AG×Bool))),IV B aq ar (106,[]) a w [(59,vI (↑b.Ak.length:Int)),(58,dt),(5,.func (.func 87) #[] #[vP l 0,vP c 0]),(4,vP c 0),(1,q1),(60,vI t)] (Bx c 4 [.bool u]::Bx l 154 [.map (some m)]::MP (λk:AG=>Value.agg (AG.v k).toArray) Value.bool m x::L) λ_ _=>AA t∧D8 N b (Fw N b) n7 t u x=some r) N ?_ ?_ ?_
  ·intro i j d g;exact⟨0,Q,U,_,_,d.sub (kp [59,58,5,4,1,60] O),g,b8,(CX.refl aq ar),(iq (n:=0) O),E⟩
  ·rintro i j ⟨_,_,_,_,_,_,_,_,_,_,E⟩;rw[D8] at E;cases E
  rintro n7 i j ⟨t,u,x,ha,hb,d,g,au,bk,hc,E⟩;refine AI ?_ d g;clear d g j i;rw[D8] at E;refine AU ?_;refine AE O E (λdv E=>?_) (λdv E=>?_)
  ·refine AU ?_;refine BG (AU ?_);have dw:=du.mono' bk;refine AO E O O dw sl_25.1 O λhd E he dx=>?_;obtain⟨hg,_,dy⟩:=dx.lv;refine AU ?_;refine BZ Zn O au λhh hi b9 dz=>?_;have d0:=dy.mono dz;obtain⟨rfl,⟨d1,hj,hk,hl,hm,hn,ho⟩⟩:=Gn.ex d0;refine BI O O O O ty_114.1 O b9 .head O λhp ca hq=>AU ?_;refine Es (AU ?_);have cb:=ca.sel [2,2,1,0] 0 O;refine E4 E O O O UD O (λav cc=>FT (c2_:=x) (c3_:=u) cb (by decide) d1 cc) λav E hr ht hu hv p=>?_;obtain⟨rfl,cd⟩:=p;refine AU ?_;refine BP (AU ?_);refine WF.nil (λi j d g=>?_);have ce:=cd.sel [2,0,0] 1 O;exact⟨(BV (t+1)),av.2,av.1,_,_,d.sub (kp [59,58,5,4,1,60] O),g,ce,EX,(BY _),E⟩
  refine WF.exit O (λi j d g=>?_);exact⟨u,x,_,_,d.sub (kp [5,4,1] O),g,au,bk,E⟩
 rintro i j ⟨V,W,aw,ax,d,g,cf,d2,E⟩;refine AI ?_ d g;clear d g j i;rw[Fw] at E;have bl:=bj.mono d2;have d3:=bl.fl MS;obtain⟨d4,_,d5⟩:=d3.ll;refine AU ?_;refine AN (λa w=>∃(X:Bool) (Y:(List (AG×Bool))),IV B aw ax (106,[]) a w [(5,.func (.func 87) #[] #[vP l 0,vP c 0]),(4,vP c 0),(1,q1)] (Bx c 4 [.bool X]::Bx l 154 [.map (some m)]::MP (λk:AG=>Value.agg (AG.v k).toArray) Value.bool m Y::L) λ_ _=>Fv N b X Y=some r) ?_ ?_
 ·refine BA (λn9=>λa w=>∃(y:Int) (z:Bool) (A:(List (AG×Bool))),IV B aw ax (106,[]) a w [(71,vI (↑b.As.length:Int)),(70,d4),(5,.func (.func 87) #[] #[vP l 0,vP c 0]),(4,vP c 0),(1,q1),(72,vI y)] (Bx c 4 [.bool z]::Bx l 154 [.map (some m)]::MP (λk:AG=>Value.agg (AG.v k).toArray) Value.bool m A::L) λ_ _=>AA y∧D7 N b (Fv N b) n9 y z A=some r) N ?_ ?_ ?_
  ·intro i j d g;exact⟨0,V,W,_,_,d.sub (kp [71,70,5,4,1,72] O),g,cf,(CX.refl aw ax),(iq (n:=0) O),E⟩
  ·rintro i j ⟨_,_,_,_,_,_,_,_,_,_,E⟩;rw[D7] at E;cases E
  rintro n9 i j ⟨y,z,A,hx,hy,d,g,ay,bm,hz,E⟩;refine AI ?_ d g;clear d g j i;rw[D7] at E;refine AU ?_;refine AE O E (λd6 E=>?_) (λd6 E=>?_)
  ·refine AU ?_;refine BG (AU ?_);have d7:=d5.mono' bm;refine AO E O O d7 sl_28.1 O λh0 E h1 d8=>?_;obtain⟨h2,_,d9⟩:=d8.lv;refine AU ?_;refine BZ Zl O ay λh4 h5 cg ea=>?_;have eb:=d9.mono ea;obtain⟨rfl,⟨ec,h6⟩⟩:=DC.ex eb;refine BI O O O O ty_158.1 O cg .head O λh7 ch h9=>AU ?_;refine Es (AU ?_);have ci:=ch.sel [2,2,1,0] 0 O;refine E4 E O O O UD O (λaz cj=>FT (c2_:=A) (c3_:=z) ci (by decide) ec cj) λaz E ia ib ic id p=>?_;obtain⟨rfl,ck⟩:=p;refine AU ?_;refine BP (AU ?_);refine WF.nil (λi j d g=>?_);have cl:=ck.sel [2,0,0] 1 O;exact⟨(BV (y+1)),az.2,az.1,_,_,d.sub (kp [71,70,5,4,1,72] O),g,cl,EX,(BY _),E⟩
  refine WF.exit O (λi j d g=>?_);exact⟨z,A,_,_,d.sub (kp [5,4,1] O),g,ay,bm,E⟩
 rintro i j ⟨X,Y,a0,a1,d,g,cm,ed,E⟩;refine AI ?_ d g;clear d g j i;rw[Fv] at E;have bn:=bl.mono ed;have ee:=bn.fl NE;obtain⟨ef,_,eg⟩:=ee.ll;refine AU ?_;refine AN (λa w=>∃(ab:Bool) (ac:(List (AG×Bool))),IV B a0 a1 (106,[]) a w [(5,.func (.func 87) #[] #[vP l 0,vP c 0]),(4,vP c 0),(1,q1)] (Bx c 4 [.bool ab]::Bx l 154 [.map (some m)]::MP (λk:AG=>Value.agg (AG.v k).toArray) Value.bool m ac::L) λ_ _=>FQ N b ab ac=some r) ?_ ?_
 ·refine BA (λeh=>λa w=>∃(C:Int) (G:Bool) (H:(List (AG×Bool))),IV B a0 a1 (106,[]) a w [(83,vI (↑b.Ap.length:Int)),(82,ef),(5,.func (.func 87) #[] #[vP l 0,vP c 0]),(4,vP c 0),(1,q1),(84,vI C)] (Bx c 4 [.bool G]::Bx l 154 [.map (some m)]::MP (λk:AG=>Value.agg (AG.v k).toArray) Value.bool m H::L) λ_ _=>AA C∧Dv N b (FQ N b) eh C G H=some r) N ?_ ?_ ?_
  ·intro i j d g;exact⟨0,X,Y,_,_,d.sub (kp [83,82,5,4,1,84] O),g,cm,(CX.refl a0 a1),(iq (n:=0) O),E⟩
  ·rintro i j ⟨_,_,_,_,_,_,_,_,_,_,E⟩;rw[Dv] at E;cases E
  rintro eh i j ⟨C,G,H,ie,ig,d,g,a2,bo,ih,E⟩;refine AI ?_ d g;clear d g j i;rw[Dv] at E;refine AU ?_;refine AE O E (λei E=>?_) (λei E=>?_)
  ·refine AU ?_;refine BG (AU ?_);have ej:=eg.mono' bo;refine AO E O O ej sl_26.1 O λii E ij ek=>?_;obtain⟨ik,_,el⟩:=ek.lv;refine AU ?_;refine BZ Zm O a2 λil im cn em=>?_;have en:=el.mono em;obtain⟨rfl,⟨eo,io,ip,ir,it⟩⟩:=ED.ex en;refine BI O O O O ty_147.1 O cn .head O λiu co iv=>AU ?_;refine Es (AU ?_);have cp:=co.sel [2,2,1,0] 0 O;refine E4 E O O O UD O (λa3 cq=>FT (c2_:=H) (c3_:=G) cp (by decide) eo cq) λa3 E iw iy iz i0 p=>?_;obtain⟨rfl,cr⟩:=p;refine AU ?_;refine BP (AU ?_);refine WF.nil (λi j d g=>?_);have cs:=cr.sel [2,0,0] 1 O;exact⟨(BV (C+1)),a3.2,a3.1,_,_,d.sub (kp [83,82,5,4,1,84] O),g,cs,EX,(BY _),E⟩
  refine WF.exit O (λi j d g=>?_);exact⟨G,H,_,_,d.sub (kp [5,4,1] O),g,a2,bo,E⟩
 rintro i j ⟨ab,ac,a4,a5,d,g,ct,ep,E⟩;refine AI ?_ d g;clear d g j i;rw[FQ] at E;have eq:=bn.mono ep;have er:=eq.fl Nr;obtain⟨es,_,eu⟩:=er.ll;refine AU ?_;refine AN (λa w=>∃(a6:Bool),IV B a4 a5 (106,[]) a w [(4,vP c 0)] (Bx c 4 [.bool a6]::L) λ_ _=>FP N a6=some r) ?_ ?_
 ·refine BA (λev=>λa w=>∃(I:Int) (J:Bool) (ad:(List (AG×Bool))),IV B a4 a5 (106,[]) a w [(95,vI (↑b.Aq.length:Int)),(94,es),(5,.func (.func 87) #[] #[vP l 0,vP c 0]),(4,vP c 0),(96,vI I)] (Bx c 4 [.bool J]::Bx l 154 [.map (some m)]::MP (λk:AG=>Value.agg (AG.v k).toArray) Value.bool m ad::L) λ_ _=>AA I∧Du N b (FP N) ev I J ad=some r) N ?_ ?_ ?_
  ·intro i j d g;exact⟨0,ab,ac,_,_,d.sub (kp [95,94,5,4,96] O),g,ct,(CX.refl a4 a5),(iq (n:=0) O),E⟩
  ·rintro i j ⟨_,_,_,_,_,_,_,_,_,_,E⟩;rw[Du] at E;cases E
  rintro ev i j ⟨I,J,ad,i1,i2,d,g,a7,bp,i3,E⟩;refine AI ?_ d g;clear d g j i;rw[Du] at E;refine AU ?_;refine AE O E (λew E=>?_) (λew E=>?_)
  ·refine AU ?_;refine BG (AU ?_);have ey:=eu.mono' bp;refine AO E O O ey sl_27.1 O λi4 E i5 ez=>?_;obtain⟨i6,_,e0⟩:=ez.lv;refine AU ?_;refine BZ Zk O a7 λi7 i8 cu e1=>?_;have e2:=e0.mono e1;obtain⟨rfl,⟨e3,i9,ja,jb,jc,jd,je⟩⟩:=Gp.ex e2;refine BI O O O O ty_160.1 O cu .head O λjf cv jg=>AU ?_;refine Es (AU ?_);have cw:=cv.sel [2,2,1,0] 0 O;refine E4 E O O O UD O (λa8 cx=>FT (c2_:=ad) (c3_:=J) cw (by decide) e3 cx) λa8 E jh ji jj jk p=>?_;obtain⟨rfl,cy⟩:=p;refine AU ?_;refine BP (AU ?_);refine WF.nil (λi j d g=>?_);have cz:=cy.sel [2,0,0] 1 O;exact⟨(BV (I+1)),a8.2,a8.1,_,_,d.sub (kp [95,94,5,4,96] O),g,cz,EX,(BY _),E⟩
  refine WF.exit O (λi j d g=>?_);have c0:=a7.sel [0] 2 O;exact⟨J,_,_,d.sub (kp [4] O),g,c0,bp,E⟩
 rintro i j ⟨a6,jl,jm,d,g,fq,jn,E⟩;refine AI ?_ d g;clear d g j i;rw[FP] at E;exact RT
def Ly (n:St S L h) {a:Int}(d:AA a) {b:Int}(g:AA b) {r:Bool}(E:IY N a b=some r):
 CA prog 90 #[vI a,vI b] S h (λv p h'=>v= .bool r∧St p (L) h'):=by
 refine A8 19 func90 O ntmps90 O λB=>?_;rw[IY] at E;refine AU ?_;refine WF.rc (.inl O) n (AU ?_);refine BE E O O O MW O (λk i h' o=>Cp (St.all h') d i) λk E=>AU ?_;obtain⟨q,c,E⟩:=bd E;refine A0 3 10 (.bool q) ?_ ?_
 ·cases l:k
  ·have c:=HX l c;cases c;exact BM O O
  have c:=HU l c;refine AU ?_;refine BE c O O O MW O (λs j h' o=>Cp (St.all h') g j) λs c=>AU ?_;cases c;exact AZ O
 refine AU ?_;exact BB (kp [4] O) λu m t=>RT
def I9 (i:St S L h) {b:Int}(c:AA b) {a:Int}(d:AA a) {r:Bool}(E:Gd N b a=some r):
 CA prog 92 #[vI b,vI a] S h (λv j h'=>v= .bool r∧St j (L) h'):=by
 refine A8 9 func92 O ntmps92 O λB=>?_;rw[Gd] at E;refine AU ?_;refine WF.rc (.inl O) i (AU ?_);refine BE E O O O Kg O (λk g h' o=>Ch (St.all h') c (iq (n:=0) O) (BY _) g) λk E=>AU ?_;exact BB (kp [4] O) λm l p=>RT
def Od (w:St S L h) {d:Value}{j:AH}(i:Rd S h B5 d j) {a:Int}(k:AA a) {b:Int}(g:AA b) {r:Bool}(E:Kf N j a b=some r):
 CA prog 91 #[d,vI a,vI b] S h (λv x h'=>v= .bool r∧St x (L) h'):=by
 refine A8 21 func91 O ntmps91 O λB=>?_;rw[Kf] at E;refine AU ?_;refine A6 O i CE O w λF G H m I y=>AU ?_;refine WF.rc (.inl O) m (AU ?_);obtain⟨z,c,E⟩:=bd E;refine A0 11 20 (.bool z) ?_ ?_
 ·cases t:(decide (b=(-1)))
  ·have c:=HX t c;have n:=y.fl CS;obtain⟨A,_,p⟩:=n.ll;have q:=p.le;refine AU ?_;refine BE c O O O UB O (λs l h' o=>I9 (St.all h') g (MB q) l) λs c=>AU ?_;cases c;exact AZ O
  have c:=HU t c;cases c;exact BM O O
 refine AU ?_;exact BB (kp [6] O) λC u D=>RT
def Pn (hs:St S L h) {H:Value}{b:AH}(ab:Rd S h B5 H b) {r:Bool}(E:KQ N b=some r):
 CA prog 38 #[H] S h (λv S' h'=>v= .bool r∧St S' (L) h'):=by
 refine A8 122 func38 O ntmps38 O λB=>?_;rw[KQ] at E;refine AU ?_;refine A6 O ab CE O hs λq1 S2 h3 ck e5 k6=>?_;have k8:=k6.fl CS;obtain⟨v9,_,cl⟩:=k8.ll;refine AU ?_;refine AN (λa w=>∃(ac:Int),IV B S2 h3 (122,[]) a w [(3,vI ac)] (L) λ_ _=>AA ac∧Cg N ac=some r) ?_ ?_
 ·refine BA (λn1=>λa w=>∃(J:Int) (k:Int),IV B S2 h3 (122,[]) a w [(13,vI (↑b.F.length:Int)),(12,v9),(1,q1),(3,vI J),(14,vI k)] (L) λ_ _=>AA J∧AA k∧CI N b (Cg N) n1 J k=some r) N ?_ ?_ ?_
  ·intro x y d g;exact⟨0,0,_,_,d.sub (kp [13,12,1,3,14] O),g,ck,(CX.refl S2 h3),(iq (n:=0) O),(iq (n:=0) O),E⟩
  ·rintro x y ⟨_,_,_,_,_,_,_,_,_,_,E⟩;rw[CI] at E;cases E
  rintro n1 x y ⟨J,k,ad,cm,d,g,af,a1,a2,cn,E⟩;refine AI ?_ d g;clear d g y x;rw[CI] at E;refine AU ?_;refine AE O E (λco E=>?_) (λco E=>?_)
  ·refine AU ?_;refine AN (λa w=>∃(K:Int),IV B ad cm (122,[]) a w [(13,vI (↑b.F.length:Int)),(12,v9),(1,q1),(14,vI k),(3,vI K)] (L) λ_ _=>AA K∧DH N k (CI N b (Cg N) n1) K=some r) ?_ ?_
   ·refine AU ?_;have cp:=cl.mono' a1;refine AO E O O cp sl_23.1 O λc E d8 cq=>?_;obtain⟨d9,_,cr⟩:=cq.lv;refine AU ?_;refine BZ PH O af λae ea a3 cs=>AU ?_;have ct:=cr.mono cs;obtain⟨a4,ak,am,rfl,eb,cu,cv,cw,cx,a5,cy,cz,c0,c1,c2,c3⟩:=B3.ex ct;refine G1 O O O ON ty_57.1 O a3 .head O λec M a6=>AU ?_;refine WF.rc (.inl O) M (AU ?_);refine BE E O O O Kg O (λa7 a8 h' o=>Ch (St.all h') cu (iq (n:=0) O) (iq (n:=3) O) a8) λa7 E=>AU ?_;obtain⟨a9,l,E⟩:=bd E;refine A0 5 28 (.bool a9) ?_ ?_
    ·cases ba:(!a7)
     ·have l:=HX ba l;refine AU ?_;refine BE l O O O Kg O (λc4 bb h' o=>Ch (St.all h') cv (iq (n:=0) O) (iq (n:=2) O) bb) λc4 l=>AU ?_;cases l;exact AZ O
     have l:=HU ba l;cases l;exact BM O O
    refine AU ?_;obtain⟨bc,m,E⟩:=bd E;refine A0 5 34 (.bool bc) ?_ ?_
    ·cases be:a9
     ·have m:=HX be m;refine AU ?_;refine BE m O O O Kg O (λc5 bf h' o=>Ch (St.all h') c1 (iq (n:=0) O) (iq (n:=240) O) bf) λc5 m=>AU ?_;cases m;exact AZ O
     have m:=HU be m;cases m;exact BM O O
    refine AU ?_;obtain⟨bg,p,E⟩:=bd E;refine A0 5 40 (.bool bg) ?_ ?_
    ·cases bh:bc
     ·have p:=HX bh p;refine AU ?_;refine BE p O O O MW O (λc6 bi h' o=>Cp (St.all h') cw bi) λc6 p=>AU ?_;cases p;exact AZ O
     have p:=HU bh p;cases p;exact BM O O
    refine AU ?_;obtain⟨bj,q,E⟩:=bd E;refine A0 5 46 (.bool bj) ?_ ?_
    ·cases bk:bg
     ·have q:=HX bk q;refine AU ?_;refine BE q O O O MW O (λc7 bl h' o=>Cp (St.all h') c2 bl) λc7 q=>AU ?_;cases q;exact AZ O
     have q:=HU bk q;cases q;exact BM O O
    refine AU ?_;obtain⟨bm,s,E⟩:=bd E;refine A0 5 52 (.bool bm) ?_ ?_
    ·cases bn:bj
     ·have s:=HX bn s;refine AU ?_;have c8:=cx.mono' a6;refine BE s O O O UC O (λc9 bo h' o=>I0 (St.all h') (c8.mono' (o.all M.1)) bo) λc9 s=>AU ?_;cases s;exact AZ O
     have s:=HU bn s;cases s;exact BM O O
    have ed:=a5.mono' a6;have ee:=k6.nw;refine AU ?_;obtain⟨bp,t,E⟩:=bd E;refine A0 7 69 (.bool bp) ?_ ?_
    ·cases bq:(bm||(decide ((↑c.Bc.length:Int)≠(↑b.Z.length:Int))))
     ·have t:=HX bq t;refine AU ?_;refine BE t O O O bV O (λda br h' o=>Ly (St.all h') cy cz br) λda t=>AU ?_;cases t;exact AZ O
     have t:=HU bq t;cases t;exact BM O O
    refine AU ?_;obtain⟨db,u,E⟩:=bd E;refine A0 7 77 (.bool db) ?_ ?_
    ·cases bs:bp
     ·have u:=HX bs u;have dc:=k6.nw;obtain⟨df,_,bt⟩:=dc.lv;refine AU ?_;refine BE u O O O iN O (λbu an h' o=>Od (St.all h') (bt.mono (o.all M.1)) cn c0 an) λbu u=>AU ?_;cases u;exact AZ O
     have u:=HU bs u;cases u;exact BM O O
    refine BB (kp [77,5,13,12,1,3,14] O) λQ ao dg=>AE O E (λbv E=>?_) (λbv E=>?_)
    ·exact RT
    have bw:=a5.nw;refine AU ?_;refine AN (λa w=>∃(z:Int),IV B ad Q (122,[]) a w [(5,vP ae 0),(13,vI (↑b.F.length:Int)),(12,v9),(1,q1),(14,vI k),(3,vI z)] (Bx ae 57 [.string c.O,vI c.I,vI c.Av,vI c.Ah,a4,ak,vI c.W,vI c.R,vI c.Ao,vI c.Y,vI c.Be,am]::L) λ_ _=>AA z∧FO N b c (DH N k (CI N b (Cg N) n1)) z=some r) ?_ ?_
    ·refine BA (λn4=>λa w=>∃(A:Int) (C:Int),IV B ad Q (122,[]) a w [(80,vI (↑c.Bc.length:Int)),(79,ak),(5,vP ae 0),(13,vI (↑b.F.length:Int)),(12,v9),(1,q1),(14,vI k),(3,vI A),(81,vI C)] (Bx ae 57 [.string c.O,vI c.I,vI c.Av,vI c.Ah,a4,ak,vI c.W,vI c.R,vI c.Ao,vI c.Y,vI c.Be,am]::L) λ_ _=>AA A∧AA C∧Dt N c (FO N b c (DH N k (CI N b (Cg N) n1))) n4 A C=some r) N ?_ ?_ ?_
     ·intro x y d g;exact⟨J,0,_,_,d.sub (kp [80,79,5,13,12,1,14,3,81] O),g,ao,(CX.refl ad Q),a2,(iq (n:=0) O),E⟩
     ·rintro x y ⟨_,_,_,_,_,_,_,_,_,_,E⟩;rw[Dt] at E;cases E
     rintro n4 x y ⟨A,C,dh,di,d,g,U,ag,bx,dj,E⟩;refine AI ?_ d g;clear d g y x;rw[Dt] at E;refine AU ?_;refine AE O E (λbz E=>?_) (λbz E=>?_)
     ·refine AU ?_;refine BG (AU ?_);have b0:=bw.mono' ag;refine AO E O O b0 sl_29.1 O λb1 E dk b2=>?_;have b3:=b2.i;refine AU ?_;refine WF.rc (.inl O) U (AU ?_);refine BE E O O O MW O (λb4 ap h' o=>Cp (St.all h') b3 ap) λb4 E=>AU ?_;refine BB (kp [87,7,80,79,5,13,12,1,14,3,81] O) λdl aq dm=>AE O E (λb5 E=>?_) (λb5 E=>?_)
      ·exact RT
      refine AU ?_;refine BP (AU ?_);refine WF.nil (λx y d g=>?_);exact⟨(BV (A+b1)),(BV (C+1)),_,_,d.sub (kp [80,79,5,13,12,1,14,3,81] O),g,aq,EX,(BY _),(BY _),E⟩
     refine WF.exit O (λx y d g=>?_);exact⟨A,_,_,d.sub (kp [5,13,12,1,14,3] O),g,U,ag,bx,E⟩
    rintro x y ⟨z,ah,ai,d,g,ar,dn,b6,E⟩;refine AI ?_ d g;clear d g y x;rw[FO] at E;have b7:=c3.nw;refine AU ?_;refine BG (BA (λn5=>λa w=>∃(D:Int) (G:Int),IV B ah ai (122,[]) a w [(94,vI (↑c.Ba.length:Int)),(93,am),(13,vI (↑b.F.length:Int)),(12,v9),(1,q1),(14,vI k),(3,vI z),(8,vI D),(95,vI G)] (L) λ_ _=>AA D∧AA G∧Dr N b c z (DH N k (CI N b (Cg N) n1)) n5 D G=some r) N ?_ ?_ ?_)
    ·intro x y d g;have au:=ar.drop .head;exact⟨(-1),0,_,_,d.sub (kp [94,93,13,12,1,14,3,8,95] O),g,au,(CX.refl ah ai),(iq (n:=(-1)) O),(iq (n:=0) O),E⟩
    ·rintro x y ⟨_,_,_,_,_,_,_,_,_,_,E⟩;rw[Dr] at E;cases E
    rintro n5 x y ⟨D,G,dp,dq,d,g,V,b8,dr,ds,E⟩;refine AI ?_ d g;clear d g y x;rw[Dr] at E;refine AU ?_;refine AE O E (λb9 E=>?_) (λb9 E=>?_)
    ·refine AU ?_;refine BG (AU ?_);have ca:=b7.mono' b8;refine AO E O O ca sl_55.1 O λX E dt cb=>?_;obtain⟨du,_,cc⟩:=cb.lv;refine AU ?_;refine BZ jH O V λdv dw av cd=>?_;have ce:=cc.mono cd;obtain⟨rfl,⟨cf,cg⟩⟩:=NB.ex ce;refine BI O O O O ty_164.1 O av .head O λdx aw dy=>AU ?_;refine WF.rc (.inl O) aw ?_;have dz:=k6.nw;refine AU ?_;obtain⟨ch,j,E⟩:=bd E;refine A0 5 115 (.bool ch) ?_ ?_
     ·cases aj:((decide (X.Bg≤D))||(decide (b.T≤X.Bg)))
      ·have j:=HX aj j;refine AU ?_;refine BE j O O O MW O (λci ax h' o=>Cp (St.all h') cg ax) λci j=>AU ?_;cases j;exact AZ O
      have j:=HU aj j;cases j;exact BM O O
     refine BB (kp [115,10,94,93,13,12,1,14,3,95] O) λd0 ay d1=>AE O E (λcj E=>?_) (λcj E=>?_)
     ·exact RT
     refine AU ?_;refine BP (AU ?_);refine WF.nil (λx y d g=>?_);have az:=ay.drop .head;exact⟨X.Bg,(BV (G+1)),_,_,d.sub (kp [94,93,13,12,1,14,3,8,95] O),g,az,EX,cf,(BY _),E⟩
    refine M1 O (WF.nil (λx y d g=>?_));exact⟨z,_,_,d.sub (kp [13,12,1,14,3] O),g,V,EX,b6,E⟩
   rintro x y ⟨K,d2,d3,d,g,a0,d4,dd,E⟩;refine AI ?_ d g;clear d g y x;rw[DH] at E;refine AU ?_;refine WF.nil (λx y d g=>?_);exact⟨K,(BV (k+1)),_,_,d.sub (kp [13,12,1,3,14] O),g,a0,EX,dd,(BY _),E⟩
  refine WF.exit O (λx y d g=>?_);exact⟨J,_,_,d.sub (kp [3] O),g,af,a1,a2,E⟩
 rintro x y ⟨ac,d5,d6,d,g,de,d7,ef,E⟩;refine AI ?_ d g;clear d g y x;rw[Cg] at E;exact RT
def PL (W:St S L h) {b:Value}{d:(List A9)}(k:Sl S h CJ b d) {c:Value}{g:(List A9)}(l:Sl S h CJ c g) {r:Bool}(E:Fd N d g=some r):
 CA prog 141 #[b,c] S h (λv S' h'=>v= .bool r∧St S' (L) h'):=by
 refine A8 66 func141 O ntmps141 O λB=>?_;rw[Fd] at E;refine AU ?_;refine WF.rc (.inl O) W (AU ?_);refine BE E O O O UC O (λy1 X h' o=>I0 (St.all h') (k.mono' (o.all W.1)) X) λy1 E=>AU ?_;obtain⟨b4,m,E⟩:=bd E;refine A0 4 20 (.bool b4) ?_ ?_
 ·cases c3:(!y1)
  ·have m:=HX c3 m;refine AU ?_;refine BE m O O O UC O (λy5 Y h' o=>I0 (St.all h') (l.mono' (o.all W.1)) Y) λy5 m=>AU ?_;cases m;exact AZ O
  have m:=HU c3 m;cases m;exact BM O O
 refine BB (kp [20,0,1] O) λZ ab e9=>AE O E (λac E=>?_) (λac E=>?_)
 ·exact RT
 have ad:=k.mono' e9;refine AU ?_;refine AN (λa w=>IV B S Z (66,[]) a w [(0,b),(1,c)] (L) λ_ _=>Dg N d g=some r) ?_ ?_
 ·refine BA (λn1=>λa w=>∃(s:Int),IV B S Z (66,[]) a w [(22,vI (↑d.length:Int)),(21,b),(0,b),(1,c),(23,vI s)] (L) λ_ _=>AA s∧D3 N d g (Dg N d g) n1 s=some r) N ?_ ?_ ?_
  ·intro p q i j;exact⟨0,_,_,i.sub (kp [22,21,0,1,23] O),j,ab,(CX.refl S Z),(iq (n:=0) O),E⟩
  ·rintro p q ⟨_,_,_,_,_,_,_,_,E⟩;rw[D3] at E;cases E
  rintro n1 p q ⟨s,a7,a8,i,j,u,D,a9,E⟩;refine AI ?_ i j;clear i j q p;rw[D3] at E;refine AU ?_;refine AE O E (λae E=>?_) (λae E=>?_)
  ·refine AU ?_;refine BG (AU ?_);have af:=ad.mono' D;refine AO E O O af sl_54.1 O λba E bb ag=>?_;obtain⟨bc,_,ah⟩:=ag.lv;refine AU ?_;refine BZ Xd O u λbe bf F ai=>?_;have aj:=ah.mono ai;obtain⟨rfl,⟨ak,bg⟩⟩:=CJ.ex aj;refine BI O O O O ty_90.1 O F .head O λbh x bi=>AU ?_;refine WF.rc (.inl O) x (AU ?_);have am:=l.nw;refine A5 E O O O XH O (λan G h' o=>M9 (St.all h') (am.mono' (o.all x.1)) ak G) λan E ao=>?_;have bj:=ao;refine AU ?_;refine BB (kp [7,6,22,21,0,1,23] O) λbk H bl=>AU ?_;refine AE O E (λap E=>?_) (λap E=>?_)
   ·exact RT
   refine AU ?_;refine BP (AU ?_);refine WF.nil (λp q i j=>?_);have I:=H.drop .head;exact⟨(BV (s+1)),_,_,i.sub (kp [22,21,0,1,23] O),j,I,EX,(BY _),E⟩
  refine WF.exit O (λp q i j=>?_);exact⟨_,_,i.sub (kp [0,1] O),j,u,D,E⟩
 rintro p q ⟨A,C,i,j,J,bm,E⟩;refine AI ?_ i j;clear i j q p;rw[Dg] at E;have aq:=l.nw;refine AU ?_;refine AN (λa w=>IV B A C (66,[]) a w [] (L) λ_ _=>Gi N=some r) ?_ ?_
 ·refine BA (λn3=>λa w=>∃(t:Int),IV B A C (66,[]) a w [(40,vI (↑g.length:Int)),(39,c),(0,b),(41,vI t)] (L) λ_ _=>AA t∧EL N d g (Gi N) n3 t=some r) N ?_ ?_ ?_
  ·intro p q i j;exact⟨0,_,_,i.sub (kp [40,39,0,41] O),j,J,(CX.refl A C),(iq (n:=0) O),E⟩
  ·rintro p q ⟨_,_,_,_,_,_,_,_,E⟩;rw[EL] at E;cases E
  rintro n3 p q ⟨t,bn,bo,i,j,y,K,bp,E⟩;refine AI ?_ i j;clear i j q p;rw[EL] at E;refine AU ?_;refine AE O E (λar E=>?_) (λar E=>?_)
  ·refine AU ?_;refine BG (AU ?_);have au:=aq.mono' K;refine AO E O O au sl_54.1 O λbq E br av=>?_;obtain⟨bs,_,aw⟩:=av.lv;refine AU ?_;refine BZ Xd O y λbt bu M ax=>?_;have ay:=aw.mono ax;obtain⟨rfl,⟨az,bv⟩⟩:=CJ.ex ay;refine BI O O O O ty_90.1 O M .head O λbw z bx=>AU ?_;refine WF.rc (.inl O) z (AU ?_);have a0:=k.nw;refine A5 E O O O XH O (λa1 Q h' o=>M9 (St.all h') (a0.mono' (o.all z.1)) az Q) λa1 E a2=>?_;have bz:=a2;refine AU ?_;refine BB (kp [12,11,10,40,39,0,41] O) λb0 U b1=>AU ?_;refine AE O E (λa3 E=>?_) (λa3 E=>?_)
   ·exact RT
   refine AU ?_;refine BP (AU ?_);refine WF.nil (λp q i j=>?_);have V:=U.drop .head;exact⟨(BV (t+1)),_,_,i.sub (kp [40,39,0,41] O),j,V,EX,(BY _),E⟩
  refine WF.exit O (λp q i j=>?_);exact⟨_,_,i.sub PJ,j,y,K,E⟩
 rintro p q ⟨b2,a5,i,j,a4,a6,E⟩;refine AI ?_ i j;clear i j q p;rw[Gi] at E;exact RT
def Pp (hs:St S L h) {H:Value}{D:AS}(W:Rd S h BL H D) {r:Bool}(E:Gz N D=some r):
 CA prog 93 #[H] S h (λv S' h'=>v= .bool r∧St S' (L) h'):=by
 refine A8 152 func93 O ntmps93 O λB=>?_;rw[Gz] at E;refine AU ?_;refine A6 O W CE O hs λq1 S2 h3 C e5 G=>AU ?_;refine BG (AU ?_);refine AE O E (λc7 E=>?_) (λc7 E=>?_)
 ·refine AU ?_;refine WF.rc (.inl O) C ?_;have c8:=G.fl NQ;obtain⟨eu,_,c9⟩:=c8.ll;refine AU ?_;refine BE E O O O UC O (λa5 a6 h' o=>I0 (St.all h') (c9.mono' (o.all C.1)) a6) λa5 E=>AU ?_;obtain⟨a7,q,E⟩:=bd E;refine A0 5 15 (.bool a7) ?_ ?_
  ·cases a8:a5
   ·have q:=HX a8 q;cases q;exact BM O O
   have q:=HU a8 q;have da:=G.fl JU;have db:=da.fl M2.f_Lo;obtain⟨ev,_,dc⟩:=db.ll;refine AU ?_;refine BE q O O O UC O (λdd a9 h' o=>I0 (St.all h') (dc.mono' (o.all C.1)) a9) λdd q=>AU ?_;cases q;exact AZ O
  refine AU ?_;obtain⟨ba,s,E⟩:=bd E;refine A0 5 21 (.bool ba) ?_ ?_
  ·cases bb:a7
   ·have s:=HX bb s;cases s;exact BM O O
   have s:=HU bb s;have de:=G.fl JU;have df:=de.fl M2.f_Hi;obtain⟨ew,_,dg⟩:=df.ll;refine AU ?_;refine BE s O O O UC O (λdh bc h' o=>I0 (St.all h') (dg.mono' (o.all C.1)) bc) λdh s=>AU ?_;cases s;exact AZ O
  refine AU ?_;obtain⟨be,t,E⟩:=bd E;refine A0 7 29 (.bool be) ?_ ?_
  ·cases bf:ba
   ·have t:=HX bf t;cases t;exact BM O O
   have t:=HU bf t;have di:=G.fl JU;have dj:=di.fl M2.f_Lo;obtain⟨ex,_,dk⟩:=dj.ll;have dl:=G.fl NQ;obtain⟨ey,_,dm⟩:=dl.ll;refine AU ?_;refine BE t O O O cR O (λdn bg h' o=>PL (St.all h') (dk.mono' (o.all C.1)) (dm.mono' (o.all C.1)) bg) λdn t=>AU ?_;cases t;exact AZ O
  refine AU ?_;obtain⟨bh,u,E⟩:=bd E;refine A0 7 37 (.bool bh) ?_ ?_
  ·cases bi:be
   ·have u:=HX bi u;cases u;exact BM O O
   have u:=HU bi u;have dp:=G.fl NQ;obtain⟨ez,_,dq⟩:=dp.ll;have dr:=G.fl JU;have ds:=dr.fl M2.f_Hi;obtain⟨e0,_,dt⟩:=ds.ll;refine AU ?_;refine BE u O O O cR O (λdu bj h' o=>PL (St.all h') (dq.mono' (o.all C.1)) (dt.mono' (o.all C.1)) bj) λdu u=>AU ?_;cases u;exact AZ O
  refine AU ?_;obtain⟨bk,x,E⟩:=bd E;refine A0 4 42 (.bool bk) ?_ ?_
  ·cases bl:bh
   ·have x:=HX bl x;cases x;exact BM O O
   have x:=HU bl x;have dv:=G.fl Co;have dw:=dv.i;refine AU ?_;refine BE x O O O Kg O (λdx bm h' o=>Ch (St.all h') dw (iq (n:=0) O) (iq (n:=64) O) bm) λdx x=>AU ?_;cases x;exact AZ O
  refine AU ?_;obtain⟨bn,y,E⟩:=bd E;refine A0 6 49 (.bool bn) ?_ ?_
  ·cases bo:bk
   ·have y:=HX bo y;cases y;exact BM O O
   have y:=HU bo y;have dy:=G.fl HI;have dz:=dy.i;have d0:=G.fl Co;have d1:=d0.i;refine AU ?_;refine BE y O O O Kg O (λd2 bp h' o=>Ch (St.all h') dz (iq (n:=0) O) d1 bp) λd2 y=>AU ?_;cases y;exact AZ O
  refine AU ?_;obtain⟨bq,z,E⟩:=bd E;refine A0 4 54 (.bool bq) ?_ ?_
  ·cases br:bn
   ·have z:=HX br z;cases z;exact BM O O
   have z:=HU br z;have d3:=G.fl NR;have d4:=d3.i;refine AU ?_;refine BE z O O O MW O (λd5 bs h' o=>Cp (St.all h') d4 bs) λd5 z=>AU ?_;cases z;exact AZ O
  refine AU ?_;obtain⟨d6,A,E⟩:=bd E;refine A0 6 61 (.bool d6) ?_ ?_
  ·cases bt:bq
   ·have A:=HX bt A;cases A;exact BM O O
   have A:=HU bt A;have d7:=G.fl JA;have d8:=d7.i;have d9:=G.fl JB;have ea:=d9.i;refine AU ?_;refine BE A O O O bV O (λeb bu h' o=>Ly (St.all h') d8 ea bu) λeb A=>AU ?_;cases A;exact AZ O
  refine AU ?_;exact BB (kp [2] O) λeh ec ei=>RT
 refine AU ?_;refine F2 (λa w=>∃(U:Bool),IV B S2 h3 (152,[]) a w [(4,vI D.I),(1,q1),(72,.bool U)] (L) λ_ _=>ES N D U=some r) ?_ ?_
 ·refine AE O E (λbv E=>?_) (λbv E=>?_)
  ·refine AU ?_;refine WF.nil (λaa ww hf hw=>?_);exact⟨(decide (D.I=1)),_,_,hf.sub (kp [4,1,72] O),hw,C,(CX.refl S2 h3),E⟩
  refine AU ?_;refine WF.nil (λaa ww hf hw=>?_);exact⟨(decide (D.I=5)),_,_,hf.sub (kp [4,1,72] O),hw,C,(CX.refl S2 h3),E⟩
 rintro aa ww ⟨U,ej,ek,hf,hw,F,J,E⟩;refine AI ?_ hf hw;clear hf hw ww aa;rw[ES] at E;refine AE O E (λbw E=>?_) (λbw E=>?_)
 ·refine AU ?_;refine WF.rc (.inl O) F ?_;have V:=G.mono J;have bx:=V.fl AS.f_Crest;have bz:=bx.i;refine AU ?_;refine BE E O O O MW O (λX aq h' o=>Cp (St.all h') bz aq) λX E=>AU ?_;obtain⟨Y,b,E⟩:=bd E;refine A0 4 82 (.bool Y) ?_ ?_
  ·cases Z:X
   ·have b:=HX Z b;cases b;exact BM O O
   have b:=HU Z b;have b0:=V.fl AS.f_Num;have b1:=b0.i;refine AU ?_;refine BE b O O O MW O (λb2 ar h' o=>Cp (St.all h') b1 ar) λb2 b=>AU ?_;cases b;exact AZ O
  refine AU ?_;obtain⟨b3,c,E⟩:=bd E;refine A0 4 87 (.bool b3) ?_ ?_
  ·cases ab:Y
   ·have c:=HX ab c;cases c;exact BM O O
   have c:=HU ab c;have b4:=V.fl AS.f_Den;have b5:=b4.i;refine AU ?_;refine BE c O O O Kg O (λb6 au h' o=>Ch (St.all h') b5 (iq (n:=1) O) (iq (n:=1125899906842624) O) au) λb6 c=>AU ?_;cases c;exact AZ O
  refine AU ?_;exact BB (kp [2] O) λel ed em=>RT
 refine AU ?_;refine AE O E (λb7 E=>?_) (λb7 E=>?_)
 ·refine AU ?_;refine WF.rc (.inl O) F ?_;have K:=G.mono J;have b8:=K.fl AS.f_Num;have b9:=b8.i;refine AU ?_;refine BE E O O O MW O (λac av h' o=>Cp (St.all h') b9 av) λac E=>AU ?_;obtain⟨ad,d,E⟩:=bd E;refine A0 4 97 (.bool ad) ?_ ?_
  ·cases ae:ac
   ·have d:=HX ae d;cases d;exact BM O O
   have d:=HU ae d;have ca:=K.fl Co;have cb:=ca.i;refine AU ?_;refine BE d O O O Kg O (λcc aw h' o=>Ch (St.all h') cb (iq (n:=1) O) (iq (n:=64) O) aw) λcc d=>AU ?_;cases d;exact AZ O
  refine AU ?_;obtain⟨cd,g,E⟩:=bd E;refine A0 6 104 (.bool cd) ?_ ?_
  ·cases af:ad
   ·have g:=HX af g;cases g;exact BM O O
   have g:=HU af g;have ce:=K.fl HI;have cf:=ce.i;have cg:=K.fl Co;have ch:=cg.i;refine AU ?_;refine BE g O O O Kg O (λci ax h' o=>Ch (St.all h') cf (iq (n:=0) O) ch ax) λci g=>AU ?_;cases g;exact AZ O
  refine AU ?_;exact BB (kp [2] O) λen ee eo=>RT
 refine AU ?_;refine AE O E (λcj E=>?_) (λcj E=>?_)
 ·refine AU ?_;refine WF.rc (.inl O) F ?_;have M:=G.mono J;have ck:=M.fl AS.f_Num;have cl:=ck.i;refine AU ?_;refine BE E O O O MW O (λag ay h' o=>Cp (St.all h') cl ay) λag E=>AU ?_;obtain⟨ah,j,E⟩:=bd E;refine A0 4 114 (.bool ah) ?_ ?_
  ·cases ai:ag
   ·have j:=HX ai j;cases j;exact BM O O
   have j:=HU ai j;have cm:=M.fl AS.f_Den;have cn:=cm.i;refine AU ?_;refine BE j O O O Kg O (λco az h' o=>Ch (St.all h') cn (iq (n:=1) O) (iq (n:=1125899906842624) O) az) λco j=>AU ?_;cases j;exact AZ O
  refine AU ?_;obtain⟨aj,k,E⟩:=bd E;refine A0 4 119 (.bool aj) ?_ ?_
  ·cases ak:ah
   ·have k:=HX ak k;cases k;exact BM O O
   have k:=HU ak k;have cp:=M.fl Lo;have cq:=cp.i;refine AU ?_;refine BE k O O O MW O (λcr a0 h' o=>Cp (St.all h') cq a0) λcr k=>AU ?_;cases k;exact AZ O
  refine AU ?_;obtain⟨cs,l,E⟩:=bd E;refine A0 4 124 (.bool cs) ?_ ?_
  ·cases al:aj
   ·have l:=HX al l;cases l;exact BM O O
   have l:=HU al l;have ct:=M.fl KO;have cu:=ct.i;refine AU ?_;refine BE l O O O MW O (λcv a1 h' o=>Cp (St.all h') cu a1) λcv l=>AU ?_;cases l;exact AZ O
  refine AU ?_;exact BB (kp [2] O) λep ef eq=>RT
 refine AU ?_;refine BP (AU ?_);refine WF.rc (.inl O) F ?_;have Q:=G.mono J;have cw:=Q.fl AS.f_Num;have cx:=cw.i;refine AU ?_;refine BE E O O O MW O (λam a2 h' o=>Cp (St.all h') cx a2) λam E=>AU ?_;obtain⟨an,m,E⟩:=bd E;refine A0 4 139 (.bool an) ?_ ?_
 ·cases ao:am
  ·have m:=HX ao m;cases m;exact BM O O
  have m:=HU ao m;have cy:=Q.fl AS.f_Den;have cz:=cy.i;refine AU ?_;refine BE m O O O Kg O (λc0 a3 h' o=>Ch (St.all h') cz (iq (n:=1) O) (iq (n:=1125899906842624) O) a3) λc0 m=>AU ?_;cases m;exact AZ O
 refine AU ?_;obtain⟨c1,p,E⟩:=bd E;refine A0 6 146 (.bool c1) ?_ ?_
 ·cases ap:an
  ·have p:=HX ap p;cases p;exact BM O O
  have p:=HU ap p;have c2:=Q.fl JA;have c3:=c2.i;have c4:=Q.fl JB;have c5:=c4.i;refine AU ?_;refine BE p O O O bV O (λc6 a4 h' o=>Ly (St.all h') c3 c5 a4) λc6 p=>AU ?_;cases p;exact AZ O
 refine AU ?_;exact BB (kp [2] O) λer eg es=>RT
def Pk (l:St S L h) {a:Value}{c:AS}(b:Rd S h BL a c) {r:Bool}(E:Gy N c=some r):
 CA prog 94 #[a] S h (λv m h'=>v= .bool r∧St m (L) h'):=by
 refine A8 112 func94 O ntmps94 O λB=>?_;rw[Gy] at E;refine AU ?_;refine A6 O b CE O l λo p q n s t=>AU ?_;refine AE O E (λd E=>?_) (λd E=>?_)
 ·exact RT
 refine AU ?_;refine AE O E (λg E=>?_) (λg E=>?_)
 ·exact RT
 refine AU ?_;refine AE O E (λi E=>?_) (λi E=>?_)
 ·exact RT
 refine AU ?_;refine AE O E (λj E=>?_) (λj E=>?_)
 ·exact RT
 refine AU ?_;refine AE O E (λk E=>?_) (λk E=>?_)
 ·exact RT
 exact RT
def QR (hs:St S L h) {k:Value}{l:AH}(t:Rd S h B5 k l) {r:Bool}(E:GY N l=some r):
 CA prog 39 #[k] S h (λv S' h'=>v= .bool r∧St S' (L) h'):=by
 refine A8 51 func39 O ntmps39 O λB=>?_;rw[GY] at E;refine AU ?_;refine A6 O t CE O hs λq1 S2 h3 a1 e5 k6=>?_;have k8:=k6.fl AH.f_Links;obtain⟨v9,_,a2⟩:=k8.ll;refine AU ?_;refine AN (λa w=>IV B S2 h3 (51,[]) a w [] (L) λ_ _=>EC N=some r) ?_ ?_
 ·refine BA (λn1=>λa w=>∃(p:Int),IV B S2 h3 (51,[]) a w [(7,vI (↑l.D.length:Int)),(6,v9),(1,q1),(8,vI p)] (L) λ_ _=>AA p∧DB N l (EC N) n1 p=some r) N ?_ ?_ ?_
  ·intro z A q s;exact⟨0,_,_,q.sub (kp [7,6,1,8] O),s,a1,(CX.refl S2 h3),(iq (n:=0) O),E⟩
  ·rintro z A ⟨_,_,_,_,_,_,_,_,E⟩;rw[DB] at E;cases E
  rintro n1 z A ⟨p,bv,bw,q,s,y,I,bx,E⟩;refine AI ?_ q s;clear q s A z;rw[DB] at E;refine AU ?_;refine AE O E (λa3 E=>?_) (λa3 E=>?_)
  ·refine AU ?_;refine BG (AU ?_);have a4:=a2.mono' I;refine AO E O O a4 sl_24.1 O λJ E bz a5=>?_;obtain⟨b0,_,a6⟩:=a5.lv;refine AU ?_;refine BZ NW O y λb1 b2 K a7=>?_;have a8:=a6.mono a7;obtain⟨b3,b4,b5,rfl,M,C,u,F,Q,U,V,W,X,Y,Z,ab,ac,ad,ae,af,ag,G⟩:=BL.ex a8;refine G1 O O O ON ty_102.1 O K .head O λb6 b m=>AU ?_;refine WF.rc (.inl O) b (AU ?_);refine BE E O O O Kg O (λah ai h' o=>Ch (St.all h') C (iq (n:=0) O) (iq (n:=5) O) ai) λah E=>AU ?_;obtain⟨aj,c,E⟩:=bd E;refine A0 8 24 (.bool aj) ?_ ?_
   ·cases ak:(!ah)
    ·have c:=HX ak c;have a9:=k6.nw;have ba:=a9.fl CS;obtain⟨b7,_,bb⟩:=ba.ll;have bc:=bb.le;refine AU ?_;refine BE c O O O UB O (λbe am h' o=>I9 (St.all h') u (MB bc) am) λbe c=>AU ?_;cases c;exact AZ O
    have c:=HU ak c;cases c;exact BM O O
   refine AU ?_;obtain⟨an,d,E⟩:=bd E;refine A0 8 33 (.bool an) ?_ ?_
   ·cases ao:aj
    ·have d:=HX ao d;have bf:=k6.nw;obtain⟨b8,_,bg⟩:=bf.lv;refine AU ?_;refine BE d O O O iN O (λbh ap h' o=>Od (St.all h') (bg.mono (o.all b.1)) u F ap) λbh d=>AU ?_;cases d;exact AZ O
    have d:=HU ao d;cases d;exact BM O O
   refine AU ?_;obtain⟨aq,g,E⟩:=bd E;refine A0 5 39 (.bool aq) ?_ ?_
   ·cases ar:an
    ·have g:=HX ar g;refine AU ?_;refine BE g O O O Kg O (λbi au h' o=>Ch (St.all h') G (iq (n:=0) O) (iq (n:=240) O) au) λbi g=>AU ?_;cases g;exact AZ O
    have g:=HU ar g;cases g;exact BM O O
   refine AU ?_;obtain⟨av,i,E⟩:=bd E;refine A0 4 44 (.bool av) ?_ ?_
   ·cases aw:aq
    ·have i:=HX aw i;refine AU ?_;have bj:=Q.mono' m;have bk:=U.mono' m;have bl:=V.mono' m;obtain⟨b9,ax,i⟩:=bd i;refine KN O O O rX O (λh' o=>Pp (St.all h') (BL.mk (x:=J) M C u F (bj.mono' (o.all b.1)) (bk.mono' (o.all b.1)) (bl.mono' (o.all b.1)) W X Y Z ab ac ad ae af ag G) ax) (AU ?_);cases i;exact AZ O
    have i:=HU aw i;cases i;exact BM O O
   refine AU ?_;obtain⟨bm,j,E⟩:=bd E;refine A0 4 49 (.bool bm) ?_ ?_
   ·cases ay:av
    ·have j:=HX ay j;refine AU ?_;have bn:=Q.mono' m;have bo:=U.mono' m;have bp:=V.mono' m;obtain⟨ca,az,j⟩:=bd j;refine KN O O O rW O (λh' o=>Pk (St.all h') (BL.mk (x:=J) M C u F (bn.mono' (o.all b.1)) (bo.mono' (o.all b.1)) (bp.mono' (o.all b.1)) W X Y Z ab ac ad ae af ag G) az) (AU ?_);cases j;exact AZ O
    have j:=HU ay j;cases j;exact BM O O
   refine BB (kp [49,7,6,1,8] O) λcb a0 cc=>AE O E (λbq E=>?_) (λbq E=>?_)
   ·exact RT
   refine AU ?_;refine BP (AU ?_);refine WF.nil (λz A q s=>?_);have H:=a0.drop .head;exact⟨(BV (p+1)),_,_,q.sub (kp [7,6,1,8] O),s,H,EX,(BY _),E⟩
  refine WF.exit O (λz A q s=>?_);exact⟨_,_,q.sub PJ,s,y,I,E⟩
 rintro z A ⟨bs,bt,q,s,br,bu,E⟩;refine AI ?_ q s;clear q s A z;rw[EC] at E;exact RT
def QS (l:St S L h) {c:Value}{i:AH}(d:Rd S h B5 c i) {a:Int}(g:AA a) {b:Int}(j:AA b) {r:Bool}(E:LT N i a b=some r):
 CA prog 95 #[c,vI a,vI b] S h (λv m h'=>v= .bool r∧St m (L) h'):=by
 refine A8 27 func95 O ntmps95 O λB=>?_;rw[LT] at E;refine AU ?_;refine A6 O d CE O l λx y z n A o=>AU ?_;refine AE O E (λp E=>?_) (λp E=>?_)
 ·exact RT
 have q:=o.fl CS;obtain⟨s,_,k⟩:=q.ll;refine AU ?_;exact AO E O O k sl_23.1 O λt E u w=>RT
def O6 (hs:St S L h) {m:Value}{d:AH}(u:Rd S h B5 m d) {r:Bool}(E:In N d=some r):
 CA prog 40 #[m] S h (λv S' h'=>v= .bool r∧St S' (L) h'):=by
 refine A8 60 func40 O ntmps40 O λB=>?_;rw[In] at E;refine AU ?_;refine A6 O u CE O hs λq1 S2 h3 aq e5 k6=>?_;have k8:=k6.fl CS;obtain⟨v9,_,ar⟩:=k8.ll;refine AU ?_;refine AN (λa w=>IV B S2 h3 (60,[]) a w [(1,q1)] (L) λ_ _=>EH N d=some r) ?_ ?_
 ·refine BA (λn1=>λa w=>∃(p:Int),IV B S2 h3 (60,[]) a w [(10,vI (↑d.F.length:Int)),(9,v9),(1,q1),(11,vI p)] (L) λ_ _=>AA p∧EG N d (EH N d) n1 p=some r) N ?_ ?_ ?_
  ·intro k l g j;exact⟨0,_,_,g.sub (kp [10,9,1,11] O),j,aq,(CX.refl S2 h3),(iq (n:=0) O),E⟩
  ·rintro k l ⟨_,_,_,_,_,_,_,_,E⟩;rw[EG] at E;cases E
  rintro n1 k l ⟨p,ch,ci,g,j,x,U,cj,E⟩;refine AI ?_ g j;clear g j l k;rw[EG] at E;refine AU ?_;refine AE O E (λau E=>?_) (λau E=>?_)
  ·refine AU ?_;refine BG (AU ?_);have av:=ar.mono' U;refine AO E O O av sl_23.1 O λck E cl aw=>?_;obtain⟨cm,_,ax⟩:=aw.lv;refine AU ?_;refine BZ PH O x λcn co V ay=>?_;have az:=ax.mono ay;obtain⟨cp,cq,cr,rfl,cs,ct,a0,cu,cv,cw,cx,cy,a1,cz,c0,c1⟩:=B3.ex az;refine G1 O O O ON ty_57.1 O V .head O λc2 y c3=>AU ?_;refine WF.rc (.inl O) y ?_;have a2:=k6.nw;obtain⟨c4,_,a3⟩:=a2.lv;refine AU ?_;refine BE E O O O iM O (λa4 W h' o=>QS (St.all h') (a3.mono (o.all y.1)) a0 a1 W) λa4 E=>AU ?_;refine BB (kp [21,10,9,1,11] O) λc5 X c6=>AE O E (λa5 E=>?_) (λa5 E=>?_)
   ·exact RT
   refine AU ?_;refine BP (AU ?_);refine WF.nil (λk l g j=>?_);have Y:=X.drop .head;exact⟨(BV (p+1)),_,_,g.sub (kp [10,9,1,11] O),j,Y,EX,(BY _),E⟩
  refine WF.exit O (λk l g j=>?_);exact⟨_,_,g.sub (kp [1] O),j,x,U,E⟩
 rintro k l ⟨H,J,g,j,Z,a6,E⟩;refine AI ?_ g j;clear g j l k;rw[EH] at E;have ab:=k6.mono a6;have a7:=ab.fl AH.f_Links;obtain⟨a8,_,a9⟩:=a7.ll;refine AU ?_;refine AN (λa w=>IV B H J (60,[]) a w [] (L) λ_ _=>GL N=some r) ?_ ?_
 ·refine BA (λn3=>λa w=>∃(q:Int),IV B H J (60,[]) a w [(25,vI (↑d.D.length:Int)),(24,a8),(1,q1),(26,vI q)] (L) λ_ _=>AA q∧EF N d (GL N) n3 q=some r) N ?_ ?_ ?_
  ·intro k l g j;exact⟨0,_,_,g.sub (kp [25,24,1,26] O),j,Z,(CX.refl H J),(iq (n:=0) O),E⟩
  ·rintro k l ⟨_,_,_,_,_,_,_,_,E⟩;rw[EF] at E;cases E
  rintro n3 k l ⟨q,c7,c8,g,j,z,ac,c9,E⟩;refine AI ?_ g j;clear g j l k;rw[EF] at E;refine AU ?_;refine AE O E (λba E=>?_) (λba E=>?_)
  ·refine AU ?_;refine BG (AU ?_);have bb:=a9.mono' ac;refine AO E O O bb sl_24.1 O λbc E da be=>?_;obtain⟨db,_,bf⟩:=be.lv;refine AU ?_;refine BZ NW O z λdc dd ad bg=>?_;have bh:=bf.mono bg;obtain⟨bk,bl,bm,rfl,de,df,dg,bi,bn,bo,bp,bq,br,bs,bt,bu,bv,bw,bx,bz,b0,b1⟩:=BL.ex bh;refine G1 O O O ON ty_102.1 O ad .head O λb2 s b3=>?_;have t:=ab.nw;have ae:=t.fl CS;obtain⟨b4,_,af⟩:=ae.ll;refine AU ?_;refine AO E O O af sl_23.1 O λb5 E b6 ag=>?_;have ah:=ag.fl PU;have ai:=ah.i;refine AU ?_;refine WF.rc (.inl O) s ?_;obtain⟨b7,_,aj⟩:=t.lv;refine AU ?_;refine BE E O O O iM O (λA K h' o=>QS (St.all h') (aj.mono (o.all s.1)) ai bi K) λA E=>AU ?_;obtain⟨ak,b,E⟩:=bd E;refine A0 15 58 (.bool ak) ?_ ?_
   ·cases C:(!A)
    ·have b:=HX C b;refine AU ?_;obtain⟨am,c,b⟩:=bd b;refine A0 10 57 (.bool am) ?_ ?_
     ·cases G:(decide (bc.I=4))
      ·have c:=HX G c;cases c;exact BM O O
      have c:=HU G c;have an:=t.fl CS;obtain⟨b8,_,ao⟩:=an.ll;refine AU ?_;refine AO c O O ao sl_23.1 O λb9 c ca cb=>AU ?_;cases c;exact AZ O
     refine AU ?_;cases b;exact AZ O
    have b:=HU C b;cases b;exact BM O O
   refine BB (kp [58,25,24,1,26] O) λcc M cd=>AE O E (λap E=>?_) (λap E=>?_)
   ·exact RT
   refine AU ?_;refine BP (AU ?_);refine WF.nil (λk l g j=>?_);have Q:=M.drop .head;exact⟨(BV (q+1)),_,_,g.sub (kp [25,24,1,26] O),j,Q,EX,(BY _),E⟩
  refine WF.exit O (λk l g j=>?_);exact⟨_,_,g.sub PJ,j,z,ac,E⟩
 rintro k l ⟨ce,cf,g,j,bj,cg,E⟩;refine AI ?_ g j;clear g j l k;rw[GL] at E;exact RT
def J4 (F:St S L h) {b:Int}(k:AA b) {c:Int}(l:AA c) {r:Int}(E:Er N b c=some r):
 CA prog 96 #[vI b,vI c] S h (λv G h'=>v=vI r∧AA r∧St G (L) h'):=by
 refine A8 34 func96 O ntmps96 O λB=>?_;rw[Er] at E;refine AU ?_;refine AE O E (λH E=>?_) (λH E=>?_)
 ·exact RT
 refine AU ?_;refine AE O E (λI E=>?_) (λI E=>?_)
 ·exact RT
 refine AU ?_;refine WF.rc (.inl O) F (AU ?_);refine JM O RM N8 O ?_;obtain⟨s,t,E⟩:=bd E;refine IQ (v:= .tuple #[.int .u64 s.1,.int .u64 s.2]) (Ψ:=IntKind.has .u64 s.1∧IntKind.has .u64 s.2) O O O cQ O (λh' o=>(NF (St.all h') (F5 _ _) (show IntKind.has .u64 1099511627776 by first|assumption|exact⟨by decide,by decide⟩) t).mono λ_ _ _ _ p=>⟨p.1,⟨p.2.1,p.2.2.1⟩⟩) λJ=>?_;obtain⟨K,M⟩:=J;refine AU ?_;refine BB (kp [6,5,1] O) λZ u e9=>AU ?_;refine WF.rc (.inl O) u (AU ?_);refine JM O RM N8 O ?_;obtain⟨d,q,E⟩:=bd E;refine IQ (v:= .tuple #[.int .u64 d.1,.int .u64 d.2]) (Ψ:=IntKind.has .u64 d.1∧IntKind.has .u64 d.2) O O O cP O (λh' o=>(NG (St.all h') K M (F5 _ _) q).mono λ_ _ _ _ p=>⟨p.1,⟨p.2.1,p.2.2.1⟩⟩) λx=>?_;obtain⟨y,Q⟩:=x;refine AU ?_;refine BB (kp [8,7] O) λj i U=>AU ?_;refine F2 (λa w=>∃(g:Int),IV B S j (34,[]) a w [(7,.int .u64 g)] (L) λ_ _=>IntKind.has .u64 g∧Je N g=some r) ?_ ?_
 ·refine AE O E (λz E=>?_) (λz E=>?_)
  ·refine AU ?_;refine WF.nil (λA C m n=>?_);exact⟨(IntKind.wrap .u64 (d.1+1)),_,_,m.sub (kp [7] O),n,i,(CX.refl S j),(F5 _ _),E⟩
  refine AU ?_;refine WF.nil (λA C m n=>?_);exact⟨d.1,_,_,m.sub (kp [7] O),n,i,(CX.refl S j),y,E⟩
 rintro A C ⟨g,V,W,m,n,D,X,Y,E⟩;refine AI ?_ m n;clear m n C A;rw[Je] at E;refine AU ?_;exact JM O N8 RM O (RT)
def Rc (hs:St S L h) {c:Value}{b:(List (List A9))}(i:Sl S h (BX.sl CJ) c b) {r:Int}(E:Gl N b=some r):
 CA prog 97 #[c] S h (λv S' h'=>v=vI r∧AA r∧St S' (L) h'):=by
 refine A8 48 func97 O ntmps97 O λB=>?_;rw[Gl] at E;refine AU ?_;refine AN (λa w=>∃(J:Int),IV B S h (48,[]) a w [(3,vI J)] (L) λ_ _=>AA J∧Cm N J=some r) ?_ ?_
 ·refine BA (λK=>λa w=>∃(A:Int) (j:Int),IV B S h (48,[]) a w [(8,vI (↑b.length:Int)),(7,c),(3,vI A),(9,vI j)] (L) λ_ _=>AA A∧AA j∧CL N b (Cm N) K A j=some r) N ?_ ?_ ?_
  ·intro k l d g;exact⟨0,0,_,_,d.sub (kp [8,7,3,9] O),g,hs,(CX.refl S h),(iq (n:=0) O),(iq (n:=0) O),E⟩
  ·rintro k l ⟨_,_,_,_,_,_,_,_,_,_,E⟩;rw[CL] at E;cases E
  rintro K k l ⟨A,j,y,z,d,g,u,C,r9,ah,E⟩;refine AI ?_ d g;clear d g l k;rw[CL] at E;refine AU ?_;refine AE O E (λM E=>?_) (λM E=>?_)
  ·refine AU ?_;refine AN (λa w=>∃(q:Int),IV B y z (48,[]) a w [(8,vI (↑b.length:Int)),(7,c),(9,vI j),(3,vI q)] (L) λ_ _=>AA q∧DL N j (CL N b (Cm N) K) q=some r) ?_ ?_
   ·refine AU ?_;have Q:=i.mono' C;refine AO E O O Q sl_217.1 O λU E ai V=>?_;obtain⟨W,_,s⟩:=V.ll;refine AU ?_;refine BG (BA (λn3=>λa w=>∃(m:Int) (t:Int),IV B y z (48,[]) a w [(5,W),(8,vI (↑b.length:Int)),(7,c),(9,vI j),(3,vI m),(6,vI t)] (L) λ_ _=>AA m∧AA t∧Ck N U (DL N j (CL N b (Cm N) K)) n3 m t=some r) N ?_ ?_ ?_)
    ·intro k l d g;exact⟨A,1,_,_,d.sub (kp [5,8,7,9,3,6] O),g,u,(CX.refl y z),r9,(iq (n:=1) O),E⟩
    ·rintro k l ⟨_,_,_,_,_,_,_,_,_,_,E⟩;rw[Ck] at E;cases E
    rintro n3 k l ⟨m,t,aj,ak,d,g,x,p,D,al,E⟩;refine AI ?_ d g;clear d g l k;rw[Ck] at E;have am:=s.mono' p;refine AU ?_;refine AE O E (λX E=>?_) (λX E=>?_)
    ·refine AU ?_;refine BG (WF.rc (.inr ⟨mo,by kernel_rfl⟩) x (AU ?_));have Y:=s.mono' p;refine AO E O O Y sl_54.1 O λan E ao ap=>AU ?_;have Z:=s.mono' p;refine AO E O O Z sl_54.1 O λaq E ar au=>AU ?_;have ab:=s.mono' p;refine AO E O O ab sl_54.1 O λav E aw ax=>AU ?_;have ac:=s.mono' p;refine AO E O O ac sl_54.1 O λay E az a0=>AU ?_;refine A5 E O O O U2 O (λF G h' o=>J4 (St.all h') (BY _) (BY _) G) λF E ad=>?_;have ae:=ad;refine Lc O O O (AU ?_);refine BB (kp [3,5,8,7,9,6] O) λa1 H a2=>BP (AU ?_);refine WF.nil (λk l d g=>?_);exact⟨(max m F),(BV (t+1)),_,_,d.sub (kp [5,8,7,9,3,6] O),g,H,EX,(Iq D ae),(BY _),E⟩
    refine M1 O (WF.nil (λk l d g=>?_));exact⟨m,_,_,d.sub (kp [8,7,9,3] O),g,x,p,D,E⟩
   rintro k l ⟨q,a3,a4,d,g,I,a5,af,E⟩;refine AI ?_ d g;clear d g l k;rw[DL] at E;refine AU ?_;refine WF.nil (λk l d g=>?_);exact⟨q,(BV (j+1)),_,_,d.sub (kp [8,7,3,9] O),g,I,EX,af,(BY _),E⟩
  refine WF.exit O (λk l d g=>?_);exact⟨A,_,_,d.sub (kp [3] O),g,u,C,r9,E⟩
 rintro k l ⟨J,a6,a7,d,g,ag,a8,r3,E⟩;refine AI ?_ d g;clear d g l k;rw[Cm] at E;exact RT
end Go.Proofs.YtibidnaedddfdaaGreat
