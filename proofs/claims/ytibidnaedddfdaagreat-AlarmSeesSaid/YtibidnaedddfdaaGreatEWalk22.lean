import Derived.Test.YtibidnaedddfdaaGreatEFacts
import Derived.Test.YtibidnaedddfdaaGreatEForms
import Derived.Test.YtibidnaedddfdaaGreatEInsert
import Derived.Test.YtibidnaedddfdaaGreatEWalk7
import Derived.Test.YtibidnaedddfdaaGreatEWalk8
import Derived.Test.YtibidnaedddfdaaGreatEWalk16
import Derived.Test.YtibidnaedddfdaaGreatEWalk17
import Derived.Test.YtibidnaedddfdaaGreatEWalk20
import Derived.Test.YtibidnaedddfdaaGreatEWalk1
namespace Go.Proofs.YtibidnaedddfdaaGreat
set_option linter.all false
open Go.RowKit
open Go.Proofs.Tryz
set_option maxRecDepth 10000
set_option maxHeartbeats 2000000
variable {N:Nat}{S:Nat→Prop}{L:List HP}{h:AX}
def PQ (hs:St S L h) {ax:Value}{b:AF}(bg:Rd S h B7 ax b) {ay:Value}{c:BV}(bh:Rd S h DL ay c) {ah:Value}{aq:BT}(a4:Rd S h D2 ah aq) {F:Value}{ai:(List Bool)}(ar:Sl S h BU.bool F ai) {G:Value}{aj:(List AB)}(au:Sl S h AC G aj) {r:BV×(List AB)×(List AB)}(E:JV N b c aq ai aj=some r):
 CD prog 28 #[ax,ay,ah,F,G] S h (λv S' h'=>∃c5 c6 c7:Value,v= .tuple #[c5,c6,c7]∧Rd S' h' DL c5 r.1∧St S' (OS AC 51 c6 r.2.1::OS AC 51 c7 r.2.2::L) h'):=by
 refine A7 75 func28 O ntmps28 O λB=>?_;rw[JV] at E;refine AU ?_;refine AT O bg CE O hs λq1 S2 h3 ew e5 k6=>?_;have k7:=bh.mono e5;refine AT O k7 CE O ew λq8 S9 gx c8 gy ey=>?_;have ez:=a4.nw;refine AT O ez CE O c8 λe0 gz g0 c9 g1 e1=>BZ VM O c9 λa5 g2 da g3=>?_;have db:=k6.nw;obtain⟨g4,_,e2⟩:=db.lv;have dc:=ey.nw;obtain⟨g5,_,e3⟩:=dc.lv;refine AU ?_;obtain⟨g6,g7,g8,g9,ha,hb,hc,hd,rfl,b5,dd,b6,de,df,dg,dh,di,dj,dk,b7⟩:=B7.ex e2;obtain⟨he,hg,hj,rfl,b8,e4,dl,e6⟩:=DL.ex e3;obtain⟨Q,k,rfl,hk⟩:=(dd).len;obtain⟨U,q,rfl,hl⟩:=(de).len;obtain⟨V,s,rfl,hm⟩:=(df).len;obtain⟨W,t,rfl,hn⟩:=(dg).len;obtain⟨X,u,rfl,ho⟩:=(dh).len;obtain⟨Y,y,rfl,hp⟩:=(di).len;obtain⟨Z,z,rfl,hq⟩:=(dj).len;obtain⟨ab,C,rfl,ht⟩:=(dk).len;obtain⟨dm,b9,rfl,hu⟩:=(e4).len;obtain⟨a6,av,rfl,hv⟩:=(dl).len;obtain⟨bj,a7,rfl,hx⟩:=(e6).len;refine B6 (cs:=[.string b.M,(.slice Q b.Aq.length k),vI b.S,(.slice U b.E.length q),(.slice V b.D.length s),(.slice W b.Ad.length t),(.slice X b.Ab.length u),(.slice Y b.Ar.length y),(.slice Z b.At.length z),(.slice ab b.As.length C),vI b.T,vI c.I,(.slice dm c.K.length b9),(.slice a6 c.N.length av),(.slice bj c.D.length a7),vN]) iO O O O (AU ?_);refine NF O O O da λj hy dn hz=>AU ?_;refine VE (r:=AC) Nw O O dn λh0 h4 dp e9=>?_;have bk:=dc.nw;have dq:=bk.fl BV.f_Vol;obtain⟨fa,_,dr⟩:=dq.ll;refine AU ?_;obtain⟨ca,E⟩:=RM E;refine OL (r:=AC) (l:=([]:List AB)) (xs:=c.K) O O Nw O (Sl.src dr) O ca O dp (λ_=> .head) λfb fc a8 fd=>AU ?_;obtain⟨aw,af,rfl,fe⟩:=a8.oslen mh;refine Ic (cs':=[.string b.M,(.slice Q b.Aq.length k),vI b.S,(.slice U b.E.length q),(.slice V b.D.length s),(.slice W b.Ad.length t),(.slice X b.Ab.length u),(.slice Y b.Ar.length y),(.slice Z b.At.length z),(.slice ab b.As.length C),vI b.T,vI c.I,(.slice aw (([]:List AB)++c.K).length af),(.slice a6 c.N.length av),(.slice bj c.D.length a7),vN]) O O O O ty_32.1 O a8 (.tail .head) O O λff cb fg=>AU ?_;refine VE (r:=AM) Xn O O cb λfh fi cc fj=>?_;have ds:=bk.nw;have dt:=ds.fl BV.f_Links;obtain⟨fk,_,du⟩:=dt.ll;refine AU ?_;obtain⟨cd,E⟩:=RM E;refine OL (r:=AM) (l:=([]:List AH)) (xs:=c.D) O O Xn O (Sl.src du) O cd O cc (λ_=> .head) λfm fn a9 fo=>AU ?_;obtain⟨ce,bi,rfl,fp⟩:=a9.oslen mh;refine Ic (cs':=[.string b.M,(.slice Q b.Aq.length k),vI b.S,(.slice U b.E.length q),(.slice V b.D.length s),(.slice W b.Ad.length t),(.slice X b.Ab.length u),(.slice Y b.Ar.length y),(.slice Z b.At.length z),(.slice ab b.As.length C),vI b.T,vI c.I,(.slice aw (([]:List AB)++c.K).length af),(.slice a6 c.N.length av),(.slice ce (([]:List AH)++c.D).length bi),vN]) O O O O ty_34.1 O a9 (.tail (.tail .head)) O O λfq cf fr=>AU ?_
 refine Ej ?_;have bl:=e1.nw;obtain⟨fs,_,dv⟩:=bl.lv;refine AU ?_;have cg:=cf.nil AC 51;have ch:=cg.sel [3,2,1,0,0] 0 O;have bm:=dd.nw;have bn:=de.nw;have bo:=df.nw;have bp:=dg.nw;have bq:=dh.nw;have br:=di.nw;have bs:=dj.nw;have bt:=dk.nw;have bu:=dl.nw;have dw:=ar.nw;refine GA E O O O qD O (λbv ci=>M9 (p0_w:=(⟨b,(⟨c.I,(([]:List AB)++c.K),c.N,(([]:List AH)++c.D)⟩:BV),([]:List AB)⟩:AJ)) ch b5 bm b6 bn bo bp bq br bs bt b7 b8 bu dv dw ci) λbv E ft fu fv g p=>?_;obtain⟨fw,rfl,cj⟩:=p;refine AU ?_;refine Ej (AU ?_);have bw:=bm.mono' g;have bx:=bn.mono' g;have bz:=bo.mono' g;have b0:=bp.mono' g;have b1:=bq.mono' g;have b2:=br.mono' g;have b3:=bs.mono' g;have b4:=bt.mono' g;have dx:=bu.mono' g;have dy:=au.mono' ((e5.trans EX).trans g);refine GA E O O O qC O (λd ck=>M8 (p0_w:=(⟨b,(⟨c.I,(([]:List AB)++c.K),c.N,bv⟩:BV),([]:List AB)⟩:AJ)) cj b5 bw b6 bx bz b0 b1 b2 b3 b4 b7 b8 dx dy ck) λd E fx ba bb fy p=>?_;obtain⟨dz,ac,H,rfl,cl⟩:=p;refine AU ?_;refine AQ (λa w=>∃(ad:Value) (bc:List AB) (ak:Value) (az:List AB) (am:Value) (a0:List AZ),IV B ba bb (75,[]) a w [(13,vP j 0),(10,vP a5 0),(14,ad)] (OS AC 51 ad bc::OS AC 51 ak az::OS BS 93 am a0::Bx j 141 [.string b.M,(.slice Q b.Aq.length k),vI b.S,(.slice U b.E.length q),(.slice V b.D.length s),(.slice W b.Ad.length t),(.slice X b.Ab.length u),(.slice Y b.Ar.length y),(.slice Z b.At.length z),(.slice ab b.As.length C),vI b.T,vI c.I,ak,am,ac,H]::OS AM 97 ac d.2.1::OS AC 51 H d.2.2::Bx a5 36 [vI 0,vN,vN,vN]::L) λ_ _=>Et N c d bc az a0=some r) ?_ ?_
 ·refine BJ (λn1=>λa w=>∃(a1:Value) (ae:List AB) (an:Int) (a2:Value) (ao:List AB) (a3:Value) (ap:List AZ),IV B ba bb (75,[]) a w [(13,vP j 0),(10,vP a5 0),(7,e0),(5,q1),(14,a1),(15,vI an)] (OS AC 51 a1 ae::OS AC 51 a2 ao::OS BS 93 a3 ap::Bx j 141 [.string b.M,(.slice Q b.Aq.length k),vI b.S,(.slice U b.E.length q),(.slice V b.D.length s),(.slice W b.Ad.length t),(.slice X b.Ab.length u),(.slice Y b.Ar.length y),(.slice Z b.At.length z),(.slice ab b.As.length C),vI b.T,vI c.I,a2,a3,ac,H]::OS AM 97 ac d.2.1::OS AC 51 H d.2.2::Bx a5 36 [vI 0,vN,vN,vN]::L) λ_ _=>AA an∧ED N b c aq d (Et N c d) n1 ae an ao ap=some r) N ?_ ?_ ?_
  ·intro aa ww hf hw;have cm:=cl.nil AC 51;have cn:=cm.sel [0,1,1,0,0,0,0] 0 O;exact⟨(vN),([]:List AB),0,(.slice aw (([]:List AB)++c.K).length af),(([]:List AB)++c.K),dz,d.1,_,_,hf.sub (kp [13,10,7,5,14,15] O),hw,cn,(Cc.refl ba bb),(iq (n:=0) O),E⟩
  ·rintro aa ww ⟨_,_,_,_,_,_,_,_,_,_,_,_,_,_,E⟩;rw[ED] at E;cases E
  rintro n1 aa ww ⟨a1,ae,an,a2,ao,a3,ap,fz,f0,hf,hw,be,d0,d1,E⟩;refine AI ?_ hf hw;clear hf hw ww aa;rw[ED] at E;have f1:=db.nw;refine AU ?_;refine AE O E (λd2 E=>?_) (λd2 E=>?_)
  ·refine AU ?_;refine BQ (Ej ?_);have d3:=bl.nw;obtain⟨f2,_,d4⟩:=d3.lv;refine AU ?_;have co:=be.sel [3,1,1,1,1,0,0] 0 O;have d5:=bw.nw;have d6:=bx.nw;have d7:=bz.nw;have d8:=b0.nw;have d9:=b1.nw;have ea:=b2.nw;have eb:=b3.nw;have ec:=b4.nw;refine GA E O O O qA O (λJ cp=>NA (p0_w:=(⟨b,(⟨c.I,ao,ap,d.2.1⟩:BV),d.2.2⟩:AJ)) co b5 d5 b6 d6 d7 d8 d9 ea eb ec b7 b8 d1 d4 cp) λJ E f3 f4 f5 f6 p=>?_;obtain⟨ed,ee,rfl,⟨ef,eg⟩,cq⟩:=p;refine Io (cs:=[vI J.1.B,vI J.1.A]) Nw O O O O O O O cq λf7 f8 cr f9=>?_;obtain⟨ct,E⟩:=RM E;refine J2 (r:=AC) (l:=ae) (xs:=([J.1]:List AB)) O O Nw O mh ⟨_,_,O,⟨O,⟨ef,eg⟩⟩,O⟩ O O ct O cr (λ_=>(.tail (.tail (.tail (.tail (.tail (.tail .head))))))) λeh ga cu gb=>?_;have cv:=cu.drop .head;refine AU ?_;refine B3 (AU ?_);refine WF.nil (λaa ww hf hw=>?_);have cw:=cv.sel [5,1,1,0,0,0,0] 0 O;exact⟨eh,(ae++([J.1]:List AB)),(BR (an+1)),ed,J.2.1,ee,J.2.2,_,_,hf.sub (kp [13,10,7,5,14,15] O),hw,cw,EX,(B1 _),E⟩
  refine WF.exit O (λaa ww hf hw=>?_);exact⟨a1,ae,a2,ao,a3,ap,_,_,hf.sub (kp [13,10,14] O),hw,be,d0,E⟩
 rintro aa ww ⟨ad,bc,ak,az,am,a0,gc,ge,hf,hw,cx,gf,E⟩;refine AI ?_ hf hw;clear hf hw ww aa;rw[Et] at E;refine AU ?_;refine Ic (cs':=[.string b.M,(.slice Q b.Aq.length k),vI b.S,(.slice U b.E.length q),(.slice V b.D.length s),(.slice W b.Ad.length t),(.slice X b.Ab.length u),(.slice Y b.Ar.length y),(.slice Z b.At.length z),(.slice ab b.As.length C),vI b.T,vI (BR (c.I+1)),ak,am,ac,H]) O O O O ty_3.1 O cx (.tail (.tail (.tail .head))) O O λgg cy gh=>AU ?_;refine Ro (kp [13,10,14] O) (U1 (m:=[(13,vP j 0),(10,vP a5 0),(14,ad)]) 9 [10,11] [4,8] [5,6,7] [] (λi v hh=>match i with|0=>v=vP j 0|1=>v=vP j 0|2=>v=vP j 11|3=>v= .agg #[vI (BR (c.I+1)),ak,am,ac]∧AA (BR (c.I+1))|4=>v=vP j 0|5=>v=vP j 0|6=>v=vP j 15|7=>v=H|8=>v=ad|_=>False) [[],[(0,66)],[(1,67)],[(2,68)],[],[(4,70)],[(5,71)],[(6,72)],[],[],[],[]] [(3,69),(4,70),(8,74)] mo (by kernel_rfl) [13,10,14] O (by kernel_rfl) (by kernel_rfl) (by kernel_rfl) O O (kp [13,10,14] O) MO (by kernel_rfl) Qd ?_ ?_ ?_)
 ·refine NJ.cons [] (by kernel_rfl) O O (by kernel_rfl) ?_ ?_
  ·intro mq hh o;intro a hf;exact⟨vP j 0,Kx hf O,O⟩
  refine NJ.cons [] (by kernel_rfl) O O (by kernel_rfl) ?_ ?_
  ·intro mq hh o;intro a hf;exact⟨ad,Kx hf O,O⟩
  exact trivial
 ·exact BF.cons O O O EY (BF.cons O O O EY (BF.cons O O O EY (BF.cons O O O EY (BF.cons O O O EY (BF.cons O O O EY (BF.cons O O O EY (BF.cons O O O EY (BF.cons O O O EY (BF.skip (by kernel_rfl) (BF.skip (by kernel_rfl) (BF.skip (by kernel_rfl) (trivial))))))))))))
 intro e7 gi ei gj ej gk ek gl el e8;have ag:=(SB.nil cy ei).st;obtain⟨rfl,em⟩:=ej;cases ek;cases el;refine Hv O O O (K9 O (K9 (ag.osone (mt mh)) (K9 (ag.osone (mt (mt mh))) (K9 (ag.osone (mt (mt (mt (mt mh))))) Ug)))) ty_36.1 O ag (.tail (.tail (.tail (.tail (.tail (.tail .head)))))) O λgm cz gn=>Wz ⟨λi v hh=>match i with|5=>v=vP j 0|6=>v=vP j 15|7=>v=H|_=>False,[[],[],[],[],[],[],[(5,71)],[(6,72)],[],[],[],[]],[(7,73)],_,[74,70,69,13,10,14],O,by kernel_rfl,by kernel_rfl,by kernel_rfl,by kernel_rfl,O,λi hi v hr=>?_,λi v h1 h2 o1 o2 hr=>?_,?_,?_⟩
 ·rcases uS.1 hi with rfl|hi
  ·exact hr
  rcases uS.1 hi with rfl|hi
  ·exact hr
  rcases uS.1 hi with rfl|hi
  ·exact hr
  cases hi
 ·match i,hr with
   |0,hr|1,hr|2,hr|3,hr|4,hr=>exact hr.elim
   |5,hr|6,hr|7,hr=>exact hr
   |_+8,hr=>exact hr.elim
 ·exact BF.skip (by kernel_rfl) (BF.skip (by kernel_rfl) (BF.skip (by kernel_rfl) (BF.skip (by kernel_rfl) (BF.skip (by kernel_rfl) (BF.cons O O O EY (BF.cons O O O EY (BF.cons O O O EY (BF.skip (by kernel_rfl) (BF.skip (by kernel_rfl) (BF.skip (by kernel_rfl) (BF.skip (by kernel_rfl) (trivial))))))))))))
 intro gp en gq eo;have c0:=en.st cz;cases eo;refine AU ?_;refine WF.ret (λaa ww hf hw=>?_);obtain⟨gr,c1,gs,ep⟩:=c0.pubs (.tail .head);obtain⟨gu,c2,gv,eq⟩:=c1.pubs (.tail .head);obtain⟨gw,c3,er,es⟩:=c2.pubs (.tail (.tail .head));have bf:=c3.sel [2,0,1] 1 O;have eu:=ep.nw;have ev:=eq.mono' er;have c4:=bf.drop (.tail (.tail .head));cases E;exact IS hf O hw (GB (K5 hf hw bf O (mt (mt mh)) ty_36.1 O) (GB (KG hf (v:=_) O) (GB (KG hf (v:=_) O) ID))) O EX ⟨_,_,_,O,(DL.mk (x:=(⟨(BR (c.I+1)),az,a0,d.2.1⟩:BV)) em eu ev es),c4⟩
def Rl (q:St S L h) {a:Value}{g:Dr}(c:Rd S h Dn a g) {b:Value}{i:Do}(d:Rd S h Ke b i) {r:Int}(E:M6 N g i=some r):
 CD prog 153 #[a,b] S h (λv S' h'=>v=vI r∧AA r∧St S' (L) h'):=by
 refine A7 38 func153 O ntmps153 O λB=>?_;rw[M6] at E;refine AU ?_;refine AT O c CE O q λz A C k s o=>?_;have t:=d.mono s;refine AT O t CE O k λD F u p j w=>AU ?_;refine BQ ?_;have x:=o.mono j;refine AU ?_;refine AE O E (λl E=>?_) (λl E=>?_)
 ·exact RT
 have y:=o.mono j;refine AU ?_;refine AE O E (λm E=>?_) (λm E=>?_)
 ·exact RT
 refine AU ?_;refine AE O E (λn E=>?_) (λn E=>?_)
 ·exact RT
 refine AU ?_;exact B3 (RT)
def TU (hs:St S L h) {g:Value}{x:Dr}(q:Rd S h Dn g x) {j:Value}{b:Dd}(s:Rd S h JC j b) {k:Value}{y:Do}(t:Rd S h Ke k y) {r:Dd}(E:N9 N x b y=some r):
 CD prog 118 #[g,j,k] S h (λv S' h'=>v= .agg #[vI r.Ba,vI r.Bl,vI r.Bp]∧Dd.ok r∧St S' (L) h'):=by
 refine A7 49 func118 O ntmps118 O λB=>?_;rw[N9] at E;refine AU ?_;refine AT O q CE O hs λq1 S2 h3 ae e5 k6=>?_;have k7:=s.mono e5;refine AT O k7 CE O ae λq8 S9 a3 Q a4 af=>?_;have ag:=t.nw;refine AT O ag CE O Q λa5 G a6 U a7 ah=>BZ ZA O U λV a8 p ai=>AU ?_;refine WF.rc (.inl O) p ?_;have aj:=k6.nw;obtain⟨a9,_,ak⟩:=aj.lv;have W:=ah.mono ai;obtain⟨ba,_,am⟩:=W.lv;refine AU ?_;refine BB E O O O lA O (λu X h' o=>Rl (St.all h') (ak.mono (o.all p.1)) (am.mono (o.all p.1)) X) λu E an=>?_;have H:=an;refine AU ?_;refine BD (kp [7,6,5,4] O) λI l ao=>?_;have J:=af.nw;refine AU ?_;refine AE O E (λap E=>?_) (λap E=>?_)
 ·refine AU ?_;refine B6 (cs:=[vI u,vI 0,vI 0]) Sm O O O (AU ?_);refine AW O O O O ty_119.1 O l .head O λbb z bc=>AU ?_;refine WF.ret (λK M c d=>?_);have Y:=z.drop .head;cases E;exact IS c O d (GB (K5 c d z O mh ty_119.1 O) ID) O EX ⟨O,⟨H,(iq (n:=0) O),(iq (n:=0) O)⟩,Y⟩
 have be:=W.mono ao;refine AU ?_;refine AE O E (λaq E=>?_) (λaq E=>?_)
 ·have ar:=J.fl Dd.f_Level;have au:=ar.i;refine AU ?_;refine B6 (cs:=[vI b.Ba,vI 0,vI 0]) Sm O O O (AU ?_);refine AW O O O O ty_119.1 O l .head O λbf A bg=>AU ?_;refine WF.ret (λK M c d=>?_);have Z:=A.drop .head;cases E;exact IS c O d (GB (K5 c d A O mh ty_119.1 O) ID) O EX ⟨O,⟨au,(iq (n:=0) O),(iq (n:=0) O)⟩,Z⟩
 refine AU ?_;refine Er (λa w=>∃(m:Int),IV B G I (49,[]) a w [(6,vP V 0),(4,q8),(8,vI m)] (Bx V 119 [vI 0,vI 0,vI 0]::L) λ_ _=>AA m∧LM N b m=some r) ?_ ?_
 ·refine AE O E (λav E=>?_) (λav E=>?_)
  ·have aw:=J.fl QK;have ax:=aw.i;refine AU ?_;refine Ku O O O (AU ?_);refine WF.nil (λK M c d=>?_);exact⟨(max u b.Bp),_,_,c.sub (kp [6,4,8] O),d,l,(Cc.refl G I),(HK H ax),E⟩
  refine AU ?_;refine WF.nil (λK M c d=>?_);exact⟨u,_,_,c.sub (kp [6,4,8] O),d,l,(Cc.refl G I),H,E⟩
 rintro K M ⟨m,bh,bi,c,d,C,ay,ab,E⟩;refine AI ?_ c d;clear c d M K;rw[LM] at E;have az:=J.mono ay;refine AU ?_;refine AE O E (λa0 E=>?_) (λa0 E=>?_)
 ·refine AU ?_;refine B6 (cs:=[vI m,vI 0,vI 0]) Sm O O O (AU ?_);refine AW O O O O ty_119.1 O C .head O λbj D bk=>AU ?_;refine WF.ret (λK M c d=>?_);have ac:=D.drop .head;cases E;exact IS c O d (GB (K5 c d D O mh ty_119.1 O) ID) O EX ⟨O,⟨ab,(iq (n:=0) O),(iq (n:=0) O)⟩,ac⟩
 have a1:=az.fl Dd.f_Level;have a2:=a1.i;refine AU ?_;refine B6 (cs:=[vI b.Ba,vI (BR (b.Bl+1)),vI m]) Sm O O O (AU ?_);refine AW O O O O ty_119.1 O C .head O λbl F bm=>AU ?_;refine WF.ret (λK M c d=>?_);have ad:=F.drop .head;cases E;exact IS c O d (GB (K5 c d F O mh ty_119.1 O) ID) O EX ⟨O,⟨a2,(B1 _),ab⟩,ad⟩
def Ts (hs:St S L h) {i:Value}{k:Dr}(y:Rd S h Dn i k) {b:Value}{c:(List Do)}(d:Sl S h Ke b c) {r:(List Dd)}(E:PM N k c=some r):
 CD prog 55 #[i,b] S h (λv S' h'=>St S' (OS JC 119 v r::L) h'):=by
 refine A7 29 func55 O ntmps55 O λB=>?_;rw[PM] at E;refine AU ?_;refine AT O y CE O hs λq1 S2 h3 am e5 k6=>?_;have k7:=d.mono' e5;refine AU ?_;obtain⟨an,E⟩:=RM E;refine Tc (r:=JC) (zx:=(⟨0,0,0⟩:Dd)) Wj O ⟨O,by unfold Dd.ok AA;simp [IntKind.has,IntKind.min,IntKind.max,IntKind.bits,IntKind.signed]⟩ O O an O O am λao a9 K ba=>AU ?_;refine B6 (cs:=[vI 0,vI 0,vI 0]) Sm O O O (AU ?_);refine BZ ZA O K λM bb Q bc=>?_;refine AW O O O O ty_119.1 O Q .head O λD U be=>?_;have ap:=d.nw;refine AU ?_;refine AQ (λa w=>∃(F:Value) (G:List Dd),IV B S2 D (29,[]) a w [(5,F)] (OS JC 119 F G::L) λ_ _=>Lj N G=some r) ?_ ?_
 ·refine BJ (λn1=>λa w=>∃(z:Value) (j:List Dd) (m:Int) (o:Int) (q:Int) (s:Int),IV B S2 D (29,[]) a w [(14,vI (↑c.length:Int)),(13,b),(6,vP M 0),(2,q1),(5,z),(15,vI m)] (OS JC 119 z j::Bx M 119 [vI o,vI q,vI s]::L) λ_ _=>AA m∧AA o∧AA q∧AA s∧Ks N k c (Lj N) n1 j m o q s=some r) N ?_ ?_ ?_
  ·intro H I t u;have V:=U.sel [1,0] 0 O;exact⟨ao,(List.replicate (0:Int).toNat ((⟨0,0,0⟩:Dd):Dd)),0,0,0,0,_,_,t.sub (kp [14,13,6,2,5,15] O),u,V,(Cc.refl S2 D),(iq (n:=0) O),(iq (n:=0) O),(iq (n:=0) O),(iq (n:=0) O),E⟩
  ·rintro H I ⟨_,_,_,_,_,_,_,_,_,_,_,_,_,_,_,_,E⟩;rw[Ks] at E;cases E
  rintro n1 H I ⟨z,j,m,o,q,s,bf,bg,t,u,A,W,bh,aq,ar,au,E⟩;refine AI ?_ t u;clear t u I H;rw[Ks] at E;refine AU ?_;refine AE O E (λav E=>?_) (λav E=>?_)
  ·refine AU ?_;refine BQ (AU ?_);have aw:=ap.mono' W;refine AN E O O aw sl_117.1 O λax E bi ay=>?_;obtain⟨bj,_,az⟩:=ay.lv;refine AU ?_;refine BZ Y7 O A λbk bl X a0=>?_;have a1:=az.mono a0;obtain⟨rfl,a2⟩:=Ke.ex a1;refine AW O O O O ty_64.1 O X .head O λbm C bn=>AU ?_;refine Ej ?_;have a3:=k6.nw;obtain⟨bo,_,a4⟩:=a3.lv;refine AU ?_;obtain⟨g,Y,E⟩:=bd E;refine EQ O O O lR O C (TU (St.all _) (a4.mono C.ea) (JC.mk (x:=(⟨o,q,s⟩:Dd)) ⟨aq,ar,au⟩) (Ke.mk (x:=ax) a2) Y) λbp bq br Z bs bt p=>?_;obtain⟨rfl,⟨ab,ac,ad⟩,a6⟩:=p;refine AW O O O O ty_119.1 O Z (.tail (.tail .head)) O λbu ae bv=>AU ?_;refine Io (cs:=[vI g.Ba,vI g.Bl,vI g.Bp]) Wj O O O O O O O ae λbw bx af bz=>?_;obtain⟨ag,E⟩:=RM E;refine J2 (r:=JC) (l:=j) (xs:=([g]:List Dd)) O O Wj O mh ⟨_,_,O,⟨O,⟨ab,ac,ad⟩⟩,O⟩ O O ag O af (λ_=>(.tail (.tail .head))) λa5 b0 ah b1=>?_;have ai:=ah.drop .head;refine AU ?_;refine B3 (AU ?_);refine WF.nil (λH I t u=>?_);have aj:=ai.sel [1,1] 1 O;exact⟨a5,(j++([g]:List Dd)),(BR (m+1)),g.Ba,g.Bl,g.Bp,_,_,t.sub (kp [14,13,6,2,5,15] O),u,aj,EX,(B1 _),ab,ac,ad,E⟩
  refine WF.exit O (λH I t u=>?_);have ak:=A.drop (.tail .head);exact⟨z,j,_,_,t.sub (kp [5] O),u,ak,W,E⟩
 rintro H I ⟨F,G,b2,a7,t,u,J,a8,E⟩;refine AI ?_ t u;clear t u I H;rw[Lj] at E;refine AU ?_;cases E;exact Kt J O O EX
def Oq (hs:St S L h) {r:Bool}(E:Iv N=some r):
 CD prog 15 #[] S h (λv S' h'=>v= .bool r∧St S' (L) h'):=by
 refine A7 44 func15 O ntmps15 O λB=>?_;rw[Iv] at E;refine AU ?_;refine B6 (cs:=[.string ByteArray.empty,vI 0,vI 0,vI 3,vI 0,vI 0,vI 0]) iP O O O (AU ?_);refine BZ Sf O hs λb1 h2 Y e4=>?_;refine AW O O O O ty_114.1 O Y .head O λh5 Z e7=>AU ?_;refine Ej (AU ?_);refine B6 (cs:=[vI 9,.bool false]) O4 O O O (B6 (cs:=[vI 8,.bool false]) O4 O O O (B6 (cs:=[vI 4,.bool false]) O4 O O O (B6 (cs:=[vI 5,.bool false]) O4 O O O (B6 (cs:=[vI (-1),.bool false]) O4 O O O (B6 (cs:=[vI (-1),.bool true]) O4 O O O (B6 (cs:=[vI (-1),.bool false]) O4 O O O (AU ?_)))))));refine Io (cs:=[vI 9,.bool false,vI 8,.bool false,vI 4,.bool false,vI 5,.bool false,vI (-1),.bool false,vI (-1),.bool true,vI (-1),.bool false]) kI O O O O O O O Z λb8 h9 C am=>?_;have D:=C.bxos (r:=Ke) (l:=Rg) .head ⟨_,_,O,⟨O,(iq (n:=9) O)⟩,⟨_,_,O,⟨O,(iq (n:=8) O)⟩,⟨_,_,O,⟨O,(iq (n:=4) O)⟩,⟨_,_,O,⟨O,(iq (n:=5) O)⟩,⟨_,_,O,⟨O,(iq (n:=(-1)) O)⟩,⟨_,_,O,⟨O,(iq (n:=(-1)) O)⟩,⟨_,_,O,⟨O,(iq (n:=(-1)) O)⟩,O⟩⟩⟩⟩⟩⟩⟩ (by simp [maxLen,Rg]);obtain⟨an,c,ao,ab⟩:=D.pubs .head;obtain⟨g,F,E⟩:=bd E;refine EQ O O O qH O c (Ts (St.all _) (Dn.mk (x:=(⟨ByteArray.empty,0,0,3,0,0,0⟩:Dr)) ⟨(by first|assumption|decide),(iq (n:=0) O),(iq (n:=0) O),(iq (n:=3) O),(iq (n:=0) O),(iq (n:=0) O),(iq (n:=0) O)⟩) (ab.mono c.ea.1 c.ea.2) F) λo ap aq aj ar ac p=>?_;have G:=p;have s:=c.join ac G ⟨OS.flat (λ{_ _ _ _ _ _} k=>k),trivial⟩;simp only[wZ,wB] at s;refine AU ?_;refine Io (cs:=[vI 1,vI 2,vI 3,vI 3,vI 3,vI 3,vI 1]) Z3 O O O O O O O s λH t I au=>AU ?_;have J:=I.bxos (r:=AY) (l:=([1,2,3,3,3,3,1]:List Int)) .head ⟨_,_,O,⟨O,(iq (n:=1) O)⟩,⟨_,_,O,⟨O,(iq (n:=2) O)⟩,⟨_,_,O,⟨O,(iq (n:=3) O)⟩,⟨_,_,O,⟨O,(iq (n:=3) O)⟩,⟨_,_,O,⟨O,(iq (n:=3) O)⟩,⟨_,_,O,⟨O,(iq (n:=3) O)⟩,⟨_,_,O,⟨O,(iq (n:=1) O)⟩,O⟩⟩⟩⟩⟩⟩⟩ (by simp [maxLen]);obtain⟨u,K,av,y⟩:=J.pubs .head;refine AQ (λa w=>IV B u t (44,[]) a w [(3,(.slice (some ⟨H,0,none⟩) 7 7)),(2,o)] (OS JC 119 o g::L) λ_ _=>I0 N g=some r) ?_ ?_
 ·refine BJ (λn1=>λa w=>∃(i:Int),IV B u t (44,[]) a w [(3,(.slice (some ⟨H,0,none⟩) 7 7)),(2,o),(4,vI i)] (OS JC 119 o g::L) λ_ _=>AA i∧Hq N g (I0 N g) n1 i=some r) N ?_ ?_ ?_
  ·intro z A j m;have M:=K.drop (.tail .head);exact⟨0,_,_,j.sub (kp [3,2,4] O),m,M,(Cc.refl u t),(iq (n:=0) O),E⟩
  ·rintro z A ⟨_,_,_,_,_,_,_,_,E⟩;rw[Hq] at E;cases E
  rintro n1 z A ⟨i,aw,ax,j,m,d,q,ay,E⟩;refine AI ?_ j m;clear j m A z;rw[Hq] at E;have az:=y.mono' q;refine AU ?_;refine AE O E (λad E=>?_) (λad E=>?_)
  ·refine AU ?_;refine BQ (AU ?_);refine Ix (.inr ⟨mo,by kernel_rfl⟩) (AU ?_);obtain⟨ae,b,E⟩:=bd E;refine A6 11 38 (.bool ae) ?_ ?_
   ·cases Q:(decide ((↑g.length:Int)≤i))
    ·have b:=H8 Q b;refine AU ?_;obtain⟨a0,U,b⟩:=bd b;refine CS d mh O O sl_115.1 U O λa1 V=>AU ?_;refine LU O V fa_119_0.1 O λa2 W=>AU ?_;obtain⟨a3,X,b⟩:=bd b;have af:=d.epAt mh X Dd.f_Level W;refine GS KP (λ_ x=>x) O af ty_3.1 O λa4=>AU ?_;have ag:=y.mono' q;refine AN b O O ag sl_29.1 O λa5 b a6 a7=>AU ?_;cases b;exact A5 O
    have b:=H7 Q b;cases b;exact BO O O
   refine AU ?_;refine AE O E (λah E=>?_) (λah E=>?_)
   ·exact RT
   refine AU ?_;refine B3 (AU ?_);refine WF.nil (λz A j m=>?_);exact⟨(BR (i+1)),_,_,j.sub (kp [3,2,4] O),m,d,q,(B1 _),E⟩
  refine WF.exit O (λz A j m=>?_);exact⟨_,_,j.sub (kp [3,2] O),m,d,q,E⟩
 rintro z A ⟨a8,a9,j,m,ak,ai,E⟩;refine AI ?_ j m;clear j m A z;rw[I0] at E;have ba:=y.mono' ai;exact RT
def P4 (hs:St S L h) {p:Value}{x:AF}(u:Rd S h B7 p x) {d:Value}{l:(List Ci)}(o:Sl S h GR d l) {c:Value}{m:(List BT)}(b:Sl S h D2 c m) {r:Bool}(E:Js N x l m=some r):
 CD prog 16 #[p,d,c] S h (λv S' h'=>v= .bool r∧St S' (L) h'):=by
 refine A7 77 func16 O ntmps16 O λB=>?_;rw[Js] at E;refine AU ?_;refine AT O u CE O hs λq1 M Q U e5 k6=>?_;have ah:=o.mono' e5;have ai:=b.mono' e5;refine AU ?_;refine AE O E (λV E=>?_) (λV E=>?_)
 ·exact RT
 refine AU ?_;refine AQ (λa w=>IV B M Q (77,[]) a w [] (L) λ_ _=>HY N=some r) ?_ ?_
 ·refine BJ (λn1=>λa w=>∃(q:Int),IV B M Q (77,[]) a w [(2,c),(7,vI q)] (L) λ_ _=>AA q∧FA N m (HY N) n1 q=some r) N ?_ ?_ ?_
  ·intro z A s t;exact⟨0,_,_,s.sub (kp [2,7] O),t,U,(Cc.refl M Q),(iq (n:=0) O),E⟩
  ·rintro z A ⟨_,_,_,_,_,_,_,_,E⟩;rw[FA] at E;cases E
  rintro n1 z A ⟨q,aj,ak,s,t,y,C,al,E⟩;refine AI ?_ s t;clear s t A z;rw[FA] at E;have am:=b.nw;refine AU ?_;refine AE O E (λW E=>?_) (λW E=>?_)
  ·refine AU ?_;refine BQ (AU ?_);have X:=b.nw;refine AN E O O X sl_60.1 O λY E an ao=>AU ?_;obtain⟨D,g,E⟩:=bd E;refine A6 8 49 (.bool D) ?_ ?_
   ·cases F:(decide (6<(↑Y.Bc.length:Int)))
    ·have g:=H8 F g;refine AU ?_;have Z:=b.nw;refine AN g O O Z sl_60.1 O λap g aq ar=>AU ?_;cases g;exact A5 O
    have g:=H7 F g;cases g;exact BO O O
   refine AU ?_;obtain⟨G,i,E⟩:=bd E;refine A6 8 58 (.bool G) ?_ ?_
   ·cases H:D
    ·have i:=H8 H i;refine AU ?_;have ab:=b.nw;refine AN i O O ab sl_60.1 O λau i av aw=>AU ?_;cases i;exact A5 O
    have i:=H7 H i;cases i;exact BO O O
   refine AU ?_;obtain⟨I,j,E⟩:=bd E;refine A6 8 67 (.bool I) ?_ ?_
   ·cases J:G
    ·have j:=H8 J j;refine AU ?_;have ac:=b.nw;refine AN j O O ac sl_60.1 O λax j ay az=>AU ?_;cases j;exact A5 O
    have j:=H7 J j;cases j;exact BO O O
   refine AU ?_;obtain⟨ad,k,E⟩:=bd E;refine A6 8 76 (.bool ad) ?_ ?_
   ·cases K:I
    ·have k:=H8 K k;refine AU ?_;have ae:=b.nw;refine AN k O O ae sl_60.1 O λa0 k a1 a2=>AU ?_;cases k;exact A5 O
    have k:=H7 K k;cases k;exact BO O O
   refine AU ?_;refine AE O E (λaf E=>?_) (λaf E=>?_)
   ·exact RT
   refine AU ?_;refine B3 (AU ?_);refine WF.nil (λz A s t=>?_);exact⟨(BR (q+1)),_,_,s.sub (kp [2,7] O),t,y,C,(B1 _),E⟩
  refine WF.exit O (λz A s t=>?_);exact⟨_,_,s.sub Ob,t,y,C,E⟩
 rintro z A ⟨a3,a4,s,t,ag,a5,E⟩;refine AI ?_ s t;clear s t A z;rw[HY] at E;exact RT
def TM (hs:St S L h) {l:Value}{i:AF}(q:Rd S h B7 l i) {m:Value}{b:Ci}(s:Rd S h GR m b) {r:Bool}(E:Li N i b=some r):
 CD prog 56 #[l,m] S h (λv S' h'=>v= .bool r∧St S' (L) h'):=by
 refine A7 67 func56 O ntmps56 O λB=>?_;rw[Li] at E;refine AU ?_;refine AT O q CE O hs λW S2 h3 X e5 k6=>?_;have k7:=s.mono e5;refine AT O k7 CE O X λq8 Y y G a4 Z=>AU ?_;refine AE O E (λab E=>?_) (λab E=>?_)
 ·exact RT
 have ac:=Z.fl Ci.f_Rain;obtain⟨z,_,ad⟩:=ac.ll;refine AU ?_;refine AQ (λa w=>IV B Y y (67,[]) a w [] (L) λ_ _=>HG N=some r) ?_ ?_
 ·refine BJ (λV=>λa w=>∃(g:Int),IV B Y y (67,[]) a w [(35,vI (↑b.Am.length:Int)),(34,z),(2,W),(36,vI g)] (L) λ_ _=>AA g∧FZ N i b (HG N) V g=some r) N ?_ ?_ ?_
  ·intro j k c d;exact⟨0,_,_,c.sub (kp [35,34,2,36] O),d,G,(Cc.refl Y y),(iq (n:=0) O),E⟩
  ·rintro j k ⟨_,_,_,_,_,_,_,_,E⟩;rw[FZ] at E;cases E
  rintro V j k ⟨g,A,C,c,d,t,H,a5,E⟩;refine AI ?_ c d;clear c d k j;rw[FZ] at E;refine AU ?_;refine AE O E (λae E=>?_) (λae E=>?_)
  ·refine AU ?_;refine AQ (λa w=>IV B A C (67,[]) a w [(35,vI (↑b.Am.length:Int)),(34,z),(2,W),(36,vI g)] (L) λ_ _=>Ji N g (FZ N i b (HG N) V)=some r) ?_ ?_
   ·refine AU ?_;have af:=ad.mono' H;refine AN E O O af sl_121.1 O λI E a6 ag=>?_;obtain⟨ah,_,ai⟩:=ag.ll;have a7:=k6.nw;refine AU ?_;refine AE O E (λaj E=>?_) (λaj E=>?_)
    ·exact RT
    refine AU ?_;refine BQ (BJ (λn3=>λa w=>∃(p:Int),IV B A C (67,[]) a w [(47,vI (↑I.length:Int)),(46,ah),(35,vI (↑b.Am.length:Int)),(34,z),(2,W),(36,vI g),(48,vI p)] (L) λ_ _=>AA p∧Gc N I (Ji N g (FZ N i b (HG N) V)) n3 p=some r) N ?_ ?_ ?_)
    ·intro j k c d;exact⟨0,_,_,c.sub (kp [47,46,35,34,2,36,48] O),d,t,(Cc.refl A C),(iq (n:=0) O),E⟩
    ·rintro j k ⟨_,_,_,_,_,_,_,_,E⟩;rw[Gc] at E;cases E
    rintro n3 j k ⟨p,a8,a9,c,d,u,J,ba,E⟩;refine AI ?_ c d;clear c d k j;rw[Gc] at E;refine AU ?_;refine AE O E (λak E=>?_) (λak E=>?_)
    ·refine AU ?_;refine BQ (AU ?_);have am:=ai.mono' J;refine AN E O O am sl_32.1 O λan E bb ao=>?_;obtain⟨bc,_,ap⟩:=ao.lv;refine AU ?_;refine BZ EA O u λbe bf K aq=>?_;have ar:=ap.mono aq;obtain⟨rfl,⟨au,av⟩⟩:=AC.ex ar;refine AW O O O O ty_51.1 O K .head O λbg M bh=>AU ?_;refine WF.rc (.inl O) M (AU ?_);obtain⟨bi,Q,E⟩:=bd E;refine Lp O O O TS O (λh' o=>JR (St.all h') (AC.mk (x:=an) ⟨au,av⟩) Q) (AU ?_);refine BD (kp [64,47,46,35,34,2,36,48] O) λbj U bk=>AE O E (λaw E=>?_) (λaw E=>?_)
     ·exact RT
     refine AU ?_;refine B3 (AU ?_);refine WF.nil (λj k c d=>?_);have D:=U.drop .head;exact⟨(BR (p+1)),_,_,c.sub (kp [47,46,35,34,2,36,48] O),d,D,EX,(B1 _),E⟩
    refine LG O (WF.nil (λj k c d=>?_));exact⟨_,_,c.sub (kp [35,34,2,36] O),d,u,J,E⟩
   rintro j k ⟨ay,az,c,d,F,a0,E⟩;refine AI ?_ c d;clear c d k j;rw[Ji] at E;refine AU ?_;refine WF.nil (λj k c d=>?_);exact⟨(BR (g+1)),_,_,c.sub (kp [35,34,2,36] O),d,F,EX,(B1 _),E⟩
  refine WF.exit O (λj k c d=>?_);exact⟨_,_,c.sub Ob,d,t,H,E⟩
 rintro j k ⟨a1,a2,c,d,ax,a3,E⟩;refine AI ?_ c d;clear c d k j;rw[HG] at E;exact RT
def PR (U:St S L h) {g:Value}{j:AF}(m:Rd S h B7 g j) {b:Value}{c:(List Ci)}(d:Sl S h GR b c) {r:Bool}(E:JW N j c=some r):
 CD prog 17 #[g,b] S h (λv S' h'=>v= .bool r∧St S' (L) h'):=by
 refine A7 19 func17 O ntmps17 O λB=>?_;rw[JW] at E;refine AU ?_;refine AT O m CE O U λV y z A e5 W=>AU ?_;refine AQ (λa w=>IV B y z (19,[]) a w [] (L) λ_ _=>G5 N=some r) ?_ ?_
 ·refine BJ (λM=>λa w=>∃(s:Int),IV B y z (19,[]) a w [(2,V),(1,b),(5,vI s)] (L) λ_ _=>AA s∧Eu N j c (G5 N) M s=some r) N ?_ ?_ ?_
  ·intro p q k l;exact⟨0,_,_,k.sub (kp [2,1,5] O),l,A,(Cc.refl y z),(iq (n:=0) O),E⟩
  ·rintro p q ⟨_,_,_,_,_,_,_,_,E⟩;rw[Eu] at E;cases E
  rintro M p q ⟨s,X,Y,k,l,i,t,Z,E⟩;refine AI ?_ k l;clear k l q p;rw[Eu] at E;have ab:=d.nw;refine AU ?_;refine AE O E (λC E=>?_) (λC E=>?_)
  ·refine AU ?_;refine BQ (AU ?_);refine WF.rc (.inr ⟨mo,by kernel_rfl⟩) i ?_;have D:=W.mono t;obtain⟨ac,_,F⟩:=D.lv;refine AU ?_;have G:=d.nw;refine AN E O O G sl_59.1 O λad E ae H=>?_;obtain⟨af,_,I⟩:=H.lv;refine AU ?_;refine BC E O O O qG O (λJ u h' o=>TM (St.all h') (F.mono (o.all i.1)) (I.mono (o.all i.1)) u) λJ E=>AU ?_;refine BD (kp [18,2,1,5] O) λag x ah=>AE O E (λK E=>?_) (λK E=>?_)
   ·exact RT
   refine AU ?_;refine B3 (AU ?_);refine WF.nil (λp q k l=>?_);exact⟨(BR (s+1)),_,_,k.sub (kp [2,1,5] O),l,x,EX,(B1 _),E⟩
  refine WF.exit O (λp q k l=>?_);exact⟨_,_,k.sub Ob,l,i,t,E⟩
 rintro p q ⟨ai,aj,k,l,Q,ak,E⟩;refine AI ?_ k l;clear k l q p;rw[G5] at E;exact RT
end Go.Proofs.YtibidnaedddfdaaGreat
