import Derived.Test.YtibidnaedddfdaaGreatEFacts
import Derived.Test.YtibidnaedddfdaaGreatEForms
import Derived.Test.YtibidnaedddfdaaGreatEInsert
import Derived.Test.YtibidnaedddfdaaGreatEWalk0
import Derived.Test.YtibidnaedddfdaaGreatEWalk1
namespace Go.Proofs.YtibidnaedddfdaaGreat
set_option linter.all false
open Go.RowKit
open Go.Proofs.Tryz
set_option maxRecDepth 10000
set_option maxHeartbeats 2000000
variable {N:Nat}{S:Nat→Prop}{L:List HP}{h:AX}
def Lu (X:St S L h) {a:Value}{g:AB}(j:Pt S h AC a g) {b:Value}{m:Int}(k:Pt S h AY b m) {c:Value}{c2_:Int}(l:Pt S h AY c c2_) {r:AB}(E:Fj N g m c2_=some r):
 CD prog 105 #[a,b,c] S h (λv S' h'=>v= .agg #[vI r.B,vI r.A]∧AB.ok r∧St S' (L) h'):=by
 refine A7 18 func105 O ntmps105 O λB=>?_;rw[Fj] at E;refine AU ?_;refine BZ EA O X λb1 h2 x y=>AU ?_;refine Gs 14 mo (by kernel_rfl) O x ?_;have z:=j.mono y;have Y:=z.fl AB.f_Lo;have Z:=Y.i;have k9:=k.mono y;have C:=k9.i;refine AU ?_;refine BB E O O O MW O (λp q h' o=>Ge (St.all h') Z C q) λp E D=>?_;have F:=D;refine Ku O O O ?_;have G:=z.fl AB.f_Hi;have H:=G.i;have I:=z.fl AB.f_Hi;have J:=I.i;have K:=l.mono y;have M:=K.i;refine AU ?_;refine BB E O O O MW O (λs t h' o=>Ge (St.all h') J M t) λs E Q=>?_;have U:=Q;refine Ka O O O (Ku O O O (B6 (cs:=[vI (max 0 p),vI (max 0 (min g.A s))]) Fv O O O (Em λab u ac=>?_)));refine AW O O O O ty_51.1 O u .head O λad d ae=>AU ?_;refine WF.ret (λaa ww V W=>?_);have w:=d.drop .head;cases E;exact IS V O W (GB (K5 V W d O mh ty_51.1 O) ID) O EX ⟨O,⟨(HK (iq (n:=0) O) F),(HK (iq (n:=0) O) (G4 H U))⟩,w⟩
def Gh (hs:St S L h) {l:Value}{g:(List AZ)}(p:Sl S h BS l g) {i:Value}{c:AZ}(q:Rd S h BS i c) {m:Value}{k:((AZ×AZ)→Option Int)}(F:Rd S h (BU.fn prog (λx:(AZ×AZ)=>([.agg #[vI x.1.O,vI x.1.C,vI x.1.K.B,vI x.1.K.A],.agg #[vI x.2.O,vI x.2.C,vI x.2.K.B,vI x.2.K.A]]:List Value)) (λx:(AZ×AZ)=>AZ.ok x.1∧AZ.ok x.2) (λy:Int=>vI y) (λy:Int=>AA y)) m k) {r:Int×Bool}(E:A4 N g c k=some r):
 CD prog 124 #[l,i,m] S h (λv S' h'=>v= .tuple #[vI r.1,.bool r.2]∧AA r.1∧St S' (L) h'):=by
 refine A7 49 func124 O ntmps124 O λB=>?_;rw[A4] at E;obtain⟨X,Y,rfl,Z,ab⟩:=F.fn;refine AU ?_;refine AT O q CE O hs λq5 S6 h7 ai W ac=>?_;have aj:=p.mono' W;have ak:=aj.le;refine AU ?_;refine AQ (λa w=>∃(G:Int),IV B S6 h7 (49,[]) a w [(8,vI (↑g.length:Int)),(4,q5),(0,l),(2,(.func (.func X) #[] Y)),(9,vI G)] (L) λ_ _=>AA G∧A8 N g c k G=some r) ?_ ?_
 ·refine BJ (λn1=>λa w=>∃(s:Int) (u:Int),IV B S6 h7 (49,[]) a w [(8,vI (↑g.length:Int)),(4,q5),(0,l),(2,(.func (.func X) #[] Y)),(9,vI s),(10,vI u)] (L) λ_ _=>AA s∧AA u∧AS N g c k (A8 N g c k) n1 s u=some r) N ?_ ?_ ?_
  ·intro J M t z;exact⟨0,(↑g.length:Int),_,_,t.sub (kp [8,4,0,2,9,10] O),z,ai,(Cc.refl S6 h7),(iq (n:=0) O),(M0 ak),E⟩
  ·rintro J M ⟨_,_,_,_,_,_,_,_,_,_,E⟩;rw[AS] at E;cases E
  rintro n1 J M ⟨s,u,bl,bm,t,z,D,H,ad,al,E⟩;refine AI ?_ t z;clear t z M J;rw[AS] at E;refine AU ?_;refine AE O E (λam E=>?_) (λam E=>?_)
  ·refine AU ?_;refine BQ (AU ?_);refine Iy O QP Sg O (Kf (j:=1) O O O O (Iy O Sg QP O (AU ?_)));refine WF.rc (.inr ⟨mo,by kernel_rfl⟩) D (AU ?_);have an:=p.nw;refine AN E O O an sl_33.1 O λbn E bo ao=>?_;obtain⟨bp,_,ap⟩:=ao.lv;have aq:=ac.mono H;obtain⟨bq,_,ar⟩:=aq.lv;refine AU ?_;obtain⟨rfl,⟨au,av,aw,ax⟩⟩:=BS.ex ap;obtain⟨rfl,⟨ay,az,a0,a1⟩⟩:=BS.ex ar;obtain⟨br,ae,E⟩:=bd E;refine In O O O Z O (λh' o=>ab _ h' (λb Q=>vB (D.1 b ((W.trans H).sub b Q)) o.siz) (λb Q=>(o.same b (D.1 b ((W.trans H).sub b Q))).trans ((W.trans H).same b Q)) [] (St.all h') _ _ ⟨⟨au,av,aw,ax⟩,⟨ay,az,a0,a1⟩⟩ ae) λa2=>?_;have bs:=a2;refine AU ?_;refine BD (kp [31,11,8,4,0,2,9,10] O) λbt V bu=>AE O E (λa3 E=>?_) (λa3 E=>?_)
   ·refine AU ?_;refine B3 (WF.nil (λJ M t z=>?_));exact⟨(BR ((BR (FI .u64 (IntKind.wrap .u64 (BR (s+u))) 1))+1)),u,_,_,t.sub (kp [8,4,0,2,9,10] O),z,V,EX,(B1 _),al,E⟩
   refine AU ?_;refine B3 (WF.nil (λJ M t z=>?_));exact⟨s,(BR (FI .u64 (IntKind.wrap .u64 (BR (s+u))) 1)),_,_,t.sub (kp [8,4,0,2,9,10] O),z,V,EX,ad,(B1 _),E⟩
  refine WF.exit O (λJ M t z=>?_);exact⟨s,_,_,t.sub (kp [8,4,0,2,9] O),z,D,H,ad,E⟩
 rintro J M ⟨G,bv,bw,t,z,I,U,a4,E⟩;refine AI ?_ t z;clear t z M J;rw[A8] at E;refine AU ?_;refine WF.rc (.inr ⟨mo,by kernel_rfl⟩) I (AU ?_);obtain⟨a5,d,E⟩:=bd E;refine A6 9 48 (.bool a5) ?_ ?_
 ·cases af:(decide (G<(↑g.length:Int)))
  ·have d:=H8 af d;cases d;exact BO O O
  have d:=H7 af d;refine AU ?_;have a6:=p.nw;refine AN d O O a6 sl_33.1 O λbx d bz a7=>?_;obtain⟨b0,_,a8⟩:=a7.lv;have a9:=ac.mono U;obtain⟨b1,_,ba⟩:=a9.lv;refine AU ?_;obtain⟨rfl,⟨bb,bc,be,bf⟩⟩:=BS.ex a8;obtain⟨rfl,⟨bg,bh,bi,bj⟩⟩:=BS.ex ba;obtain⟨b2,ag,d⟩:=bd d;refine In O O O Z O (λh' o=>ab _ h' (λb Q=>vB (I.1 b ((W.trans U).sub b Q)) o.siz) (λb Q=>(o.same b (I.1 b ((W.trans U).sub b Q))).trans ((W.trans U).same b Q)) [] (St.all h') _ _ ⟨⟨bb,bc,be,bf⟩,⟨bg,bh,bi,bj⟩⟩ ag) λbk=>?_;have b3:=bk;refine AU ?_;cases d;exact A5 O
 refine AU ?_;refine BD (kp [7,6] O) λb4 ah b5=>WF.ret (λJ M t z=>?_);cases E;exact IS t O z (GB (KG t (v:=_) O) (GB (KG t (v:=_) O) ID)) O EX ⟨O,a4,ah⟩
def NW (c:St S L h) {a:Int}(b:AA a) {r:Bool}(E:KR N a=some r):
 CD prog 144 #[vI a] S h (λv S' h'=>v= .bool r∧St S' (L) h'):=by
 refine A7 6 func144 O ntmps144 O λB=>?_;rw[KR] at E;exact RT
def Mi (q:St S L h) {a:Int}(c:AA a) {b:Int}(d:AA b) {r:Int}(E:If N a b=some r):
 CD prog 99 #[vI a,vI b] S h (λv S' h'=>v=vI r∧AA r∧St S' (L) h'):=by
 refine A7 20 func99 O ntmps99 O λB=>?_;rw[If] at E;refine AU ?_;refine WF.rc (.inl O) q (AU ?_);refine BC E O O O aZ O (λs g h' o=>NW (St.all h') c g) λs E=>AU ?_;refine BD (kp [5,0,1] O) λx i y=>AU ?_;refine WF.rc (.inl O) i (AU ?_);refine BC E O O O aZ O (λt j h' o=>NW (St.all h') d j) λt E=>AU ?_;refine BD (kp [6,5,0,1] O) λz u w=>AU ?_;refine AE O E (λk E=>?_) (λk E=>?_)
 ·refine AU ?_;refine AE O E (λl E=>?_) (λl E=>?_)
  ·exact RT
  exact RT
 refine AU ?_;refine AE O E (λm E=>?_) (λm E=>?_)
 ·exact RT
 refine AU ?_;refine AE O E (λn E=>?_) (λn E=>?_)
 ·exact RT
 refine AU ?_;refine AE O E (λp E=>?_) (λp E=>?_)
 ·exact RT
 exact RT
def TK (z:St S L h) {b:Value}{c:(List Int)}(d:Sl S h AY b c) {r:Int}(E:Lh N c=some r):
 CD prog 98 #[b] S h (λv S' h'=>v=vI r∧AA r∧St S' (L) h'):=by
 refine A7 18 func98 O ntmps98 O λB=>?_;rw[Lh] at E;refine AU ?_;refine AQ (λa w=>IV B S h (18,[]) a w [(3,vI 0)] (L) λ_ _=>KT N=some r) ?_ ?_
 ·refine BJ (λx=>λa w=>∃(m:Int),IV B S h (18,[]) a w [(7,vI (↑c.length:Int)),(6,b),(3,vI 0),(8,vI m)] (L) λ_ _=>AA m∧Jh N c (KT N) x m=some r) N ?_ ?_ ?_
  ·intro k l g j;exact⟨0,_,_,g.sub (kp [7,6,3,8] O),j,z,(Cc.refl S h),(iq (n:=0) O),E⟩
  ·rintro k l ⟨_,_,_,_,_,_,_,_,E⟩;rw[Jh] at E;cases E
  rintro x k l ⟨m,I,J,g,j,o,p,K,E⟩;refine AI ?_ g j;clear g j l k;rw[Jh] at E;refine AU ?_;refine AE O E (λq E=>?_) (λq E=>?_)
  ·refine AU ?_;refine BQ (AU ?_);have s:=d.mono' p;refine AN E O O s sl_29.1 O λA E C t=>?_;have D:=t.i;refine AU ?_;refine AE O E (λu E=>?_) (λu E=>?_)
   ·exact RT
   refine AU ?_;refine B3 (AU ?_);refine WF.nil (λk l g j=>?_);exact⟨(BR (m+1)),_,_,g.sub (kp [7,6,3,8] O),j,o,p,(B1 _),E⟩
  refine WF.exit O (λk l g j=>?_);exact⟨_,_,g.sub (kp [3] O),j,o,p,E⟩
 rintro k l ⟨F,G,g,j,y,H,E⟩;refine AI ?_ g j;clear g j l k;rw[KT] at E;exact RT
def PJ (hs:St S L h) {k:Value}{d:AZ}(x:Rd S h BS k d) {n:Value}{g:AZ}(y:Rd S h BS n g) {r:Int}(E:FJ N d g=some r):
 CD prog 46 #[k,n] S h (λv S' h'=>v=vI r∧AA r∧St S' (L) h'):=by
 refine A7 17 func46 O ntmps46 O λB=>?_;rw[FJ] at E;refine AU ?_;refine AT O x CE O hs λq1 S2 h3 aj e5 k6=>?_;have k7:=y.mono e5;refine AT O k7 CE O aj λq8 M ak a b2 Q=>AU ?_;refine Ro (kp [3,2] O) ?_;obtain⟨q,U,E⟩:=bd E;obtain⟨s,V,E⟩:=bd E;obtain⟨z,W,E⟩:=bd E;refine QC (m:=[(3,q8),(2,q1)]) 13 (λi v j=>match i with|0=>Pt M j AY v d.O|1=>v=vI d.O∧AA d.O|2=>Pt M j AY v g.O|3=>v=vI g.O∧AA g.O|4=>v=vI q∧AA q|5=>Pt M j AY v d.C|6=>v=vI d.C∧AA d.C|7=>Pt M j AY v g.C|8=>v=vI g.C∧AA g.C|9=>v=vI s∧AA s|10=>Sl (SN M ak j) j AY v ([q,s]:List Int)∧∃ad,v= .slice (some ad) 2 2|11=>v=vI z∧AA z|12=>v=vI z∧AA z|_=>False) [[],[(0,5)],[],[(2,7)],[(1,6),(3,8)],[],[(5,10)],[],[(7,12)],[(6,11),(8,13)],[(4,9),(9,14)],[(10,15)],[(11,16)]] [(12,4)] mo (by kernel_rfl) [3,2] O (by kernel_rfl) (by kernel_rfl) (by kernel_rfl) (kp [3,2] O) MO ?_ ?_
 ·refine BM.cons O ?_ ?_
  ·intro t j o;have c:=o.st a;have al:=k6.nw;have am:=al.fl AZ.f_At;refine AU ?_;exact B0 am
  refine BM.cons O ?_ ?_
  ·intro t j o;intro an D;have c:=o.st a;have D:Pt _ _ AY an d.O:=D;have ao:=D.i;refine AU ?_;exact B0 ⟨O,ao⟩
  refine BM.cons O ?_ ?_
  ·intro t j o;have c:=o.st a;have ap:=Q.mono (o.ext a.1);have aq:=ap.fl AZ.f_At;refine AU ?_;exact B0 aq
  refine BM.cons O ?_ ?_
  ·intro t j o;intro ar F;have c:=o.st a;have F:Pt _ _ AY ar g.O:=F;have au:=F.i;refine AU ?_;exact B0 ⟨O,au⟩
  refine BM.cons O ?_ ?_
  ·intro t j o;intro b3 av b4 aw;have c:=SN.st a o;obtain⟨rfl,ax⟩:=av;obtain⟨rfl,ay⟩:=aw;refine EQ O O O gM O c (Mi (St.all _) ax ay U) λb5 b6 b7 bk b8 X p=>?_;obtain⟨rfl,az,bl⟩:=p;exact EB ⟨X.siz,λb Y=>X.same b Y⟩ ⟨O,az⟩
  refine BM.cons O ?_ ?_
  ·intro t j o;have c:=o.st a;have a0:=k6.nw;have a1:=a0.fl AZ.f_To;refine AU ?_;exact B0 a1
  refine BM.cons O ?_ ?_
  ·intro t j o;intro a2 G;have c:=o.st a;have G:Pt _ _ AY a2 d.C:=G;have a3:=G.i;refine AU ?_;exact B0 ⟨O,a3⟩
  refine BM.cons O ?_ ?_
  ·intro t j o;have c:=o.st a;have a4:=Q.mono (o.ext a.1);have a5:=a4.fl AZ.f_To;refine AU ?_;exact B0 a5
  refine BM.cons O ?_ ?_
  ·intro t j o;intro a6 H;have c:=o.st a;have H:Pt _ _ AY a6 g.C:=H;have a7:=H.i;refine AU ?_;exact B0 ⟨O,a7⟩
  refine BM.cons O ?_ ?_
  ·intro t j o;intro b9 a8 ca a9;have c:=SN.st a o;obtain⟨rfl,ba⟩:=a8;obtain⟨rfl,bb⟩:=a9;refine EQ O O O gM O c (Mi (St.all _) ba bb V) λcb cc cd bm ce Z p=>?_;obtain⟨rfl,bc,bn⟩:=p;exact EB ⟨Z.siz,λb Y=>Z.same b Y⟩ ⟨O,bc⟩
  refine BM.cons O ?_ ?_
  ·intro t j o;intro cf be cg aa;have c:=SN.st a o;obtain⟨rfl,ab⟩:=be;obtain⟨rfl,ac⟩:=aa;have bf:=c.fz;refine Io (cs:=[vI q,vI s]) Z3 O O O O O O O bf λbo bp I bq=>?_;have J:=I.bxos (r:=AY) (l:=([q,s]:List Int)) .head ⟨_,_,O,⟨O,ab⟩,⟨_,_,O,⟨O,ac⟩,O⟩⟩ (by simp [maxLen]);obtain⟨br,K,bs,af⟩:=J.pubs .head;have u:=Fz.done o EX K;exact EB u.1 ⟨Sl.mono' af u.2,_,O⟩
  refine BM.cons O ?_ ?_
  ·intro t j o;intro bt w;have c:=SN.st a o;obtain⟨w,bg,rfl⟩:=w;refine EQ O O O pS O c (TK (St.all _) (w.mono c.ea.1 c.ea.2) W) λbu bv bw bh bx A p=>?_;obtain⟨rfl,ag,bi⟩:=p;exact EB ⟨A.siz,λb Y=>A.same b Y⟩ ⟨O,ag⟩
  exact BM.cons O EY (trivial)
 intro bz ah b0 ai;have bj:=SN.st a ah;obtain⟨rfl,b1⟩:=ai;exact RT
def Ul {k:Value}{s:(List AZ)}(hs:St S (OS BS 93 k s::L) h) {a:Int}(g:AA a) {c:Int}(j:AA c) {m:Value}{w:AB}(t:Rd S h AC m w) {r:(List AZ)}(E:KK N s a c w=some r):
 CD prog 67 #[k,vI a,vI c,m] S h (λv S' h'=>St S' (OS BS 93 v r::L) h'):=by
 refine A7 46 func67 O ntmps67 O λB=>?_;rw[KK] at E;refine AU ?_;refine AT O t CE O hs λq1 S2 h3 u e5 k6=>AU ?_;refine AE O E (λai E=>?_) (λai E=>?_)
 ·refine AU ?_;cases E;exact Kt u O O EX
 refine AU ?_;refine WF.rc (.inl O) u (AU ?_);refine B6 (cs:=[vI a,vI c,vI 0,vI 0]) XC O O O ?_;have z:Rd S2 h3 (BU.fn prog (λx:(AZ×AZ)=>([.agg #[vI x.1.O,vI x.1.C,vI x.1.K.B,vI x.1.K.A],.agg #[vI x.2.O,vI x.2.C,vI x.2.K.B,vI x.2.K.A]]:List Value)) (λx:(AZ×AZ)=>AZ.ok x.1∧AZ.ok x.2) (λy:Int=>vI y) (λy:Int=>AA y)) (.func (.func 46) #[] #[]) (λx=>FJ N x.1 x.2):=NZ 46 #[] gQ λS' h' s' e' L hs x y h1 h2=>(PJ hs (BS.mk (x:=x.1) h1.1) (BS.mk (x:=x.2) h1.2) h2).mono λ_ _ _ _ p=>p;obtain⟨aj,D,E⟩:=bd E;refine In O O O lO O (λh' o=>Gh (St.all h') ((u.oslAll mh).mono (λb hb=>vB hb o.siz) (λb hb=>o.same b hb)) (BS.mk (x:=(⟨a,c,(⟨0,0⟩:AB)⟩:AZ)) ⟨g,j,(iq (n:=0) O),(iq (n:=0) O)⟩) (z.mono (o.all u.1)) D) λak=>?_;have al:=ak;refine AU ?_;refine BD (kp [10,9,7,0,1,2] O) λa7 d F=>AU ?_;refine AE O E (λam E=>?_) (λam E=>?_)
 ·refine AU ?_;refine Gs 12 mo (by kernel_rfl) O d (AU ?_);obtain⟨a8,G,E⟩:=bd E;refine CS d mh O O sl_33.1 G O λa9 H=>LU O H fa_93_2.1 O λba I=>?_;obtain⟨bb,J,E⟩:=bd E;have an:=d.epAt mh J AZ.f_Vol I;refine Il SO (λ_ x=>x) O an ty_51.1 CE O λbc ao=>?_;have ap:=k6.mono F;obtain⟨be,_,aq⟩:=ap.lv;refine AU ?_;refine BB E O O O Wp O (λM Q h' o=>N4 (St.all h') (ao.mono (o.all d.1)) (aq.mono (o.all d.1)) Q) λM E ar=>?_;obtain⟨au,av⟩:=ar;obtain⟨aw,U,E⟩:=bd E;refine In O O O Wo O (λh' o=>L7 (St.all h') (AC.mk (x:=M) ⟨au,av⟩) U) λax=>?_;obtain⟨ay,az⟩:=ax;obtain⟨bf,V,E⟩:=bd E;refine CS d mh O O sl_33.1 V O λbg W=>LU O W fa_93_2.1 O λbh X=>Em λbi Y bj=>?_;obtain⟨a0,Z,E⟩:=bd E;refine JD (r:=BS) (l:=s) (i:=aj.1) (x:=a0) O O (AC.mk (x:=aw) ⟨ay,az⟩) X Z AZ.u_Vol ty_51.1 CE Y .head λbk aa bl=>AU ?_;cases E;exact Kt aa O O EX
 refine AU ?_;refine Ej ?_;have a1:=k6.mono F;obtain⟨bm,_,a2⟩:=a1.lv;refine AU ?_;refine Hb E O O O Wo O d (λq ab=>L7 (St.all _) (a2.mono d.ea) ab) λq E bn bo bp ac bq br p=>?_;obtain⟨rfl,⟨a3,a4⟩,a6⟩:=p;refine AU ?_;refine B6 (cs:=[vI a,vI c,vI q.B,vI q.A]) XC O O O (AU ?_);refine Io (cs:=[vI a,vI c,vI q.B,vI q.A]) Nv O O O O O O O ac λbs bt ad bu=>?_;have ae:=ad.bxos (r:=BS) (l:=([(⟨a,c,q⟩:AZ)]:List AZ)) .head ⟨_,_,O,⟨O,⟨g,j,a3,a4⟩⟩,O⟩ (by simp [maxLen]);have af:=ae.sel [1,0] 0 O;refine GA E O O O lN O (λa5 ag=>Qn af al ag) λa5 E bv bw bx bz p=>?_;have ah:=p;refine AU ?_;cases E;exact Kt ah O O EX
def M2 {c:Nat}{p0_w:BX}{l:Value}{n:Value}{q:Value}{s:Value}{t:Value}{u:Value}{w:Value}{x:Value}{g:Value}{y:Value}{j:Value}{k:Value}(hs:St S (Bx c 106 [.string p0_w.b.M,l,vI p0_w.b.S,n,q,s,t,u,w,x,vI p0_w.b.T,vI p0_w.h.I,g,y,j,k]::OS AC 51 g p0_w.h.K::OS BS 93 y p0_w.h.N::OS AM 97 j p0_w.h.D::OS AC 51 k p0_w.peaks::L) h) (Y:p0_w.b.M.size≤maxLen) (Z:Sl S h BU.str l p0_w.b.Aq) (ab:AA p0_w.b.S) (ac:Sl S h B4 n p0_w.b.E) (ad:Sl S h BI q p0_w.b.D) (af:Sl S h Dn s p0_w.b.Ad) (ag:Sl S h De t p0_w.b.Ab) (ah:Sl S h GQ u p0_w.b.Ar) (ai:Sl S h DB w p0_w.b.At) (aj:Sl S h AY x p0_w.b.As) (V:AA p0_w.b.T) (W:AA p0_w.h.I) {z:Int}(ak:AA z) {d:Int}(Q:AA d) {A:Value}{C:AB}(H:Rd S h AC A C) {r:(List AZ)}(E:HQ N p0_w z d C=some r):
 CD prog 107 #[vP c 0,vI z,vI d,A] S h (λv S' h'=>∃F:Value,v= .tuple #[]∧St S' (Bx c 106 [.string p0_w.b.M,l,vI p0_w.b.S,n,q,s,t,u,w,x,vI p0_w.b.T,vI p0_w.h.I,g,F,j,k]::OS AC 51 g p0_w.h.K::OS BS 93 F r::OS AM 97 j p0_w.h.D::OS AC 51 k p0_w.peaks::L) h'):=by
 refine A7 30 func107 O ntmps107 O λB=>?_;rw[HQ] at E;refine AU ?_;refine AT O H CE O hs λq1 S2 h3 J e5 k6=>AU ?_;refine AE O E (λc7 E=>?_) (λc7 E=>?_)
 ·refine TX (m:=[(7,q1),(0,vP c 0),(1,vI z),(2,vI d)]) 16 [0] (λi v hh=>match i with|0=>v=vP c 0|1=>v=vP c 0|2=>v=vP c 0|3=>v=vP c 11|4=>v=vP c 13|5=>v=y|6=>v=vP c 0|7=>v=vP c 0|8=>v=vP c 11|9=>v=vP c 11|10=>v=vI p0_w.h.I∧AA p0_w.h.I|11=>v=vI (BR (p0_w.h.I+1))∧AA (BR (p0_w.h.I+1))|12=>v=vI d∧AA d|13=>v=vI (BR ((BR (p0_w.h.I+1))+d))∧AA (BR ((BR (p0_w.h.I+1))+d))|14=>v=vI z∧AA z|15=>Rd S2 hh AC v C|_=>False) [[],[],[(1,11)],[(2,12)],[(3,13)],[(4,14)],[],[(6,16)],[(7,17)],[(8,18)],[(9,19)],[(10,20)],[],[(11,21),(12,22)],[],[]] [(0,10),(5,15),(13,23),(14,24),(15,25)] mo (by kernel_rfl) [7,0,1,2] O (by kernel_rfl) (by kernel_rfl) (by kernel_rfl) (kp [7,0,1,2] O) MO ?_ ?_ ?_
  ·refine Rv.cons [] (by kernel_rfl) O O (by kernel_rfl) ?_ ?_
   ·intro mq hh o;intro a hf;exact⟨vP c 0,Kx hf O,O⟩
   exact trivial
  ·refine BM.cons O EY (BM.cons O EY (BM.cons O EY (BM.cons O EY (BM.cons O EY (BM.cons O EY (BM.cons O EY (BM.cons O EY (BM.cons O EY (BM.cons O EY (BM.cons O EY (BM.cons O EY (BM.cons O EY (BM.cons O EY (BM.cons O EY (BM.cons O ?_ ?_)))))))))))))))
   ·intro mq hh o;have a4:=o.st J;have au:=k6.mono (o.ext J.1);obtain⟨a5,_,av⟩:=au.lv;refine AU ?_;exact B0 av
   exact trivial
  intro a6 aw a7 ax a8 ay a9 az ba a0 a1 G;have al:=SN.st J aw;cases ax;cases ay;obtain⟨rfl,a2⟩:=az;obtain⟨rfl,a3⟩:=a0;have G:=Rd.sn h3 G;have G:Rd _ _ AC a1 C:=G;have am:=al.pick (.tail (.tail .head));refine GA E O O O qE O (λan ao=>Ul am a2 a3 G ao) λan E bb bc be bf p=>?_;have U:=p;refine AU ?_;obtain⟨ap,X,rfl,bg⟩:=U.oslen mh;refine Ic (cs':=[.string p0_w.b.M,l,vI p0_w.b.S,n,q,s,t,u,w,x,vI p0_w.b.T,vI p0_w.h.I,g,(.slice ap an.length X),j,k]) O O O O ty_33.1 O U (.tail .head) O O λbh aq bi=>AU ?_;refine WF.nil (λaa ww hf hw=>?_);have ar:=aq.sel [1,1,0,0,0] 0 O;cases E;exact IS hf O hw ID O EX ⟨_,O,ar⟩
 refine AU ?_;refine WF.nil (λaa ww hf hw=>?_);cases E;exact IS hf O hw ID O e5 ⟨_,O,J⟩
def P1 {c:Nat}{p0_w:BX}{z:Value}{C:Value}{G:Value}{H:Value}{J:Value}{U:Value}{W:Value}{Y:Value}{q:Value}{ac:Value}{g:Value}{d:Value}(hs:St S (Bx c 106 [.string p0_w.b.M,z,vI p0_w.b.S,C,G,H,J,U,W,Y,vI p0_w.b.T,vI p0_w.h.I,q,ac,g,d]::OS AC 51 q p0_w.h.K::OS BS 93 ac p0_w.h.N::OS AM 97 g p0_w.h.D::OS AC 51 d p0_w.peaks::L) h) (au:p0_w.b.M.size≤maxLen) (av:Sl S h BU.str z p0_w.b.Aq) (aw:AA p0_w.b.S) (ag:Sl S h B4 C p0_w.b.E) (ax:Sl S h BI G p0_w.b.D) (ay:Sl S h Dn H p0_w.b.Ad) (az:Sl S h De J p0_w.b.Ab) (a0:Sl S h GQ U p0_w.b.Ar) (a1:Sl S h DB W p0_w.b.At) (a2:Sl S h AY Y p0_w.b.As) (ap:AA p0_w.b.T) (aq:AA p0_w.h.I) {k:Int}(b3:AA k) {t:Value}{Z:(List AK)}(ba:Sl S h D7 t Z) {r:AB×(List AB)×(List AZ)}(E:Hj N p0_w k Z=some r):
 CD prog 52 #[vP c 0,vI k,t] S h (λv S' h'=>∃bj bk:Value,v= .agg #[vI r.1.B,vI r.1.A]∧AB.ok r.1∧St S' (Bx c 106 [.string p0_w.b.M,z,vI p0_w.b.S,C,G,H,J,U,W,Y,vI p0_w.b.T,vI p0_w.h.I,bj,bk,g,d]::OS AC 51 bj r.2.1::OS BS 93 bk r.2.2::OS AM 97 g p0_w.h.D::OS AC 51 d p0_w.peaks::L) h'):=by
 refine A7 128 func52 O ntmps52 O λB=>?_;rw[Hj] at E;refine AU ?_;refine BZ EA O hs λb1 h2 bp e4=>AU ?_;refine Ro (kp [6,0,1,2] O) ?_;obtain⟨x6,hl,E⟩:=bd E;obtain⟨ml,b4,E⟩:=bd E;obtain⟨ab,b5,E⟩:=bd E;refine U1 (m:=[(6,vP b1 0),(0,vP c 0),(1,vI k),(2,t)]) 17 [18] [8,12] [9,10,11,13,14] [15,16] (λi v u=>match i with|0=>v=vP c 0|1=>v=vP c 0|2=>v=vP c 0|3=>v=vP c 3|4=>Sl S u B4 v p0_w.b.E|5=>v=vI k∧AA k|6=>Pt S u B4 v x6|7=>Rd S u B4 v x6|8=>v=vP c 0|9=>v=vP c 0|10=>v=vP c 15|11=>v=d|12=>v=vI k∧AA k|13=>EP d (k.toNat*(AC).sz+0) v|14=>Rd S u AC v ab|15=>RP h2 57 [.string ByteArray.empty,vI 0,vI 0,vI 0,vN,vN,vI 0,vI 0,vI 0,vI 0,vI 0,vN] v u|16=>RP h2 51 [vI 0,vI 0] v u|_=>False) [[],[(0,20)],[(1,21)],[(2,22)],[(3,23)],[],[(4,24),(5,25)],[(6,26)],[],[(8,28)],[(9,29)],[(10,30)],[],[(11,31),(12,32)],[(13,33)],[],[],[],[]] [(7,27),(8,28),(12,32),(15,7),(16,8)] mo (by kernel_rfl) [6,0,1,2] O (by kernel_rfl) (by kernel_rfl) (by kernel_rfl) O O (kp [6,0,1,2] O) MO (by kernel_rfl) (NY (T:=57) O (NY (T:=51) O Qd)) ?_ ?_ ?_
 ·refine NJ.cons [] (by kernel_rfl) O O (by kernel_rfl) ?_ ?_
  ·intro mq u o;intro a hf;exact⟨vP c 0,Kx hf O,O⟩
  refine NJ.cons [] (by kernel_rfl) O O (by kernel_rfl) ?_ ?_
  ·intro mq u o;intro a hf;exact⟨vI k,Kx hf O,⟨O,b3⟩⟩
  exact trivial
 ·refine BF.cons O O O EY (BF.cons O O O EY (BF.cons O O O EY (BF.cons O O O EY (BF.cons O O O ?_ ?_))))
  ·intro mq u o;intro mm hm;have j:=o.st bp;cases hm;refine AU ?_;have hn:=ag.nw;exact B0 hn
  refine BF.cons O O O EY (BF.cons O O O ?_ ?_)
  ·intro mq u o;intro ho cj mn hp;have j:=o.st bp;have cj:Sl _ _ B4 ho p0_w.b.E:=cj;obtain⟨rfl,mp⟩:=hp;refine AU ?_;refine Mc O O cj sl_23.1 hl O λmr hq=>AU ?_;exact B0 hq
  refine BF.cons O O O ?_ ?_
  ·intro mq u o;intro ht ck;have j:=o.st bp;have ck:Pt _ _ B4 ht x6:=ck;obtain⟨ms,_,hu⟩:=ck.lv;refine AU ?_;exact B0 hu
  refine BF.cons O O O EY (BF.cons O O O EY (BF.cons O O O EY (BF.cons O O O EY (BF.cons O O O EY (BF.cons O O O ?_ ?_)))))
  ·intro mq u o;intro mu hv mv hx;have j:=o.st bp;cases hv;obtain⟨rfl,mw⟩:=hx;refine AU ?_;refine CS j (mt (mt (mt (mt (mt mh))))) O O sl_32.1 b4 O λmx d1=>AU ?_;exact B0 d1
  refine BF.cons O O O ?_ ?_
  ·intro mq u o;intro my hy;have j:=o.st bp;refine AU ?_;have hz:=j.epAt (mt (mt (mt (mt (mt mh))))) b5 GC.id hy;refine Il KP (λ_ x=>x) O hz ty_51.1 CE O λmz h0=>AU ?_;exact B0 h0
  exact BF.al O Qh O O (BF.al O EA O O (BF.skip (by kernel_rfl) (BF.skip (by kernel_rfl) (trivial))))
 intro i6 m0 h3 h4 cl m1 h5 m2 h6 m3 h7 m4 h8 d2;obtain⟨bb,rfl,h9,ia,ib⟩:=h7;obtain⟨ar,rfl,ic,ie,ig⟩:=h8;have d3:=(SB.cons (SB.cons (SB.nil bp h3) h9 ia ib vD) ic ie ig (pH (d2.at_ (s:=8) (s':=7) (by kernel_rfl) O O) vD)).st;have cl:Rd _ _ B4 h4 x6:=cl;cases h5;obtain⟨rfl,m5⟩:=h6;obtain⟨d4,d5,d6,rfl,m6,m7,m8,d7,m9,na,nc,nd,ih,ii,ne,nf⟩:=B4.ex cl;refine Hv O O O ON ty_57.1 O d3 (.tail .head) O λng bl d8=>Wz ⟨λi v u=>match i with|9=>v=vP c 0|10=>v=vP c 15|11=>v=d|13=>EP d (k.toNat*(AC).sz+0) v|14=>Rd S u AC v ab|_=>False,[[],[],[],[],[],[],[],[],[],[],[(9,29)],[(10,30)],[],[(11,31)],[(13,33)],[],[],[],[]],[(14,34)],_,[8,7,32,28,27,6,0,1,2],O,by kernel_rfl,by kernel_rfl,by kernel_rfl,by kernel_rfl,O,λi hi v hr=>?_,λi v h1 h2 o1 o2 hr=>?_,?_,?_⟩
 ·rcases uS.1 hi with rfl|hi
  ·exact hr
  rcases uS.1 hi with rfl|hi
  ·exact hr
  rcases uS.1 hi with rfl|hi
  ·exact hr
  rcases uS.1 hi with rfl|hi
  ·exact hr
  rcases uS.1 hi with rfl|hi
  ·exact Rd.mono hr d8
  cases hi
 ·match i,hr with
   |0,hr|1,hr|2,hr|3,hr|4,hr|5,hr|6,hr|7,hr|8,hr|12,hr=>exact hr.elim
   |9,hr|10,hr|11,hr|13,hr=>exact hr
   |14,hr=>exact Rd.mono hr (o2.ext λb hb=>vB (bl.1 b hb) o1.siz)
   |_+15,hr=>exact hr.elim
 ·refine BF.skip (by kernel_rfl) (BF.skip (by kernel_rfl) (BF.skip (by kernel_rfl) (BF.skip (by kernel_rfl) (BF.skip (by kernel_rfl) (BF.skip (by kernel_rfl) (BF.skip (by kernel_rfl) (BF.skip (by kernel_rfl) (BF.skip (by kernel_rfl) (BF.cons O O O EY (BF.cons O O O EY (BF.cons O O O EY (BF.skip (by kernel_rfl) (BF.cons O O O ?_ ?_)))))))))))))
  ·intro mq u o;intro i7 d9;have j:=o.st bl;cases d9;refine AU ?_;refine CS j (mt (mt (mt (mt (mt (mt (mt mh))))))) O O sl_32.1 b4 O λi8 cm=>AU ?_;exact B0 cm
  refine BF.cons O O O ?_ ?_
  ·intro mq u o;intro i9 ea;have j:=o.st bl;refine AU ?_;have eb:=j.epAt (mt (mt (mt (mt (mt (mt (mt mh))))))) b5 GC.id ea;refine Il KP (λ_ x=>x) O eb ty_51.1 CE O λja ec=>AU ?_;exact B0 ec
  exact BF.skip (by kernel_rfl) (BF.skip (by kernel_rfl) (BF.skip (by kernel_rfl) (BF.skip (by kernel_rfl) (trivial))))
 intro jb ed ee bq;have cn:=ed.st bl;have bq:Rd _ _ AC ee ab:=bq;obtain⟨rfl,⟨b6,b7⟩⟩:=AC.ex bq;refine AW O O O O ty_51.1 O cn .head O λjc co jd=>AU ?_;refine BZ cU O co λaj je cp jf=>BZ cU O cp λak jg cq jh=>?_;refine AW O O O O ty_3.1 O cq (.tail .head) O λji cr jj=>?_;refine AW O O O O ty_3.1 O cr .head O λbr ct jk=>AU ?_;refine Ma O O O ?_;have ef:=ba.nw;refine AU ?_;refine AQ (λa w=>∃(bc:Int) (be:Int) (bs:Value) (bm:List AZ),IV B S br (128,[]) a w [(11,.func (.func 105) #[] #[vP ar 0,vP aj 0,vP ak 0]),(7,vP bb 0),(6,vP b1 0),(0,vP c 0),(1,vI k)] (OS BS 93 bs bm::Bx ak 3 [vI bc]::Bx aj 3 [vI be]::Bx ar 51 [vI ab.B,vI ab.A]::Bx bb 57 [.string x6.M,vI x6.F,vI x6.Aw,vI x6.Ai,d4,d5,vI x6.V,vI x6.Q,vI x6.Ap,vI x6.X,vI x6.Bh,d6]::Bx b1 51 [vI 0,vI 0]::Bx c 106 [.string p0_w.b.M,z,vI p0_w.b.S,C,G,H,J,U,W,Y,vI p0_w.b.T,vI p0_w.h.I,q,bs,g,d]::OS AC 51 q p0_w.h.K::OS AM 97 g p0_w.h.D::OS AC 51 d p0_w.peaks::L) λ_ _=>AA bc∧AA be∧Cz N p0_w k x6 ab bc be bm=some r) ?_ ?_
 ·refine BJ (λn1=>λa w=>∃(a3:Int) (a4:Int) (a5:Int) (bn:Value) (bf:List AZ),IV B S br (128,[]) a w [(37,vI (↑Z.length:Int)),(36,t),(11,.func (.func 105) #[] #[vP ar 0,vP aj 0,vP ak 0]),(10,vP ak 0),(9,vP aj 0),(8,vP ar 0),(7,vP bb 0),(6,vP b1 0),(0,vP c 0),(1,vI k),(38,vI a3)] (OS BS 93 bn bf::Bx ak 3 [vI a4]::Bx aj 3 [vI a5]::Bx ar 51 [vI ab.B,vI ab.A]::Bx bb 57 [.string x6.M,vI x6.F,vI x6.Aw,vI x6.Ai,d4,d5,vI x6.V,vI x6.Q,vI x6.Ap,vI x6.X,vI x6.Bh,d6]::Bx b1 51 [vI 0,vI 0]::Bx c 106 [.string p0_w.b.M,z,vI p0_w.b.S,C,G,H,J,U,W,Y,vI p0_w.b.T,vI p0_w.h.I,q,bn,g,d]::OS AC 51 q p0_w.h.K::OS AM 97 g p0_w.h.D::OS AC 51 d p0_w.peaks::L) λ_ _=>AA a3∧AA a4∧AA a5∧Cy N p0_w Z ab (Cz N p0_w k x6 ab) n1 a3 a4 a5 bf=some r) N ?_ ?_ ?_
  ·intro aa ww hf hw;have cu:=ct.sel [7,0,0,0,0,0,0,0,0,0] 0 O;exact⟨0,0,0,ac,p0_w.h.N,_,_,hf.sub (kp [37,36,11,10,9,8,7,6,0,1,38] O),hw,cu,(Cc.refl S br),(iq (n:=0) O),(iq (n:=0) O),(iq (n:=0) O),E⟩
  ·rintro aa ww ⟨_,_,_,_,_,_,_,_,_,_,_,_,_,_,E⟩;rw[Cy] at E;cases E
  rintro n1 aa ww ⟨a3,a4,a5,bn,bf,a6,jl,hf,hw,bt,b8,jm,bu,bv,E⟩;refine AI ?_ hf hw;clear hf hw ww aa;rw[Cy] at E;refine AU ?_;refine AE O E (λeg E=>?_) (λeg E=>?_)
  ·refine AU ?_;refine BQ (AU ?_);have eh:=ef.mono' b8;refine AN E O O eh sl_110.1 O λbo E jn ei=>?_;obtain⟨jo,_,ej⟩:=ei.lv;refine AU ?_;refine BZ gZ O bt λbw jp cv ek=>?_;have el:=ej.mono ek;obtain⟨jq,rfl,em,en,b9,bx⟩:=D7.ex el;obtain⟨ij,ik,rfl,il,im⟩:=bx.fn;refine AW O O O O ty_181.1 O cv .head O λad ah jr=>AU ?_;refine Ro (kp [13,37,36,11,10,9,8,7,6,0,1,38] O) ?_;obtain⟨a7,cw,E⟩:=bd E;obtain⟨a8,cx,E⟩:=bd E;obtain⟨am,cy,E⟩:=bd E;refine mI (m:=[(13,vP bw 0),(37,vI (↑Z.length:Int)),(36,t),(11,.func (.func 105) #[] #[vP ar 0,vP aj 0,vP ak 0]),(10,vP ak 0),(9,vP aj 0),(8,vP ar 0),(7,vP bb 0),(6,vP b1 0),(0,vP c 0),(1,vI k),(38,vI a3)]) [15,16,17] [] [12,13,14] (λi v u=>match i with|0=>v=vP bw 3|1=>Rd a6 u (BU.fn prog (λx:Int=>([vI x]:List Value)) (λx:Int=>AA x) (λy:AB=> .agg #[vI y.B,vI y.A]) (λy:AB=>AB.ok y)) v bo.asks|2=>v=vP ar 0|3=>v=vI ab.B∧AA ab.B|4=>v= .agg #[vI a7.B,vI a7.A]∧AA a7.B∧AA a7.A|5=>v=vP bw 3|6=>Rd a6 u (BU.fn prog (λx:Int=>([vI x]:List Value)) (λx:Int=>AA x) (λy:AB=> .agg #[vI y.B,vI y.A]) (λy:AB=>AB.ok y)) v bo.asks|7=>v=vP ar 1|8=>v=vI ab.A∧AA ab.A|9=>v= .agg #[vI a8.B,vI a8.A]∧AA a8.B∧AA a8.A|10=>v= .func (.func 105) #[] #[vP ar 0,vP aj 0,vP ak 0]|11=>v= .agg #[vI am.B,vI am.A]∧AA am.B∧AA am.A|12=>RP ad 51 [vI 0,vI 0] v u|13=>RP ad 51 [vI 0,vI 0] v u|14=>RP ad 51 [vI 0,vI 0] v u|_=>False) [[],[(0,42)],[],[(2,44)],[(1,43),(3,45)],[],[(5,47)],[],[(7,49)],[(6,48),(8,50)],[],[(10,52)],[],[],[],[],[],[]] [(4,46),(9,51),(11,53),(12,14),(13,15),(14,16)] mo (by kernel_rfl) [13,37,36,11,10,9,8,7,6,0,1,38] O (by kernel_rfl) (by kernel_rfl) (by kernel_rfl) O (kp [13,37,36,11,10,9,8,7,6,0,1,38] O) MO (by kernel_rfl) (NY (T:=51) O (NY (T:=51) O (NY (T:=51) O Qd))) ?_ ?_ ?_
   ·exact trivial
   ·refine BF.cons O O O EY (BF.cons O O O ?_ ?_)
    ·intro mq u o;intro js eo;have j:=o.st ah;cases eo;refine AU ?_;have ep:=bx.nw;exact B0 ep
    refine BF.cons O O O EY (BF.cons O O O EY (BF.cons O O O ?_ ?_))
    ·intro mq u o;intro eq bg jt er;have j:=SN.st ah o;have bg:=Rd.sn ad bg;have bg:Rd _ _ (BU.fn prog (λx:Int=>([vI x]:List Value)) (λx:Int=>AA x) (λy:AB=> .agg #[vI y.B,vI y.A]) (λy:AB=>AB.ok y)) eq bo.asks:=bg;obtain⟨rfl,es⟩:=er;obtain⟨io,ip,rfl,cz,c0⟩:=bg.fn;refine EQ O O O cz O j (c0 _ _ (λb hb=>j.1 b ((Cc.refl (SN a6 ad u) u).sub b hb)) (λb hb=>(Cc.refl (SN a6 ad u) u).same b hb) [] (St.all _) _ _ es cw) λju jv jw ir jx ca p=>?_;obtain⟨rfl,⟨eu,ev⟩,it⟩:=p;exact EB ⟨ca.siz,λb hb=>ca.same b hb⟩ ⟨O,eu,ev⟩
    refine BF.cons O O O EY (BF.cons O O O ?_ ?_)
    ·intro mq u o;intro jy ew;have j:=o.st ah;cases ew;refine AU ?_;have ey:=bx.nw;exact B0 ey
    refine BF.cons O O O EY (BF.cons O O O EY (BF.cons O O O ?_ ?_))
    ·intro mq u o;intro ez bh jz e0;have j:=SN.st ah o;have bh:=Rd.sn ad bh;have bh:Rd _ _ (BU.fn prog (λx:Int=>([vI x]:List Value)) (λx:Int=>AA x) (λy:AB=> .agg #[vI y.B,vI y.A]) (λy:AB=>AB.ok y)) ez bo.asks:=bh;obtain⟨rfl,e1⟩:=e0;obtain⟨iu,iv,rfl,c1,c2⟩:=bh.fn;refine EQ O O O c1 O j (c2 _ _ (λb hb=>j.1 b ((Cc.refl (SN a6 ad u) u).sub b hb)) (λb hb=>(Cc.refl (SN a6 ad u) u).same b hb) [] (St.all _) _ _ e1 cx) λj0 j1 j2 iw j3 cb p=>?_;obtain⟨rfl,⟨e2,e3⟩,iy⟩:=p;exact EB ⟨cb.siz,λb hb=>cb.same b hb⟩ ⟨O,e2,e3⟩
    refine BF.cons O O O EY (BF.cons O O O ?_ ?_)
    ·intro mq u o;intro j4 e5;have j:=SN.st ah o;cases e5;refine EQ O O O bL O j (Lu (St.all _) (j.bxAll (r:=AC) (x:=ab) (mt (mt (mt (mt mh)))) ⟨O,⟨b6,b7⟩⟩) (j.bxAll (r:=AY) (x:=a5) (mt (mt (mt mh))) ⟨O,bv⟩) (j.bxAll (r:=AY) (x:=a4) (mt (mt mh)) ⟨O,bu⟩) cy) λj5 j6 j7 iz j8 cc p=>?_;obtain⟨rfl,⟨e6,e7⟩,i0⟩:=p;exact EB ⟨cc.siz,λb hb=>cc.same b hb⟩ ⟨O,e6,e7⟩
    exact BF.al O EA O O (BF.al O EA O O (BF.al O EA O O (BF.skip (by kernel_rfl) (BF.skip (by kernel_rfl) (BF.skip (by kernel_rfl) (trivial))))))
   intro j9 e8 ka e9 kb fa kc fb kd fc ke fd kf fe bi;obtain⟨kg,rfl,ff,fg,fh⟩:=fc;obtain⟨kh,rfl,fi,fj,fk⟩:=fd;obtain⟨ki,rfl,fl,fm,fo⟩:=fe;have c3:=(SB.cons (SB.cons (SB.cons (SB.nil ah e8) ff fg fh vD) fi fj fk (pH (bi.of_ (s:=15) (s':=14) (by kernel_rfl) O O O O) vD)) fl fm fo (pH (bi.of_ (s:=16) (s':=15) (by kernel_rfl) O O O O) (pH (bi.of_ (s:=16) (s':=14) (by kernel_rfl) O O O O) vD))).st;obtain⟨rfl,fp,fq⟩:=e9;obtain⟨rfl,fr,fs⟩:=fa;obtain⟨rfl,ft,fu⟩:=fb;refine AW O O O O ty_51.1 O c3 (.tail (.tail .head)) O λkj c4 kk=>?_;refine AW O O O O ty_51.1 O c4 (.tail .head) O λkl c5 km=>?_;refine AW O O O O ty_51.1 O c5 .head O λkn c6 ko=>AU ?_;refine Ka O O O (AU ?_);refine Ka O O O (B6 (cs:=[vI (min a7.B am.B),vI (min a8.A am.A)]) Fv O O O (AU ?_));refine BZ EA O c6 λkq kr c7 ks=>?_;refine AW O O O O ty_51.1 O c7 .head O λkt c8 ku=>AU ?_;refine Ej (AU ?_);have c9:=c8.sel [11,11,5,10,10,0,0,0,0,0,0,0,0,0,0] 0 O;have fv:=av.nw;have fw:=ag.nw;have fx:=ax.nw;have fy:=ay.nw;have fz:=az.nw;have f0:=a0.nw;have f1:=a1.nw;have f2:=a2.nw;obtain⟨f3,da,E⟩:=bd E;refine LP O O O bK O (M2 (p0_w:=({ p0_w with h:=({ p0_w.h with N:=bf}:BV)}:BX)) c9 au fv aw fw fx fy fz f0 f1 f2 ap aq em en (AC.mk (x:=(⟨(min a7.B am.B),(min a8.A am.A)⟩:AB)) ⟨(G4 fp ft),(G4 fs fu)⟩) da) λkv kw kx ky p=>?_;obtain⟨f4,rfl,db⟩:=p;refine AU ?_;refine Gs 7 mo (by kernel_rfl) O db (AU ?_);refine BB E O O O Q7 O (λf5 dc h' o=>IP (St.all h') fq b9 dc) λf5 E f6=>?_;have f7:=f6;refine BB E O O O Q7 O (λcd dd h' o=>IP (St.all h') bv f7 dd) λcd E f8=>?_;have f9:=f8;refine Em λkz de k0=>?_;refine AW O O O O ty_3.1 O de (.tail (.tail (.tail (.tail (.tail (.tail (.tail (.tail (.tail (.tail (.tail .head))))))))))) O λk1 df k2=>AU ?_;refine Gs 7 mo (by kernel_rfl) O df (AU ?_);refine BB E O O O MW O (λga dg h' o=>Ge (St.all h') fr b9 dg) λga E gb=>?_;have gc:=gb;refine BB E O O O Q7 O (λce dh h' o=>IP (St.all h') bu gc dh) λce E ge=>?_;have gf:=ge;refine Em λk3 di k4=>?_;refine AW O O O O ty_3.1 O di (.tail (.tail (.tail (.tail (.tail (.tail (.tail (.tail (.tail (.tail .head)))))))))) O λk5 dj k6=>AU ?_;refine B3 (AU ?_);refine WF.nil (λaa ww hf hw=>?_);have dk:=dj.sel [2,9,9,9,9,9,0,0,0,0] 5 O;exact⟨(BR (a3+1)),ce,cd,f4,f3,_,_,hf.sub (kp [37,36,11,10,9,8,7,6,0,1,38] O),hw,dk,EX,(B1 _),gf,f9,E⟩
  refine WF.exit O (λaa ww hf hw=>?_);exact⟨a4,a5,bn,bf,_,_,hf.sub (kp [11,7,6,0,1] O),hw,bt,b8,bu,bv,E⟩
 rintro aa ww ⟨bc,be,bs,bm,k7,k8,hf,hw,a9,k9,gg,gh,E⟩;refine AI ?_ hf hw;clear hf hw ww aa;rw[Cz] at E;refine AU ?_;refine Ej (AU ?_);refine Hb E O O O bL O a9 (λaf dl=>Lu (St.all _) (a9.bxAll (r:=AC) (x:=ab) (mt (mt (mt mh))) ⟨O,⟨b6,b7⟩⟩) (a9.bxAll (r:=AY) (x:=be) (mt (mt mh)) ⟨O,gh⟩) (a9.bxAll (r:=AY) (x:=bc) (mt mh) ⟨O,gg⟩) dl) λaf E la lb lc dm le lf p=>?_;obtain⟨rfl,⟨gi,gj⟩,i1⟩:=p;refine BZ EA O dm λbz lg dn lh=>?_;refine AW O O O O ty_51.1 O dn .head O λgk ai li=>AU ?_;refine Ro (kp [18,7,6,0,1] O) ?_;obtain⟨an,dp,E⟩:=bd E;obtain⟨ao,dq,E⟩:=bd E;refine QC (m:=[(18,vP bz 0),(7,vP bb 0),(6,vP b1 0),(0,vP c 0),(1,vI k)]) 14 (λi v u=>match i with|0=>v=vP bz 0|1=>v=vI af.B∧AA af.B|2=>v=vP bb 3|3=>v=vI x6.Ai∧AA x6.Ai|4=>v=vI an∧AA an|5=>v=vI (max 0 an)∧AA (max 0 an)|6=>v=vP bz 1|7=>v=vI af.A∧AA af.A|8=>v=vP bb 3|9=>v=vI x6.Ai∧AA x6.Ai|10=>v=vI ao∧AA ao|11=>v=vI (max 0 ao)∧AA (max 0 ao)|12=>v= .agg #[vI (max 0 an),vI (max 0 ao)]∧AA (max 0 an)∧AA (max 0 ao)|13=>RP gk 51 [vI 0,vI 0] v u|_=>False) [[],[(0,89)],[],[(2,91)],[(1,90),(3,92)],[(4,93)],[],[(6,95)],[],[(8,97)],[(7,96),(9,98)],[(10,99)],[(5,94),(11,100)],[]] [(12,101),(13,19)] mo (by kernel_rfl) [18,7,6,0,1] O (by kernel_rfl) (by kernel_rfl) (by kernel_rfl) (kp [18,7,6,0,1] O) MO ?_ ?_
 ·refine BM.cons O EY (BM.cons O EY (BM.cons O EY (BM.cons O EY (BM.cons O ?_ ?_))))
  ·intro mq u o;intro lj gl ll gm;have j:=SN.st ai o;obtain⟨rfl,gn⟩:=gl;obtain⟨rfl,gp⟩:=gm;refine EQ O O O MW O j (Ge (St.all _) gn gp dp) λlm ln lo i2 lp cf p=>?_;obtain⟨rfl,gq,i3⟩:=p;exact EB ⟨cf.siz,λb hb=>cf.same b hb⟩ ⟨O,gq⟩
  refine BM.cons O ?_ ?_
  ·intro mq u o;intro lq gr;have j:=o.st ai;obtain⟨rfl,gs⟩:=gr;refine AU ?_;refine Ku O O O (AU ?_);exact B0 ⟨O,(HK (iq (n:=0) O) gs)⟩
  refine BM.cons O EY (BM.cons O EY (BM.cons O EY (BM.cons O EY (BM.cons O ?_ ?_))))
  ·intro mq u o;intro lr gu ls gv;have j:=SN.st ai o;obtain⟨rfl,gw⟩:=gu;obtain⟨rfl,gx⟩:=gv;refine EQ O O O MW O j (Ge (St.all _) gw gx dq) λlt lu lw i4 lx cg p=>?_;obtain⟨rfl,gy,i5⟩:=p;exact EB ⟨cg.siz,λb hb=>cg.same b hb⟩ ⟨O,gy⟩
  refine BM.cons O ?_ ?_
  ·intro mq u o;intro ly gz;have j:=o.st ai;obtain⟨rfl,g0⟩:=gz;refine AU ?_;refine Ku O O O (AU ?_);exact B0 ⟨O,(HK (iq (n:=0) O) g0)⟩
  refine BM.cons O ?_ ?_
  ·intro mq u o;intro lz g1 l0 g2;have j:=o.st ai;obtain⟨rfl,g3⟩:=g1;obtain⟨rfl,g4⟩:=g2;refine AU ?_;refine B6 (cs:=[vI (max 0 an),vI (max 0 ao)]) Fv O O O (AU ?_);exact B0 ⟨O,g3,g4⟩
  exact BM.cons O (λ_ _ o=>Nk o EA O λ_ h' o' r'=>EB o' r') trivial
 intro l1 g5 l2 g6 l3 g7;obtain⟨l4,rfl,dr⟩:=g7.st ai g5;obtain⟨rfl,ch,ci⟩:=g6;refine AW O O O O ty_51.1 O dr .head O λl5 ds l6=>AU ?_;refine Ej (AU ?_);have dt:=ds.sel [8,8,2,7,7,0,0,0,0,0,0,0] 0 O;have g8:=av.nw;have g9:=ag.nw;have ha:=ax.nw;have hc:=ay.nw;have hd:=az.nw;have he:=a0.nw;have hg:=a1.nw;have hj:=a2.nw;obtain⟨l7,du,E⟩:=bd E;refine LP O O O bK O (M2 (p0_w:=({ p0_w with h:=({ p0_w.h with N:=bm}:BV)}:BX)) dt au g8 aw g9 ha hc hd he hg hj ap aq ih ii (AC.mk (x:=(⟨(max 0 an),(max 0 ao)⟩:AB)) ⟨ch,ci⟩) du) λl8 l9 ma mb p=>?_;obtain⟨mc,rfl,b0⟩:=p;refine AU ?_;refine Pa 18 mo (by kernel_rfl) O (AU ?_);refine Ka O O O (AU ?_);refine Ka O O O (B6 (cs:=[vI (min af.B x6.Ai),vI (min af.A x6.Ai)]) Fv O O O ?_);obtain⟨md,dv,E⟩:=bd E;refine CS b0 (mt mh) O O sl_32.1 dv O λme dw=>AU ?_;obtain⟨hk,dx,E⟩:=bd E;refine JD (r:=AC) (l:=p0_w.h.K) (i:=k) (x:=hk) O O (AC.mk (x:=(⟨(min af.B x6.Ai),(min af.A x6.Ai)⟩:AB)) ⟨(G4 gi d7),(G4 gj d7)⟩) dw dx QD.id ty_51.1 CE b0 (.tail .head) λmf dy mg=>AU ?_;refine AW O O O O ty_51.1 O dy (.tail (.tail (.tail (.tail (.tail (.tail (.tail (.tail (.tail (.tail (.tail .head))))))))))) O λmi dz mj=>AU ?_;refine WF.ret (λaa ww hf hw=>?_);have b2:=dz.sel [11,0,0,0,0,0] 6 O;have d0:=b2.sel [1,1,1,1,1] 1 O;cases E;exact IS hf O hw (GB (K5 hf hw b2 O mh ty_51.1 O) ID) O EX ⟨_,_,O,⟨ch,ci⟩,d0⟩
end Go.Proofs.YtibidnaedddfdaaGreat
