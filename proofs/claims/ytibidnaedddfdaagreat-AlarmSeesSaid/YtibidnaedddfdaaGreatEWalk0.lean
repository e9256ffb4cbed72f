import Derived.Test.YtibidnaedddfdaaGreatEFacts
import Derived.Test.YtibidnaedddfdaaGreatEForms
import Derived.Test.YtibidnaedddfdaaGreatEInsert
namespace Go.Proofs.YtibidnaedddfdaaGreat
set_option linter.all false
open Go.RowKit
open Go.Proofs.Tryz
set_option maxRecDepth 10000
set_option maxHeartbeats 2000000
variable {N:Nat}{S:Nat→Prop}{L:List HP}{h:AX}
def Je (k:St S L h) {b:Value}{c:(List AB)}(a:Sl S h AC b c) {r:(List AB)}(E:Cq N c=some r):
 CD prog 48 #[b] S h (λv S' h'=>St S' (OS AC 51 v r::L) h'):=by
 refine A7 8 func48 O ntmps48 O λB=>?_;rw[Cq] at E;rcases a.cases with ⟨rfl,rfl⟩|⟨n,m,rfl,a⟩
 ·have s:(some ([]:List AB))=some r:=by simpa [chk,room] using E
  refine AU ?_;refine YH O O O ZE (AU ?_);refine Qe O (AU ?_);have d:=k.nil AC 51;cases E;exact Kt d O O EX
 refine AU ?_;refine cL O O O ZE (AU ?_);refine U3 O (AU ?_);refine VE (r:=AC) Nw O O k λt u g o=>AU ?_;have p:=a.mono' o;obtain⟨i,E⟩:=RM E;refine OL (r:=AC) (l:=([]:List AB)) (xs:=c) O O Nw O (Sl.src p) O i O g (λ_=> .head) λw x j q=>AU ?_;cases E;exact Kt j O O EX
def JS (k:St S L h) {b:Value}{c:(List AH)}(a:Sl S h AM b c) {r:(List AH)}(E:Cj N c=some r):
 CD prog 49 #[b] S h (λv S' h'=>St S' (OS AM 97 v r::L) h'):=by
 refine A7 8 func49 O ntmps49 O λB=>?_;rw[Cj] at E;rcases a.cases with ⟨rfl,rfl⟩|⟨n,m,rfl,a⟩
 ·have s:(some ([]:List AH))=some r:=by simpa [chk,room] using E
  refine AU ?_;refine YH O O O ZD (AU ?_);refine Qe O (AU ?_);have d:=k.nil AM 97;cases E;exact Kt d O O EX
 refine AU ?_;refine cL O O O ZD (AU ?_);refine U3 O (AU ?_);refine VE (r:=AM) Xn O O k λt u g o=>AU ?_;have p:=a.mono' o;obtain⟨i,E⟩:=RM E;refine OL (r:=AM) (l:=([]:List AH)) (xs:=c) O O Xn O (Sl.src p) O i O g (λ_=> .head) λw x j q=>AU ?_;cases E;exact Kt j O O EX
def Kj (g:St S L h) {b:Int}(d:AA b) {a:Int}(c:AA a) {r:Bool}(E:Hh N b a=some r):
 CD prog 45 #[vI b,vI a] S h (λv S' h'=>v= .bool r∧St S' (L) h'):=by
 refine A7 12 func45 O ntmps45 O λB=>?_;rw[Hh] at E;exact RT
def JF (k:St S L h) {a:Int}(b:AA a) {r:AB}(E:FE N a=some r):
 CD prog 66 #[vI a] S h (λv S' h'=>v= .agg #[vI r.B,vI r.A]∧AB.ok r∧St S' (L) h'):=by
 refine A7 6 func66 O ntmps66 O λB=>?_;rw[FE] at E;refine AU ?_;refine BZ EA O k λl m d n=>AU ?_;refine B6 (cs:=[vI a,vI a]) Fv O O O (AU ?_);refine AW O O O O ty_51.1 O d .head O λo c p=>AU ?_;refine WF.ret (λq s i j=>?_);have g:=c.drop .head;cases E;exact IS i O j (GB (K5 i j c O mh ty_51.1 O) ID) O EX ⟨O,⟨b,b⟩,g⟩
def LO (l:St S L h) {c:Int}(i:AA c) {b:Int}(g:AA b) {a:Int}(d:AA a) {r:Int}(E:IN N c b a=some r):
 CD prog 145 #[vI c,vI b,vI a] S h (λv S' h'=>v=vI r∧AA r∧St S' (L) h'):=by
 refine A7 16 func145 O ntmps145 O λB=>?_;rw[IN] at E;refine AU ?_;refine AE O E (λj E=>?_) (λj E=>?_)
 ·exact RT
 refine AU ?_;refine AE O E (λk E=>?_) (λk E=>?_)
 ·exact RT
 exact RT
def Um (hs:St S L h) {g:Value}{s:AO}(k:Rd S h BI g s) {j:Value}{b:Ep}(l:Rd S h JA j b) {c:Int}(d:AA c) {r:Ep}(E:L8 N s b c=some r):
 CD prog 100 #[g,j,vI c] S h (λv S' h'=>v= .agg #[vI r.U,vI r.W,.bool r.Bg,.bool r.R]∧Ep.ok r∧St S' (L) h'):=by
 refine A7 16 func100 O ntmps100 O λB=>?_;rw[L8] at E;refine AU ?_;refine AT O k CE O hs λq1 S2 h3 Q e5 k6=>?_;have k7:=l.mono e5;obtain⟨rfl,⟨r9,V⟩⟩:=JA.ex k7;refine NF O O O Q λy af z ag=>BZ VL O z λA C t ah=>?_;have X:=k6.nw;refine AU ?_;refine Er (λa w=>∃(m:Int),IV B S2 C (16,[]) a w [(6,vP A 0),(4,vP y 0)] (Bx A 81 [vI 0,vI 0,.bool false,.bool false]::Bx y 81 [vI b.U,vI m,.bool b.Bg,.bool b.R]::L) λ_ _=>AA m∧LC N b m=some r) ?_ ?_
 ·refine AE O E (λY E=>?_) (λY E=>?_)
  ·refine Ej ?_;have Z:=X.fl Cv;have ab:=Z.i;refine AU ?_;refine Hb E O O O Uw O t (λx D=>LO (St.all _) d (iq (n:=0) O) ab D) λx E ai aj ak F am an p=>?_;obtain⟨rfl,ac,ae⟩:=p;refine AU ?_;refine Ic (cs':=[vI b.U,vI x,.bool b.Bg,.bool b.R]) O O O O ty_3.1 O F (.tail .head) O O λao G ap=>AU ?_;refine WF.nil (λK M o q=>?_);exact⟨x,_,_,o.sub (kp [6,4] O),q,G,EX,ac,E⟩
  refine AU ?_;refine WF.nil (λK M o q=>?_);exact⟨b.W,_,_,o.sub (kp [6,4] O),q,t,(Cc.refl S2 C),V,E⟩
 rintro K M ⟨m,aq,ar,o,q,H,au,ad,E⟩;refine AI ?_ o q;clear o q M K;rw[LC] at E;refine AU ?_;refine AW O O O O ty_81.1 O H .head O λav I aw=>AU ?_;refine WF.ret (λK M o q=>?_);have u:=I.drop (.tail .head);have J:=u.drop .head;cases E;exact IS o O q (GB (K5 o q u O mh ty_81.1 O) ID) O EX ⟨O,⟨r9,ad⟩,J⟩
def Ge (j:St S L h) {a:Int}(c:AA a) {b:Int}(d:AA b) {r:Int}(E:Dq N a b=some r):
 CD prog 106 #[vI a,vI b] S h (λv S' h'=>v=vI r∧AA r∧St S' (L) h'):=by
 refine A7 24 func106 O ntmps106 O λB=>?_;rw[Dq] at E;refine AU ?_;refine AE O E (λg E=>?_) (λg E=>?_)
 ·exact RT
 refine AU ?_;refine AE O E (λi E=>?_) (λi E=>?_)
 ·exact RT
 exact RT
def IP (j:St S L h) {a:Int}(c:AA a) {b:Int}(d:AA b) {r:Int}(E:Es N a b=some r):
 CD prog 60 #[vI a,vI b] S h (λv S' h'=>v=vI r∧AA r∧St S' (L) h'):=by
 refine A7 24 func60 O ntmps60 O λB=>?_;rw[Es] at E;refine AU ?_;refine AE O E (λg E=>?_) (λg E=>?_)
 ·exact RT
 refine AU ?_;refine AE O E (λi E=>?_) (λi E=>?_)
 ·exact RT
 exact RT
def Tq (hs:St S L h) {b:Value}{j:AO}(d:Rd S h BI b j) {c:Value}{a:Ep}(g:Rd S h JA c a) {r:Ep}(E:MJ N j a=some r):
 CD prog 147 #[b,c] S h (λv S' h'=>v= .agg #[vI r.U,vI r.W,.bool r.Bg,.bool r.R]∧Ep.ok r∧St S' (L) h'):=by
 refine A7 26 func147 O ntmps147 O λB=>?_;rw[MJ] at E;refine AU ?_;refine AT O d CE O hs λq1 S2 h3 M e5 k6=>?_;have k7:=g.mono e5;obtain⟨rfl,⟨Q,q⟩⟩:=JA.ex k7;refine NF O O O M λao ap s aq=>BZ VL O s λar au k av=>AU ?_;refine AE O E (λV E=>?_) (λV E=>?_)
 ·refine AU ?_;refine AW O O O O ty_81.1 O k .head O λaw t ax=>AU ?_;refine WF.ret (λaa ww u w=>?_);have l:=t.drop (.tail .head);have x:=l.drop .head;cases E;exact IS u O w (GB (K5 u w l O mh ty_81.1 O) ID) O EX ⟨O,⟨Q,q⟩,x⟩
 refine AU ?_;refine WF.rc (.inr ⟨mo,by kernel_rfl⟩) k (AU ?_);refine BB E O O O MW O (λX y h' o=>Ge (St.all h') q Q y) λX E Y=>?_;have Z:=Y;have z:=k6.nw;have ab:=z.fl HB;have ac:=ab.i;refine AU ?_;refine BB E O O O MW O (λad A h' o=>Ge (St.all h') (iq (n:=0) O) ac A) λad E ae=>?_;have af:=ae;have ag:=z.fl HB;have ah:=ag.i;refine AU ?_;refine BB E O O O Uw O (λai C h' o=>LO (St.all h') Z af ah C) λai E aj=>?_;have ak:=aj;refine AU ?_;refine BD (kp [5,4,3] O) λay D az=>AU ?_;refine Ej (AU ?_);refine Hb E O O O Q7 O D (λF G=>IP (St.all _) Q ak G) λF E a0 a1 a2 H a3 a4 p=>?_;obtain⟨rfl,am,an⟩:=p;refine AU ?_;refine Ic (cs':=[vI F,vI a.W,.bool a.Bg,.bool a.R]) O O O O ty_3.1 O H (.tail .head) O O λa5 I a6=>AU ?_;refine AW O O O O ty_81.1 O I .head O λa7 J a8=>AU ?_;refine WF.ret (λaa ww u w=>?_);have m:=J.drop (.tail .head);have K:=m.drop .head;cases E;exact IS u O w (GB (K5 u w m O mh ty_81.1 O) ID) O EX ⟨O,⟨am,q⟩,K⟩
def Nu (m:St S L h) {a:Int}(b:AA a) {c:Value}{k:AO}(g:Pt S h BI c k) {d:Value}{c2_:AH}(j:Pt S h AM d c2_) {r:Int}(E:IW N k c2_ a=some r):
 CD prog 146 #[vI a,c,d] S h (λv S' h'=>v=vI r∧AA r∧St S' (L) h'):=by
 refine A7 12 func146 O ntmps146 O λB=>?_;rw[IW] at E;refine AU ?_;refine WF.rc (.inl O) m ?_;obtain⟨y,_,p⟩:=g.lv;have q:=j.fl AH.f_Target;have s:=q.i;refine AU ?_;refine B6 (cs:=[vI a,vI c2_.W,.bool false,.bool false]) XD O O O ?_;obtain⟨z,l,E⟩:=bd E;refine In O O O lD O (λh' o=>Tq (St.all h') (p.mono (o.all m.1)) (JA.mk (x:=(⟨a,c2_.W,false,false⟩:Ep)) ⟨b,s⟩) l) λt=>?_;obtain⟨A,C⟩:=t;refine Wx O eG O O (AU ?_);exact BD (kp [4] O) λu n w=>RT
def TD (hs:St S L h) {g:Value}{u:AO}(k:Rd S h BI g u) {j:Value}{a:AH}(l:Rd S h AM j a) {d:Bool}{r:AH}(E:KL N u a d=some r):
 CD prog 101 #[g,j,.bool d] S h (λv S' h'=>v= .agg #[vI r.U.B,vI r.U.A,vI r.W,vI r.R.B,vI r.R.A]∧AH.ok r∧St S' (L) h'):=by
 refine A7 44 func101 O ntmps101 O λB=>?_;rw[KL] at E;refine AU ?_;refine AT O k CE O hs λq1 S2 h3 aj e5 k6=>?_;have k7:=l.mono e5;obtain⟨rfl,⟨r9,m,p,q,s⟩⟩:=AM.ex k7;refine NF O O O aj λba bb H bc=>BZ Tw O H λbe bf c bg=>AU ?_;refine AE O E (λak E=>?_) (λak E=>?_)
 ·refine AU ?_;refine Ma O O O (AU ?_);refine Gs 12 mo (by kernel_rfl) O c (AU ?_);have I:=k6.nw;refine BB E O O O aY O (λz J h' o=>Nu (St.all h') r9 (I.mono (o.all c.1)) (NK.mono (c.bxAll (r:=AM) (x:=a) (mt mh) ⟨O,⟨r9,m,p,q,s⟩⟩) ⟨λb C=>vB C o.siz,λb C=>o.same b C,o.siz⟩) J) λz E am=>?_;have an:=am;refine AU ?_;refine BB E O O O aY O (λD K h' o=>Nu (St.all h') m (I.mono (o.all c.1)) (NK.mono (c.bxAll (r:=AM) (x:=a) (mt mh) ⟨O,⟨r9,m,p,q,s⟩⟩) ⟨λb C=>vB C o.siz,λb C=>o.same b C,o.siz⟩) K) λD E ao=>?_;have ap:=ao;refine B6 (cs:=[vI z,vI D]) Fv O O O (AU ?_);refine Em λbh M bi=>?_;refine Ic (cs':=[vI z,vI D,vI a.W,vI a.R.B,vI a.R.A]) O O O O ty_51.1 O M (.tail .head) O O λbj Q bk=>AU ?_;refine AW O O O O ty_97.1 O Q .head O λbl V bm=>AU ?_;refine WF.ret (λaa ww X Y=>?_);have w:=V.drop (.tail .head);have Z:=w.drop .head;cases E;exact IS X O Y (GB (K5 X Y w O mh ty_97.1 O) ID) O EX ⟨O,⟨an,ap,p,q,s⟩,Z⟩
 refine AU ?_;refine Gs 20 mo (by kernel_rfl) O c ?_;have t:=k6.nw;have aq:=t.fl HB;have ar:=aq.i;refine AU ?_;refine BB E O O O MW O (λau ab h' o=>Ge (St.all h') r9 ar ab) λau E av=>?_;have aw:=av;have ax:=t.fl Cv;have ay:=ax.i;refine AU ?_;refine BB E O O O Uw O (λF ac h' o=>LO (St.all h') aw (iq (n:=0) O) ay ac) λF E az=>?_;have a0:=az;have a1:=t.fl HB;have a2:=a1.i;refine AU ?_;refine BB E O O O Q7 O (λa3 ad h' o=>IP (St.all h') m a2 ad) λa3 E a4=>?_;have a5:=a4;have a6:=t.fl Cv;have a7:=a6.i;refine AU ?_;refine BB E O O O Uw O (λG ae h' o=>LO (St.all h') a5 (iq (n:=0) O) a7 ae) λG E a8=>?_;have a9:=a8;refine B6 (cs:=[vI F,vI G]) Fv O O O (AU ?_);refine Em λbn af bo=>?_;refine Ic (cs':=[vI F,vI G,vI a.W,vI a.R.B,vI a.R.A]) O O O O ty_51.1 O af (.tail .head) O O λbp ag bq=>AU ?_;refine AW O O O O ty_97.1 O ag .head O λbr ah bs=>AU ?_;refine WF.ret (λaa ww X Y=>?_);have y:=ah.drop (.tail .head);have ai:=y.drop .head;cases E;exact IS X O Y (GB (K5 X Y y O mh ty_97.1 O) ID) O EX ⟨O,⟨a0,a9,p,q,s⟩,ai⟩
def Pz {j:Nat}{p0_w:BX}{q:Value}{s:Value}{m:Value}{t:Value}{u:Value}{y:Value}{z:Value}{A:Value}{c:Value}{k:Value}{g:Value}{d:Value}(hs:St S (Bx j 106 [.string p0_w.b.M,q,vI p0_w.b.S,s,m,t,u,y,z,A,vI p0_w.b.T,vI p0_w.h.I,c,k,g,d]::OS AC 51 c p0_w.h.K::OS AM 97 g p0_w.h.D::OS AC 51 d p0_w.peaks::L) h) (cc:p0_w.b.M.size≤maxLen) (cd:Sl S h BU.str q p0_w.b.Aq) (ce:AA p0_w.b.S) (cf:Sl S h B4 s p0_w.b.E) (J:Sl S h BI m p0_w.b.D) (cg:Sl S h Dn t p0_w.b.Ad) (ch:Sl S h De u p0_w.b.Ab) (ci:Sl S h GQ y p0_w.b.Ar) (cj:Sl S h DB z p0_w.b.At) (ck:Sl S h AY A p0_w.b.As) (bc:AA p0_w.b.T) (be:AA p0_w.h.I) (bf:Sl S h BS k p0_w.h.N) {aj:Value}{F:BT}(aq:Rd S h D2 aj F) {p:Value}{C:(List Bool)}(ac:Sl S h BU.bool p C) {r:(List AH)}(E:Hi N p0_w F C=some r):
 CD prog 50 #[vP j 0,aj,p] S h (λv S' h'=>∃an:Value,v= .tuple #[]∧St S' (Bx j 106 [.string p0_w.b.M,q,vI p0_w.b.S,s,m,t,u,y,z,A,vI p0_w.b.T,vI p0_w.h.I,c,k,an,d]::OS AC 51 c p0_w.h.K::OS AM 97 an r::OS AC 51 d p0_w.peaks::L) h'):=by
 refine A7 155 func50 O ntmps50 O λB=>?_;rw[Hi] at E;refine AU ?_;refine AT O aq CE O hs λq1 S2 h3 e9 e5 k6=>?_;have k8:=k6.fl KW;obtain⟨v9,_,fa⟩:=k8.ll;refine AU ?_;refine AQ (λa w=>∃(ay:List AH),IV B S2 h3 (155,[]) a w [(4,q1),(0,vP j 0),(2,p)] (Bx j 106 [.string p0_w.b.M,q,vI p0_w.b.S,s,m,t,u,y,z,A,vI p0_w.b.T,vI p0_w.h.I,c,k,g,d]::OS AC 51 c p0_w.h.K::OS AM 97 g ay::OS AC 51 d p0_w.peaks::L) λ_ _=>Cx N p0_w F C ay=some r) ?_ ?_
 ·refine BJ (λn1=>λa w=>∃(am:Int) (ag:List AH),IV B S2 h3 (155,[]) a w [(15,vI (↑F.Bc.length:Int)),(14,v9),(4,q1),(0,vP j 0),(2,p),(16,vI am)] (Bx j 106 [.string p0_w.b.M,q,vI p0_w.b.S,s,m,t,u,y,z,A,vI p0_w.b.T,vI p0_w.h.I,c,k,g,d]::OS AC 51 c p0_w.h.K::OS AM 97 g ag::OS AC 51 d p0_w.peaks::L) λ_ _=>AA am∧CF N p0_w F (Cx N p0_w F C) n1 am ag=some r) N ?_ ?_ ?_
  ·intro V X G H;exact⟨0,p0_w.h.D,_,_,G.sub (kp [15,14,4,0,2,16] O),H,e9,(Cc.refl S2 h3),(iq (n:=0) O),E⟩
  ·rintro V X ⟨_,_,_,_,_,_,_,_,_,E⟩;rw[CF] at E;cases E
  rintro n1 V X ⟨am,ag,fb,fc,G,H,a1,cl,hj,E⟩;refine AI ?_ G H;clear G H X V;rw[CF] at E;refine AU ?_;refine AE O E (λfd E=>?_) (λfd E=>?_)
  ·refine AU ?_;refine AQ (λa w=>∃(az:List AH),IV B fb fc (155,[]) a w [(15,vI (↑F.Bc.length:Int)),(14,v9),(4,q1),(0,vP j 0),(2,p),(16,vI am)] (Bx j 106 [.string p0_w.b.M,q,vI p0_w.b.S,s,m,t,u,y,z,A,vI p0_w.b.T,vI p0_w.h.I,c,k,g,d]::OS AC 51 c p0_w.h.K::OS AM 97 g az::OS AC 51 d p0_w.peaks::L) λ_ _=>Eb N am (CF N p0_w F (Cx N p0_w F C) n1) az=some r) ?_ ?_
   ·refine AU ?_;have fe:=fa.mono' cl;refine AN E O O fe sl_37.1 O λa0 E hk ff=>?_;obtain⟨hl,_,fg⟩:=ff.lv;refine AU ?_;refine BZ iA O a1 λhm hn cm fh=>?_;have fi:=fg.mono fh;obtain⟨rfl,⟨ho,fj⟩⟩:=JB.ex fi;refine AW O O O O ty_171.1 O cm .head O λhp cn hq=>AU ?_;refine WF.rc (.inr ⟨mo,by kernel_rfl⟩) cn ?_;have fk:=J.nw;have fm:=fk.le;refine AU ?_;refine BC E O O O V9 O (λco cp h' o=>Kj (St.all h') fj (M0 fm) cp) λco E=>AU ?_;obtain⟨fn,Y,E⟩:=bd E;refine A6 12 42 (.bool fn) ?_ ?_
    ·cases cq:(!co)
     ·have Y:=H8 cq Y;refine AU ?_;have fo:=J.nw;refine AN Y O O fo sl_24.1 O λhr Y ht hu=>AU ?_;cases Y;exact A5 O
     have Y:=H7 cq Y;cases Y;exact BO O O
    refine BD (kp [42,7,15,14,4,0,2,16] O) λhv ah hx=>AE O E (λfp E=>?_) (λfp E=>?_)
    ·refine WF.exit O (λV X G H=>?_);have cr:=ah.sel [1,1,1,1] 1 O;exact⟨ag,_,_,G.sub (kp [15,14,4,0,2,16] O),H,cr,EX,E⟩
    refine AU ?_;refine BQ (AU ?_);refine AE O E (λfq E=>?_) (λfq E=>?_)
    ·refine Gs 10 mo (by kernel_rfl) O ah (AU ?_);refine BB E O O O QB O (λbg ct h' o=>JF (St.all h') (iq (n:=1) O) ct) λbg E fr=>?_;obtain⟨fs,ft⟩:=fr;obtain⟨hy,cu,E⟩:=bd E;refine CS ah (mt (mt (mt mh))) O O sl_34.1 cu O λhz cv=>LU O cv fa_97_2.1 O λh0 cw=>Em λh1 cx h2=>?_;obtain⟨cy,cz,E⟩:=bd E;refine JD (r:=AM) (l:=ag) (i:=a0.Z) (x:=cy) O O (AC.mk (x:=bg) ⟨fs,ft⟩) cw cz AH.u_Open ty_51.1 CE cx (.tail (.tail (.tail .head))) λh4 c0 h5=>AU ?_;refine B3 (WF.nil (λV X G H=>?_));have c1:=c0.sel [1,1,1,1] 1 O;exact⟨(upd ag a0.Z ({ cy with R:=bg})),_,_,G.sub (kp [15,14,4,0,2,16] O),H,c1,EX,E⟩
    refine AU ?_;refine AE O E (λfu E=>?_) (λfu E=>?_)
    ·refine Gs 10 mo (by kernel_rfl) O ah (AU ?_);refine BB E O O O QB O (λbh c2 h' o=>JF (St.all h') (iq (n:=0) O) c2) λbh E fv=>?_;obtain⟨fw,fx⟩:=fv;obtain⟨h6,c3,E⟩:=bd E;refine CS ah (mt (mt (mt mh))) O O sl_34.1 c3 O λh7 c4=>LU O c4 fa_97_2.1 O λh8 c5=>Em λh9 c6 ia=>?_;obtain⟨c7,c8,E⟩:=bd E;refine JD (r:=AM) (l:=ag) (i:=a0.Z) (x:=c7) O O (AC.mk (x:=bh) ⟨fw,fx⟩) c5 c8 AH.u_Open ty_51.1 CE c6 (.tail (.tail (.tail .head))) λib c9 ic=>AU ?_;refine B3 (WF.nil (λV X G H=>?_));have da:=c9.sel [1,1,1,1] 1 O;exact⟨(upd ag a0.Z ({ c7 with R:=bh})),_,_,G.sub (kp [15,14,4,0,2,16] O),H,da,EX,E⟩
    refine AU ?_;refine B3 (WF.nil (λV X G H=>?_));have bi:=ah.sel [1,1,1,1] 1 O;exact⟨ag,_,_,G.sub (kp [15,14,4,0,2,16] O),H,bi,EX,E⟩
   rintro V X ⟨az,fy,fz,G,H,bj,f0,E⟩;refine AI ?_ G H;clear G H X V;rw[Eb] at E;refine AU ?_;refine WF.nil (λV X G H=>?_);exact⟨(BR (am+1)),az,_,_,G.sub (kp [15,14,4,0,2,16] O),H,bj,EX,(B1 _),E⟩
  refine WF.exit O (λV X G H=>?_);exact⟨ag,_,_,G.sub (kp [4,0,2] O),H,a1,cl,E⟩
 rintro V X ⟨ay,ar,au,G,H,bk,db,E⟩;refine AI ?_ G H;clear G H X V;rw[Cx] at E;have dc:=k6.mono db;have dd:=dc.fl MD;obtain⟨a2,_,de⟩:=dd.ll;refine AU ?_;refine AQ (λa w=>∃(ao:List AH),IV B ar au (155,[]) a w [(0,vP j 0),(2,p)] (Bx j 106 [.string p0_w.b.M,q,vI p0_w.b.S,s,m,t,u,y,z,A,vI p0_w.b.T,vI p0_w.h.I,c,k,g,d]::OS AC 51 c p0_w.h.K::OS AM 97 g ao::OS AC 51 d p0_w.peaks::L) λ_ _=>Cw N p0_w C ao=some r) ?_ ?_
 ·refine BJ (λn4=>λa w=>∃(ad:Int) (ae:List AH),IV B ar au (155,[]) a w [(72,vI (↑F.Bb.length:Int)),(71,a2),(0,vP j 0),(2,p),(73,vI ad)] (Bx j 106 [.string p0_w.b.M,q,vI p0_w.b.S,s,m,t,u,y,z,A,vI p0_w.b.T,vI p0_w.h.I,c,k,g,d]::OS AC 51 c p0_w.h.K::OS AM 97 g ae::OS AC 51 d p0_w.peaks::L) λ_ _=>AA ad∧CX N p0_w F (Cw N p0_w C) n4 ad ae=some r) N ?_ ?_ ?_
  ·intro V X G H;exact⟨0,ay,_,_,G.sub (kp [72,71,0,2,73] O),H,bk,(Cc.refl ar au),(iq (n:=0) O),E⟩
  ·rintro V X ⟨_,_,_,_,_,_,_,_,_,E⟩;rw[CX] at E;cases E
  rintro n4 V X ⟨ad,ae,df,dg,G,H,av,a3,f1,E⟩;refine AI ?_ G H;clear G H X V;rw[CX] at E;refine AU ?_;refine AE O E (λdh E=>?_) (λdh E=>?_)
  ·refine AU ?_;refine AQ (λa w=>∃(ap:List AH),IV B df dg (155,[]) a w [(72,vI (↑F.Bb.length:Int)),(71,a2),(0,vP j 0),(2,p),(73,vI ad)] (Bx j 106 [.string p0_w.b.M,q,vI p0_w.b.S,s,m,t,u,y,z,A,vI p0_w.b.T,vI p0_w.h.I,c,k,g,d]::OS AC 51 c p0_w.h.K::OS AM 97 g ap::OS AC 51 d p0_w.peaks::L) λ_ _=>GK N ad (CX N p0_w F (Cw N p0_w C) n4) ap=some r) ?_ ?_
   ·refine AU ?_;have di:=de.mono' a3;refine AN E O O di sl_38.1 O λa4 E f2 dj=>?_;obtain⟨f3,_,dk⟩:=dj.lv;refine AU ?_;refine BZ hO O av λf4 f5 bl dl=>?_;have dm:=dk.mono dl;obtain⟨rfl,⟨dn,dp⟩⟩:=KI.ex dm;refine AW O O O O ty_173.1 O bl .head O λf6 bm f7=>AU ?_;refine WF.rc (.inr ⟨mo,by kernel_rfl⟩) bm ?_;have dq:=J.nw;have dr:=dq.le;refine AU ?_;refine BC E O O O V9 O (λds bn h' o=>Kj (St.all h') dn (M0 dr) bn) λds E=>BD (kp [85,9,72,71,0,2,73] O) λf8 af f9=>AE O E (λdt E=>?_) (λdt E=>?_)
    ·refine AU ?_;refine Ix (.inr ⟨mo,by kernel_rfl⟩) (AU ?_);obtain⟨ga,bo,E⟩:=bd E;refine CS af (mt (mt (mt mh))) O O sl_34.1 bo O λgb ai=>AU ?_;refine Gs 21 mo (by kernel_rfl) O af (AU ?_);have du:=J.nw;refine AN E O O du sl_24.1 O λgc E ge dv=>?_;obtain⟨gf,_,dw⟩:=dv.lv;refine AU ?_;refine cF O ai O (LU O ai fa_97_1.1 O λgg bp=>?_);obtain⟨a5,bq,E⟩:=bd E;have dx:=af.epAt (mt (mt (mt mh))) bq AH.f_Target bp;refine GS SO (λ_ x=>x) O dx ty_3.1 O λdy=>B6 (cs:=[vI 0,vI a5.W,.bool false,.bool false]) XD O O O (AU ?_);obtain⟨a6,br,E⟩:=bd E;refine In O O O mB O (λh' o=>Um (St.all h') (dw.mono (o.all af.1)) (JA.mk (x:=(⟨0,a5.W,false,false⟩:Ep)) ⟨(iq (n:=0) O),dy⟩) dp br) λdz=>?_;obtain⟨gh,d0⟩:=dz;refine Wx O eE O O (cF O ai O (LU O ai fa_97_1.1 O λgi bs=>Em λgj bt gk=>?_));obtain⟨a7,bu,E⟩:=bd E;refine JD (r:=AM) (l:=ae) (i:=a4.Z) (x:=a7) O O (⟨_,O,O,d0⟩:Rd _ _ AY _ a6.W) bs bu AH.u_Target ty_3.1 (λ_=>rfl) bt (.tail (.tail (.tail .head))) λgl bv gm=>AU ?_;refine WF.nil (λV X G H=>?_);have bw:=bv.sel [1,1,1,1] 1 O;exact⟨(upd ae a4.Z ({ a7 with W:=a6.W})),_,_,G.sub (kp [72,71,0,2,73] O),H,bw,EX,E⟩
    refine AU ?_;refine WF.nil (λV X G H=>?_);have bx:=af.sel [1,1,1,1] 1 O;exact⟨ae,_,_,G.sub (kp [72,71,0,2,73] O),H,bx,EX,E⟩
   rintro V X ⟨ap,gn,gp,G,H,bz,gq,E⟩;refine AI ?_ G H;clear G H X V;rw[GK] at E;refine AU ?_;refine WF.nil (λV X G H=>?_);exact⟨(BR (ad+1)),ap,_,_,G.sub (kp [72,71,0,2,73] O),H,bz,EX,(B1 _),E⟩
  refine WF.exit O (λV X G H=>?_);exact⟨ae,_,_,G.sub (kp [0,2] O),H,av,a3,E⟩
 rintro V X ⟨ao,a8,a9,G,H,b0,gr,E⟩;refine AI ?_ G H;clear G H X V;rw[Cw] at E;have d1:=J.nw;refine AU ?_;refine BQ (BJ (λn6=>λa w=>∃(ab:Int) (ak:List AH),IV B a8 a9 (155,[]) a w [(121,vI (↑p0_w.b.D.length:Int)),(120,m),(0,vP j 0),(2,p),(122,vI ab)] (Bx j 106 [.string p0_w.b.M,q,vI p0_w.b.S,s,m,t,u,y,z,A,vI p0_w.b.T,vI p0_w.h.I,c,k,g,d]::OS AC 51 c p0_w.h.K::OS AM 97 g ak::OS AC 51 d p0_w.peaks::L) λ_ _=>AA ab∧D5 N p0_w C n6 ab ak=some r) N ?_ ?_ ?_)
 ·intro V X G H;exact⟨0,ao,_,_,G.sub (kp [121,120,0,2,122] O),H,b0,(Cc.refl a8 a9),(iq (n:=0) O),E⟩
 ·rintro V X ⟨_,_,_,_,_,_,_,_,_,E⟩;rw[D5] at E;cases E
 rintro n6 V X ⟨ab,ak,gs,gu,G,H,aw,d2,gv,E⟩;refine AI ?_ G H;clear G H X V;rw[D5] at E;refine AU ?_;refine AE O E (λd3 E=>?_) (λd3 E=>?_)
 ·refine AU ?_;refine BQ (AU ?_);have d4:=d1.mono' d2;refine AN E O O d4 sl_24.1 O λd5 E gw d6=>?_;obtain⟨gx,_,d7⟩:=d6.lv;refine AU ?_;refine BZ Nb O aw λgy gz b1 d8=>AU ?_;have d9:=d7.mono d8;obtain⟨g0,g1,g2,rfl,ea,eb,ec,ed,ee,ef,eg,eh,ei,ej,ek,el,em,en,eo,ep,eq,er⟩:=BI.ex d9;refine Hv O O O ON ty_102.1 O b1 .head O λg3 Q ax=>AU ?_;refine Gs 27 mo (by kernel_rfl) O Q (AU ?_);obtain⟨g4,b2,E⟩:=bd E;refine CS Q (mt (mt (mt mh))) O O sl_34.1 b2 O λg5 b3=>?_;obtain⟨g6,b4,E⟩:=bd E;have es:=Q.epAt (mt (mt (mt mh))) b4 GC.id b3;refine Il SO (λ_ x=>x) O es ty_97.1 CE O λg7 eu=>?_;have g8:=ac.nw;refine AU ?_;obtain⟨ev,U,E⟩:=bd E;refine A6 5 151 (.bool ev) ?_ ?_
  ·cases ba:(decide (ab<(↑C.length:Int)))
   ·have U:=H8 ba U;cases U;exact BO O O
   have U:=H7 ba U;refine AU ?_;have ew:=ac.nw;refine AN U O O ew sl_43.1 O λg9 U ha hb=>AU ?_;cases U;exact A5 O
  have ey:=ee.mono' ax;have ez:=ef.mono' ax;have e0:=eg.mono' ax;obtain⟨bb,b5,E⟩:=bd E;refine In O O O mA O (λh' o=>TD (St.all h') (BI.mk (x:=d5) ea eb ec ed (ey.mono' (o.all Q.1)) (ez.mono' (o.all Q.1)) (e0.mono' (o.all Q.1)) eh ei ej ek el em en eo ep eq er) (eu.mono (o.all Q.1)) b5) λe1=>?_;obtain⟨e2,e3,e4,e6,e7⟩:=e1;obtain⟨hc,b6,E⟩:=bd E;refine CS Q (mt (mt (mt mh))) O O sl_34.1 b6 O λhd b7=>Em λhe b8 hg=>?_;obtain⟨e8,b9,E⟩:=bd E;refine JD (r:=AM) (l:=ak) (i:=ab) (x:=e8) O O (AM.mk (x:=bb) ⟨e2,e3,e4,e6,e7⟩) b7 b9 QD.id ty_97.1 CE b8 (.tail (.tail (.tail .head))) λhh ca hi=>AU ?_;refine B3 (AU ?_);refine WF.nil (λV X G H=>?_);have cb:=ca.sel [1,1,1,1] 1 O;exact⟨(BR (ab+1)),(upd ak ab bb),_,_,G.sub (kp [121,120,0,2,122] O),H,cb,EX,(B1 _),E⟩
 refine LG O (WF.nil (λV X G H=>?_));cases E;exact IS G O H ID O EX ⟨_,O,aw⟩
end Go.Proofs.YtibidnaedddfdaaGreat
