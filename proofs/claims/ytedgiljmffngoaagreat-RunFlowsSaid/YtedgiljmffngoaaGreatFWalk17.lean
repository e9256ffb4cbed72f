import Derived.Test.YtedgiljmffngoaaGreatFFacts
import Derived.Test.YtedgiljmffngoaaGreatFForms
import Derived.Test.YtedgiljmffngoaaGreatFInst
import Derived.Test.YtedgiljmffngoaaGreatFSort5
import Derived.Test.YtedgiljmffngoaaGreatFWalk11
namespace Go.Proofs.YtedgiljmffngoaaGreat
set_option linter.all false
open Go.RowKit
open Go.Proofs.Tryz
set_option maxRecDepth 10000
set_option maxHeartbeats 2000000
variable {N:Nat}{S:Nat→Prop}{L:List HP}{h:AT}
def Jq (H:St S L h) {c:Value}{m:AO}(l:Rd S h BW c m) {b:Value}{d:(List Int)}(g:Sl S h AB b d) {r:Bool}(E:Je N m d=some r):
 B0 prog 184 #[c,b] S h (λv S' h'=>v= .bool r∧St S' (L) h'):=by
 refine BA 26 func184 O ntmps184 O λB=>?_;rw[Je] at E;refine AU ?_;refine B4 O l CE O H λY S2 t u D Z=>?_;have k7:=g.mono' D;refine AU ?_;refine AF O E (λx E=>?_) (λx E=>?_)
 ·exact RT
 have y:=g.mono' D;refine AU ?_;refine AK (λa w=>IV B S2 t (26,[]) a w [] (L) λ_ _=>Kd N=some r) ?_ ?_
 ·refine AY (λF=>λa w=>∃(i:Int),IV B S2 t (26,[]) a w [(14,vI (↑d.length:Int)),(13,b),(15,vI i)] (L) λ_ _=>AA i∧JE N d (Kd N) F i=some r) N ?_ ?_ ?_
  ·intro p q j k;exact⟨0,_,_,j.sub (kp [14,13,15] O),k,u,(B6.refl S2 t),(iq (n:=0) O),E⟩
  ·rintro p q ⟨_,_,_,_,_,_,_,_,E⟩;rw[JE] at E;cases E
  rintro F p q ⟨i,I,J,j,k,o,s,K,E⟩;refine AI ?_ j k;clear j k q p;rw[JE] at E;refine AU ?_;refine AF O E (λz E=>?_) (λz E=>?_)
  ·refine AU ?_;refine AZ (AU ?_);have A:=y.mono' s;refine A9 E O O A sl_29.1 O λM E Q U=>AU ?_;refine AF O E (λC E=>?_) (λC E=>?_)
   ·exact RT
   refine AU ?_;refine BD (AU ?_);refine WF.nil (λp q j k=>?_);exact⟨(BG (i+1)),_,_,j.sub (kp [14,13,15] O),k,o,s,(BF _),E⟩
  refine A8 O (λp q j k=>?_);exact⟨_,_,j.sub MC,k,o,s,E⟩
 rintro p q ⟨V,W,j,k,G,X,E⟩;refine AI ?_ j k;clear j k q p;rw[Kd] at E;exact RT
def Ll (hs:St S L h) {s:Value}{i:AO}(z:Rd S h BW s i) {t:Value}{c:AJ}(A:Rd S h A7 t c) {r:Bool}(E:JP N i c=some r):
 B0 prog 99 #[s,t] S h (λv S' h'=>v= .bool r∧St S' (L) h'):=by
 refine BA 62 func99 O ntmps99 O λB=>?_;rw[JP] at E;refine AU ?_;refine B4 O z CE O hs λq1 S2 h3 a3 e5 k6=>?_;have k7:=A.mono e5;refine B4 O k7 CE O a3 λq8 S9 cf m a4 J=>AU ?_;refine BZ (.inl O) m ?_;have C:=k6.mono a4;refine AU ?_;obtain⟨Z,d,E⟩:=bd E;refine AS 6 22 (.bool Z) ?_ ?_
 ·cases ab:(decide ((↑c.F.length:Int)≠(↑i.E.length:Int)))
  ·have d:=Em ab d;obtain⟨cg,_,a5⟩:=C.lv;have a6:=J.fl Hm;obtain⟨ch,_,a7⟩:=a6.ll;refine AU ?_;refine BC d O O O Qa O (λa8 ac h' o=>Jq (St.all h') (a5.mono (o.all m.1)) (a7.mono' (o.all m.1)) ac) λa8 d=>AU ?_;cases d;exact AQ O
  have d:=El ab d;cases d;exact A6 O O
 refine AU ?_;obtain⟨a9,g,E⟩:=bd E;refine AS 6 29 (.bool a9) ?_ ?_
 ·cases ad:Z
  ·have g:=Em ad g;obtain⟨ci,_,ba⟩:=C.lv;have bb:=J.fl FE;obtain⟨cj,_,bc⟩:=bb.ll;refine AU ?_;refine BC g O O O Qa O (λbe ae h' o=>Jq (St.all h') (ba.mono (o.all m.1)) (bc.mono' (o.all m.1)) ae) λbe g=>AU ?_;cases g;exact AQ O
  have g:=El ad g;cases g;exact A6 O O
 refine BL (kp [29,3,2] O) λK af bf=>AF O E (λbg E=>?_) (λbg E=>?_)
 ·exact RT
 have ag:=J.mono bf;have bh:=ag.fl Dg;obtain⟨bi,_,bj⟩:=bh.ll;refine AU ?_;refine AK (λa w=>IV B S9 K (62,[]) a w [(3,q8),(2,q1)] (L) λ_ _=>Hq N i c=some r) ?_ ?_
 ·refine AY (λn1=>λa w=>∃(x:Int),IV B S9 K (62,[]) a w [(32,vI (↑c.F.length:Int)),(31,bi),(3,q8),(2,q1),(33,vI x)] (L) λ_ _=>AA x∧GK N i c (Hq N i c) n1 x=some r) N ?_ ?_ ?_
  ·intro p q j k;exact⟨0,_,_,j.sub (kp [32,31,3,2,33] O),k,af,(B6.refl S9 K),(iq (n:=0) O),E⟩
  ·rintro p q ⟨_,_,_,_,_,_,_,_,E⟩;rw[GK] at E;cases E
  rintro n1 p q ⟨x,ck,cl,j,k,u,ah,cm,E⟩;refine AI ?_ j k;clear j k q p;rw[GK] at E;refine AU ?_;refine AF O E (λbk E=>?_) (λbk E=>?_)
  ·refine AU ?_;refine AZ (AU ?_);have bl:=bj.mono' ah;refine A9 E O O bl sl_32.1 O λcn E co bm=>?_;obtain⟨cp,_,bn⟩:=bm.ll;refine AU ?_;refine BZ (.inl O) u ?_;have bo:=C.nw;obtain⟨cq,_,bp⟩:=bo.lv;refine AU ?_;refine BC E O O O Qa O (λbq ai h' o=>Jq (St.all h') (bp.mono (o.all u.1)) (bn.mono' (o.all u.1)) ai) λbq E=>AU ?_;refine BL (kp [40,32,31,3,2,33] O) λcr aj cs=>AF O E (λbr E=>?_) (λbr E=>?_)
   ·exact RT
   refine AU ?_;refine BD (AU ?_);refine WF.nil (λp q j k=>?_);exact⟨(BG (x+1)),_,_,j.sub (kp [32,31,3,2,33] O),k,aj,EX,(BF _),E⟩
  refine A8 O (λp q j k=>?_);exact⟨_,_,j.sub (kp [3,2] O),k,u,ah,E⟩
 rintro p q ⟨M,Q,j,k,ak,bs,E⟩;refine AI ?_ j k;clear j k q p;rw[Hq] at E;have bt:=ag.mono bs;have bu:=bt.fl Dt;obtain⟨bv,_,bw⟩:=bu.ll;refine AU ?_;refine AK (λa w=>IV B M Q (62,[]) a w [] (L) λ_ _=>Hp N=some r) ?_ ?_
 ·refine AY (λn3=>λa w=>∃(y:Int),IV B M Q (62,[]) a w [(44,vI (↑c.P.length:Int)),(43,bv),(2,q1),(45,vI y)] (L) λ_ _=>AA y∧GJ N i c (Hp N) n3 y=some r) N ?_ ?_ ?_
  ·intro p q j k;exact⟨0,_,_,j.sub (kp [44,43,2,45] O),k,ak,(B6.refl M Q),(iq (n:=0) O),E⟩
  ·rintro p q ⟨_,_,_,_,_,_,_,_,E⟩;rw[GJ] at E;cases E
  rintro n3 p q ⟨y,ct,cu,j,k,D,am,cv,E⟩;refine AI ?_ j k;clear j k q p;rw[GJ] at E;refine AU ?_;refine AF O E (λbx E=>?_) (λbx E=>?_)
  ·refine AU ?_;refine AZ (AU ?_);have an:=bw.mono' am;refine A9 E O O an sl_33.1 O λb0 E b1 ao=>?_;obtain⟨b2,_,ap⟩:=ao.lv;refine AU ?_;refine CG NB O D λb3 b4 U aq=>?_;have ar:=ap.mono aq;obtain⟨b5,rfl,b6,au,av⟩:=A3.ex ar;refine Dj O O O ON ty_121.1 O U .head O λb7 l aw=>AU ?_;refine BZ (.inl O) l ?_;have G:=C.nw;obtain⟨b8,_,ax⟩:=G.lv;refine AU ?_;refine BC E O O O Qd O (λH V h' o=>Hv (St.all h') (ax.mono (o.all l.1)) au V) λH E=>AU ?_;obtain⟨ay,b,E⟩:=bd E;refine AS 6 60 (.bool ay) ?_ ?_
   ·cases I:(!H)
    ·have b:=Em I b;obtain⟨b9,_,az⟩:=G.lv;refine AU ?_;have a0:=av.mono' aw;refine BC b O O O Qa O (λa1 W h' o=>Jq (St.all h') (az.mono (o.all l.1)) (a0.mono' (o.all l.1)) W) λa1 b=>AU ?_;cases b;exact AQ O
    have b:=El I b;cases b;exact A6 O O
   refine BL (kp [60,44,43,2,45] O) λca X cb=>AF O E (λa2 E=>?_) (λa2 E=>?_)
   ·exact RT
   refine AU ?_;refine BD (AU ?_);refine WF.nil (λp q j k=>?_);have Y:=X.drop .head;exact⟨(BG (y+1)),_,_,j.sub (kp [44,43,2,45] O),k,Y,EX,(BF _),E⟩
  refine A8 O (λp q j k=>?_);exact⟨_,_,j.sub MC,k,D,am,E⟩
 rintro p q ⟨cc,cd,j,k,bz,ce,E⟩;refine AI ?_ j k;clear j k q p;rw[Hp] at E;exact RT
def PK (hs:St S L h) {j:Value}{p:AO}(m:Rd S h BW j p) {k:Value}{l:AX}(n:Rd S h BJ k l) {r:Bool}(E:LR N p l=some r):
 B0 prog 100 #[j,k] S h (λv S' h'=>v= .bool r∧St S' (L) h'):=by
 refine BA 31 func100 O ntmps100 O λB=>?_;rw[LR] at E;refine AU ?_;refine B4 O m CE O hs λq1 S2 h3 G e5 k6=>?_;have k7:=n.mono e5;refine B4 O k7 CE O G λq8 S9 ae g H q=>AU ?_;refine BZ (.inl O) g ?_;have s:=k6.mono H;obtain⟨af,_,I⟩:=s.lv;have J:=q.fl AX.f_Part;obtain⟨ag,_,K⟩:=J.ll;refine AU ?_;refine BC E O O O Qa O (λt u h' o=>Jq (St.all h') (I.mono (o.all g.1)) (K.mono' (o.all g.1)) u) λt E=>AU ?_;obtain⟨w,a,E⟩:=bd E;refine AS 10 19 (.bool w) ?_ ?_
 ·cases x:t
  ·have a:=Em x a;cases a;exact A6 O O
  have a:=El x a;refine AU ?_;obtain⟨M,b,a⟩:=bd a;refine AS 5 18 (.bool M) ?_ ?_
  ·cases y:(decide (l.D=(-1)))
   ·have b:=Em y b;obtain⟨ah,_,Q⟩:=s.lv;have U:=q.fl AX.f_From;have V:=U.i;refine AU ?_;refine BC b O O O Qd O (λW z h' o=>Hv (St.all h') (Q.mono (o.all g.1)) V z) λW b=>AU ?_;cases b;exact AQ O
   have b:=El y b;cases b;exact A6 O O
  refine AU ?_;cases a;exact AQ O
 refine AU ?_;obtain⟨X,c,E⟩:=bd E;refine AS 10 30 (.bool X) ?_ ?_
 ·cases A:w
  ·have c:=Em A c;cases c;exact A6 O O
  have c:=El A c;refine AU ?_;obtain⟨Y,d,c⟩:=bd c;refine AS 5 29 (.bool Y) ?_ ?_
  ·cases C:(decide (l.B=(-1)))
   ·have d:=Em C d;obtain⟨ai,_,Z⟩:=s.lv;have aa:=q.fl AX.f_To;have ab:=aa.i;refine AU ?_;refine BC d O O O Qd O (λac F h' o=>Hv (St.all h') (Z.mono (o.all g.1)) ab F) λac d=>AU ?_;cases d;exact AQ O
   have d:=El C d;cases d;exact A6 O O
  refine AU ?_;cases c;exact AQ O
 refine AU ?_;exact BL (kp [4] O) λaj ad ak=>RT
def PI (D:St S L h) {b:Value}{p0_w:AH}(g:Rd S h Fo b p0_w) {a:Int}(p:AA a) {r:AH}(E:LQ N p0_w a=some r):
 B0 prog 185 #[b,vI a] S h (λv S' h'=>v= .agg #[vI r.hi,.int .u64 r.lo]∧AH.ok r∧St S' (L) h'):=by
 refine BA 22 func185 O ntmps185 O λB=>?_;rw[LQ] at E;refine AU ?_;refine B4 O g CE O D λK S2 M q Q F=>CG TH O q λU V j s=>AU ?_;refine BZ (.inl O) j ?_;have k:=F.mono s;have t:=k.fl Lg;refine AU ?_;refine SH Lr j.1 O t ty_176.1 O λl=>AU ?_;refine Ca O Jp Fi O ?_;have u:=P9 (x:=p0_w.lo) (y:=(IntKind.wrap .u64 a)) (c:=0) l (CT _ _) aV;refine TB O O (TJ _ _ _ l (CT _ _) aV) O (AU ?_);refine BL (kp [6,5,4,2] O) λG m w=>?_;have H:=k.mono w;refine AU ?_;refine Ca O Fi Jp O ?_;obtain⟨n,d,E⟩:=bd E;have d:=gC d;have z:AA n:=d▸BF _;refine Xa O O O d (AU ?_);refine Dd (cs:=[vI n,.int .u64 ((GG p0_w.lo (IntKind.wrap .u64 a) 0).1)]) TO O O O (AU ?_);refine CV O O O O ty_178.1 O m .head O λI i J=>AU ?_;refine BS (λW X A C=>?_);have o:=i.drop .head;cases E;exact Hk A O C (Eg (Rn A C i O mh ty_178.1 O) Hj) O EX ⟨O,⟨z,u.1⟩,o⟩
def FI {g:Nat}{m:(List (AC×AH))}(hs:St S (MP (λk:AC=>Value.agg (AC.v k).toArray) (λk:AH=>Value.agg #[vI (BG k.hi),.int .u64 (IntKind.wrap .u64 k.lo)]) g m::L) h) {c:Int}(A:AA c) {b:Int}(q:AA b) {d:Value}{j:(List Int)}(l:Sl S h AB d j) {r:(List (AC×AH))}(E:D2 N m c b j=some r):
 B0 prog 102 #[.map (some g),vI c,vI b,d] S h (λv S' h'=>v= .tuple #[]∧St S' (MP (λk:AC=>Value.agg (AC.v k).toArray) (λk:AH=>Value.agg #[vI (BG k.hi),.int .u64 (IntKind.wrap .u64 k.lo)]) g r::L) h'):=by
 refine BA 30 func102 O ntmps102 O λB=>?_;rw[D2] at E;refine AU ?_;refine AZ (AY (λn0=>λa w=>∃(p:Int) (D:(List (AC×AH))),IV B S h (30,[]) a w [(12,vI (↑j.length:Int)),(11,d),(0,.map (some g)),(1,vI c),(2,vI b),(13,vI p)] (MP (λk:AC=>Value.agg (AC.v k).toArray) (λk:AH=>Value.agg #[vI (BG k.hi),.int .u64 (IntKind.wrap .u64 k.lo)]) g D::L) λ_ _=>AA p∧En N c b j n0 p D=some r) N ?_ ?_ ?_)
 ·intro F G s t;exact⟨0,m,_,_,s.sub (kp [12,11,0,1,2,13] O),t,hs,(B6.refl S h),(iq (n:=0) O),E⟩
 ·rintro F G ⟨_,_,_,_,_,_,_,_,_,E⟩;rw[En] at E;cases E
 rintro n0 F G ⟨p,D,S8,h9,s,t,u,H,r6,E⟩;refine AI ?_ s t;clear s t G F;rw[En] at E;refine AU ?_;refine AF O E (λU E=>?_) (λU E=>?_)
 ·refine AU ?_;refine AZ (AU ?_);have V:=l.mono' H;refine A9 E O O V sl_29.1 O λac E ad W=>?_;have X:=W.i;refine AU ?_;refine Dd (cs:=[vI c,vI b,vI p]) VP O O O (AU ?_);refine CG VE O u λae af I ag=>?_;refine CV O O O O ty_175.1 O I .head O λah y ai=>AU ?_;refine Ky 7 mo (by kernel_rfl) O y (AU ?_);refine Tk (k0:=(⟨c,b,p⟩:AC)) (z:=(⟨0,0⟩:AH)) Lr y (mt mh) O O QC P4 U9 O O (AU ?_);obtain⟨C,J,E⟩:=bd E;refine Kz O O O Za O (λh' o=>PI (St.all h') (Fo.mk (x:=(⟨(BG (((ML (λk:AC=>Value.agg (AC.v k).toArray) D (⟨c,b,p⟩:AC)).getD (⟨0,0⟩:AH)).hi)),(IntKind.wrap .u64 (((ML (λk:AC=>Value.agg (AC.v k).toArray) D (⟨c,b,p⟩:AC)).getD (⟨0,0⟩:AH)).lo))⟩:AH)) ⟨(BF _),(CT _ _)⟩) X J) λY=>?_;obtain⟨Z,ab⟩:=Y;refine JW λaj K ak=>Tm (k0:=(⟨c,b,p⟩:AC)) (x:=C) K (.tail .head) O O (gB some (Vb C ⟨Z,ab⟩)).symm QC P4 λam M an=>AU ?_;refine BD (AU ?_);refine WF.nil (λF G s t=>?_);have Q:=M.sel [1] 1 O;exact⟨(BG (p+1)),(PM (λk:AC=>Value.agg (AC.v k).toArray) D (⟨c,b,p⟩:AC) C),_,_,s.sub (kp [12,11,0,1,2,13] O),t,Q,EX,(BF _),E⟩
 refine JI O (WF.nil (λF G s t=>?_));cases E;exact Hk s O t Hj O H ⟨O,u⟩
def K6 {b:Nat}{o:(List (AC×AH))}(hs:St S (MP (λk:AC=>Value.agg (AC.v k).toArray) (λk:AH=>Value.agg #[vI (BG k.hi),.int .u64 (IntKind.wrap .u64 k.lo)]) b o::L) h) {i:Value}{c:AJ}(t:Rd S h A7 i c) {r:(List (AC×AH))}(E:Gc N o c=some r):
 B0 prog 101 #[.map (some b),i,.func (.func 102) #[.map (some b)] #[]] S h (λv S' h'=>v= .tuple #[]∧St S' (MP (λk:AC=>Value.agg (AC.v k).toArray) (λk:AH=>Value.agg #[vI (BG k.hi),.int .u64 (IntKind.wrap .u64 k.lo)]) b r::L) h'):=by
 refine BA (l:=[.map (some b),i,.func (.func 102) #[.map (some b)] #[]]) 45 func101 O ntmps101 O λB=>?_;rw[Gc] at E;refine AU ?_;refine B4 O t CE O hs λq1 S2 h3 ap e5 k6=>?_;have k8:=k6.fl Dg;obtain⟨v9,_,aq⟩:=k8.ll;refine AU ?_;refine AK (λa w=>∃(u:(List (AC×AH))),IV B S2 h3 (45,[]) a w [(4,q1),(2,.func (.func 102) #[.map (some b)] #[])] (MP (λk:AC=>Value.agg (AC.v k).toArray) (λk:AH=>Value.agg #[vI (BG k.hi),.int .u64 (IntKind.wrap .u64 k.lo)]) b u::L) λ_ _=>Dx N c u=some r) ?_ ?_
 ·refine AY (λn1=>λa w=>∃(q:Int) (x:(List (AC×AH))),IV B S2 h3 (45,[]) a w [(12,vI (↑c.F.length:Int)),(11,v9),(4,q1),(2,.func (.func 102) #[.map (some b)] #[]),(13,vI q)] (MP (λk:AC=>Value.agg (AC.v k).toArray) (λk:AH=>Value.agg #[vI (BG k.hi),.int .u64 (IntKind.wrap .u64 k.lo)]) b x::L) λ_ _=>AA q∧DC N c (Dx N c) n1 q x=some r) N ?_ ?_ ?_
  ·intro j m d g;exact⟨0,o,_,_,d.sub (kp [12,11,4,2,13] O),g,ap,(B6.refl S2 h3),(iq (n:=0) O),E⟩
  ·rintro j m ⟨_,_,_,_,_,_,_,_,_,E⟩;rw[DC] at E;cases E
  rintro n1 j m ⟨q,x,bm,bn,d,g,z,K,ar,E⟩;refine AI ?_ d g;clear d g m j;rw[DC] at E;refine AU ?_;refine AF O E (λau E=>?_) (λau E=>?_)
  ·refine AU ?_;refine AZ (AU ?_);have av:=aq.mono' K;refine A9 E O O av sl_32.1 O λbo E bp aw=>?_;obtain⟨bq,_,ax⟩:=aw.ll;refine AU ?_;refine B5 (AU ?_);refine BR E O O O Qf O (λM Q=>FI z (iq (n:=0) O) ar ax Q) λM E br bs bt bu p=>?_;obtain⟨rfl,U⟩:=p;refine AU ?_;refine BD (AU ?_);refine WF.nil (λj m d g=>?_);exact⟨(BG (q+1)),M,_,_,d.sub (kp [12,11,4,2,13] O),g,U,EX,(BF _),E⟩
  refine A8 O (λj m d g=>?_);exact⟨x,_,_,d.sub (kp [4,2] O),g,z,K,E⟩
 rintro j m ⟨u,C,D,d,g,V,ay,E⟩;refine AI ?_ d g;clear d g m j;rw[Dx] at E;have W:=k6.mono ay;have az:=W.fl Dt;obtain⟨a0,_,a1⟩:=az.ll;refine AU ?_;refine AK (λa w=>∃(G:(List (AC×AH))),IV B C D (45,[]) a w [(4,q1),(2,.func (.func 102) #[.map (some b)] #[])] (MP (λk:AC=>Value.agg (AC.v k).toArray) (λk:AH=>Value.agg #[vI (BG k.hi),.int .u64 (IntKind.wrap .u64 k.lo)]) b G::L) λ_ _=>Dw N c G=some r) ?_ ?_
 ·refine AY (λn3=>λa w=>∃(s:Int) (y:(List (AC×AH))),IV B C D (45,[]) a w [(25,vI (↑c.P.length:Int)),(24,a0),(4,q1),(2,.func (.func 102) #[.map (some b)] #[]),(26,vI s)] (MP (λk:AC=>Value.agg (AC.v k).toArray) (λk:AH=>Value.agg #[vI (BG k.hi),.int .u64 (IntKind.wrap .u64 k.lo)]) b y::L) λ_ _=>AA s∧DB N c (Dw N c) n3 s y=some r) N ?_ ?_ ?_
  ·intro j m d g;exact⟨0,u,_,_,d.sub (kp [25,24,4,2,26] O),g,V,(B6.refl C D),(iq (n:=0) O),E⟩
  ·rintro j m ⟨_,_,_,_,_,_,_,_,_,E⟩;rw[DB] at E;cases E
  rintro n3 j m ⟨s,y,bv,bw,d,g,A,X,bx,E⟩;refine AI ?_ d g;clear d g m j;rw[DB] at E;refine AU ?_;refine AF O E (λa2 E=>?_) (λa2 E=>?_)
  ·refine AU ?_;refine AZ (AU ?_);have a3:=a1.mono' X;refine A9 E O O a3 sl_33.1 O λbz E b0 a4=>?_;obtain⟨b1,_,a5⟩:=a4.lv;refine AU ?_;refine CG NB O A λb2 b3 Y a6=>?_;have a7:=a5.mono a6;obtain⟨b4,rfl,b5,a8,a9⟩:=A3.ex a7;refine Dj O O O ON ty_121.1 O Y .head O λb6 Z ba=>AU ?_;refine B5 (AU ?_);have ab:=Z.pick (.tail .head);have bb:=a9.mono' ba;refine BR E O O O Qf O (λac ad=>FI ab (iq (n:=0) O) a8 bb ad) λac E b7 b8 b9 ca p=>?_;obtain⟨rfl,ae⟩:=p;refine AU ?_;refine BD (AU ?_);refine WF.nil (λj m d g=>?_);have af:=ae.drop (.tail .head);exact⟨(BG (s+1)),ac,_,_,d.sub (kp [25,24,4,2,26] O),g,af,EX,(BF _),E⟩
  refine A8 O (λj m d g=>?_);exact⟨y,_,_,d.sub (kp [4,2] O),g,A,X,E⟩
 rintro j m ⟨G,cb,cc,d,g,ag,bc,E⟩;refine AI ?_ d g;clear d g m j;rw[Dw] at E;refine AU ?_;refine B5 ?_;have ah:=W.mono bc;have be:=ah.fl Hm;obtain⟨cd,_,bf⟩:=be.ll;refine AU ?_;refine BR E O O O Qf O (λbg ai=>FI ag (iq (n:=1) O) (iq (n:=(-1)) O) bf ai) λbg E ce cf cg aj p=>?_;obtain⟨rfl,H⟩:=p;refine AU ?_;refine B5 ?_;have ak:=ah.mono aj;have am:=ak.fl FE;obtain⟨bh,_,an⟩:=am.ll;refine AU ?_;refine BR E O O O Qf O (λao I=>FI H (iq (n:=2) O) (iq (n:=(-1)) O) an I) λao E bi bj bk bl p=>?_;obtain⟨rfl,J⟩:=p;refine AU ?_;refine WF.nil (λj m d g=>?_);cases E;exact Hk d O g Hj O EX ⟨O,J⟩
def PH (D:St S L h) {b:Value}{p0_w:AH}(g:Rd S h Fo b p0_w) {a:Int}(p:AA a) {r:AH}(E:LP N p0_w a=some r):
 B0 prog 186 #[b,vI a] S h (λv S' h'=>v= .agg #[vI r.hi,.int .u64 r.lo]∧AH.ok r∧St S' (L) h'):=by
 refine BA 22 func186 O ntmps186 O λB=>?_;rw[LP] at E;refine AU ?_;refine B4 O g CE O D λK S2 M q Q F=>CG TH O q λU V j s=>AU ?_;refine BZ (.inl O) j ?_;have k:=F.mono s;have t:=k.fl Lg;refine AU ?_;refine SH Lr j.1 O t ty_176.1 O λl=>AU ?_;refine Ca O Jp Fi O ?_;have u:=VG (x:=p0_w.lo) (y:=(IntKind.wrap .u64 a)) (c:=0) l (CT _ _) aV;refine TB O O (YV _ _ _ l (CT _ _) aV) O (AU ?_);refine BL (kp [6,5,4,2] O) λG m w=>?_;have H:=k.mono w;refine AU ?_;refine Ca O Fi Jp O ?_;obtain⟨n,d,E⟩:=bd E;have d:=gC d;have z:AA n:=d▸BF _;refine XI O O O d (AU ?_);refine Dd (cs:=[vI n,.int .u64 ((KR p0_w.lo (IntKind.wrap .u64 a) 0).1)]) TO O O O (AU ?_);refine CV O O O O ty_178.1 O m .head O λI i J=>AU ?_;refine BS (λW X A C=>?_);have o:=i.drop .head;cases E;exact Hk A O C (Eg (Rn A C i O mh ty_178.1 O) Hj) O EX ⟨O,⟨z,u.1⟩,o⟩
def DO {g:Nat}{m:(List (AC×AH))}(hs:St S (MP (λk:AC=>Value.agg (AC.v k).toArray) (λk:AH=>Value.agg #[vI (BG k.hi),.int .u64 (IntKind.wrap .u64 k.lo)]) g m::L) h) {c:Int}(A:AA c) {b:Int}(q:AA b) {d:Value}{j:(List Int)}(l:Sl S h AB d j) {r:(List (AC×AH))}(E:C4 N m c b j=some r):
 B0 prog 103 #[.map (some g),vI c,vI b,d] S h (λv S' h'=>v= .tuple #[]∧St S' (MP (λk:AC=>Value.agg (AC.v k).toArray) (λk:AH=>Value.agg #[vI (BG k.hi),.int .u64 (IntKind.wrap .u64 k.lo)]) g r::L) h'):=by
 refine BA 30 func103 O ntmps103 O λB=>?_;rw[C4] at E;refine AU ?_;refine AZ (AY (λn0=>λa w=>∃(p:Int) (D:(List (AC×AH))),IV B S h (30,[]) a w [(12,vI (↑j.length:Int)),(11,d),(0,.map (some g)),(1,vI c),(2,vI b),(13,vI p)] (MP (λk:AC=>Value.agg (AC.v k).toArray) (λk:AH=>Value.agg #[vI (BG k.hi),.int .u64 (IntKind.wrap .u64 k.lo)]) g D::L) λ_ _=>AA p∧Eo N c b j n0 p D=some r) N ?_ ?_ ?_)
 ·intro F G s t;exact⟨0,m,_,_,s.sub (kp [12,11,0,1,2,13] O),t,hs,(B6.refl S h),(iq (n:=0) O),E⟩
 ·rintro F G ⟨_,_,_,_,_,_,_,_,_,E⟩;rw[Eo] at E;cases E
 rintro n0 F G ⟨p,D,S8,h9,s,t,u,H,r6,E⟩;refine AI ?_ s t;clear s t G F;rw[Eo] at E;refine AU ?_;refine AF O E (λU E=>?_) (λU E=>?_)
 ·refine AU ?_;refine AZ (AU ?_);have V:=l.mono' H;refine A9 E O O V sl_29.1 O λac E ad W=>?_;have X:=W.i;refine AU ?_;refine Dd (cs:=[vI c,vI b,vI p]) VP O O O (AU ?_);refine CG VE O u λae af I ag=>?_;refine CV O O O O ty_175.1 O I .head O λah y ai=>AU ?_;refine Ky 7 mo (by kernel_rfl) O y (AU ?_);refine Tk (k0:=(⟨c,b,p⟩:AC)) (z:=(⟨0,0⟩:AH)) Lr y (mt mh) O O QC P4 U9 O O (AU ?_);obtain⟨C,J,E⟩:=bd E;refine Kz O O O ZZ O (λh' o=>PH (St.all h') (Fo.mk (x:=(⟨(BG (((ML (λk:AC=>Value.agg (AC.v k).toArray) D (⟨c,b,p⟩:AC)).getD (⟨0,0⟩:AH)).hi)),(IntKind.wrap .u64 (((ML (λk:AC=>Value.agg (AC.v k).toArray) D (⟨c,b,p⟩:AC)).getD (⟨0,0⟩:AH)).lo))⟩:AH)) ⟨(BF _),(CT _ _)⟩) X J) λY=>?_;obtain⟨Z,ab⟩:=Y;refine JW λaj K ak=>Tm (k0:=(⟨c,b,p⟩:AC)) (x:=C) K (.tail .head) O O (gB some (Vb C ⟨Z,ab⟩)).symm QC P4 λam M an=>AU ?_;refine BD (AU ?_);refine WF.nil (λF G s t=>?_);have Q:=M.sel [1] 1 O;exact⟨(BG (p+1)),(PM (λk:AC=>Value.agg (AC.v k).toArray) D (⟨c,b,p⟩:AC) C),_,_,s.sub (kp [12,11,0,1,2,13] O),t,Q,EX,(BF _),E⟩
 refine JI O (WF.nil (λF G s t=>?_));cases E;exact Hk s O t Hj O H ⟨O,u⟩
def K5 {b:Nat}{o:(List (AC×AH))}(hs:St S (MP (λk:AC=>Value.agg (AC.v k).toArray) (λk:AH=>Value.agg #[vI (BG k.hi),.int .u64 (IntKind.wrap .u64 k.lo)]) b o::L) h) {i:Value}{c:AJ}(t:Rd S h A7 i c) {r:(List (AC×AH))}(E:Gb N o c=some r):
 B0 prog 101 #[.map (some b),i,.func (.func 103) #[.map (some b)] #[]] S h (λv S' h'=>v= .tuple #[]∧St S' (MP (λk:AC=>Value.agg (AC.v k).toArray) (λk:AH=>Value.agg #[vI (BG k.hi),.int .u64 (IntKind.wrap .u64 k.lo)]) b r::L) h'):=by
 refine BA (l:=[.map (some b),i,.func (.func 103) #[.map (some b)] #[]]) 45 func101 O ntmps101 O λB=>?_;rw[Gb] at E;refine AU ?_;refine B4 O t CE O hs λq1 S2 h3 ap e5 k6=>?_;have k8:=k6.fl Dg;obtain⟨v9,_,aq⟩:=k8.ll;refine AU ?_;refine AK (λa w=>∃(u:(List (AC×AH))),IV B S2 h3 (45,[]) a w [(4,q1),(2,.func (.func 103) #[.map (some b)] #[])] (MP (λk:AC=>Value.agg (AC.v k).toArray) (λk:AH=>Value.agg #[vI (BG k.hi),.int .u64 (IntKind.wrap .u64 k.lo)]) b u::L) λ_ _=>Dv N c u=some r) ?_ ?_
 ·refine AY (λn1=>λa w=>∃(q:Int) (x:(List (AC×AH))),IV B S2 h3 (45,[]) a w [(12,vI (↑c.F.length:Int)),(11,v9),(4,q1),(2,.func (.func 103) #[.map (some b)] #[]),(13,vI q)] (MP (λk:AC=>Value.agg (AC.v k).toArray) (λk:AH=>Value.agg #[vI (BG k.hi),.int .u64 (IntKind.wrap .u64 k.lo)]) b x::L) λ_ _=>AA q∧DA N c (Dv N c) n1 q x=some r) N ?_ ?_ ?_
  ·intro j m d g;exact⟨0,o,_,_,d.sub (kp [12,11,4,2,13] O),g,ap,(B6.refl S2 h3),(iq (n:=0) O),E⟩
  ·rintro j m ⟨_,_,_,_,_,_,_,_,_,E⟩;rw[DA] at E;cases E
  rintro n1 j m ⟨q,x,bm,bn,d,g,z,K,ar,E⟩;refine AI ?_ d g;clear d g m j;rw[DA] at E;refine AU ?_;refine AF O E (λau E=>?_) (λau E=>?_)
  ·refine AU ?_;refine AZ (AU ?_);have av:=aq.mono' K;refine A9 E O O av sl_32.1 O λbo E bp aw=>?_;obtain⟨bq,_,ax⟩:=aw.ll;refine AU ?_;refine B5 (AU ?_);refine BR E O O O Oe O (λM Q=>DO z (iq (n:=0) O) ar ax Q) λM E br bs bt bu p=>?_;obtain⟨rfl,U⟩:=p;refine AU ?_;refine BD (AU ?_);refine WF.nil (λj m d g=>?_);exact⟨(BG (q+1)),M,_,_,d.sub (kp [12,11,4,2,13] O),g,U,EX,(BF _),E⟩
  refine A8 O (λj m d g=>?_);exact⟨x,_,_,d.sub (kp [4,2] O),g,z,K,E⟩
 rintro j m ⟨u,C,D,d,g,V,ay,E⟩;refine AI ?_ d g;clear d g m j;rw[Dv] at E;have W:=k6.mono ay;have az:=W.fl Dt;obtain⟨a0,_,a1⟩:=az.ll;refine AU ?_;refine AK (λa w=>∃(G:(List (AC×AH))),IV B C D (45,[]) a w [(4,q1),(2,.func (.func 103) #[.map (some b)] #[])] (MP (λk:AC=>Value.agg (AC.v k).toArray) (λk:AH=>Value.agg #[vI (BG k.hi),.int .u64 (IntKind.wrap .u64 k.lo)]) b G::L) λ_ _=>Du N c G=some r) ?_ ?_
 ·refine AY (λn3=>λa w=>∃(s:Int) (y:(List (AC×AH))),IV B C D (45,[]) a w [(25,vI (↑c.P.length:Int)),(24,a0),(4,q1),(2,.func (.func 103) #[.map (some b)] #[]),(26,vI s)] (MP (λk:AC=>Value.agg (AC.v k).toArray) (λk:AH=>Value.agg #[vI (BG k.hi),.int .u64 (IntKind.wrap .u64 k.lo)]) b y::L) λ_ _=>AA s∧C9 N c (Du N c) n3 s y=some r) N ?_ ?_ ?_
  ·intro j m d g;exact⟨0,u,_,_,d.sub (kp [25,24,4,2,26] O),g,V,(B6.refl C D),(iq (n:=0) O),E⟩
  ·rintro j m ⟨_,_,_,_,_,_,_,_,_,E⟩;rw[C9] at E;cases E
  rintro n3 j m ⟨s,y,bv,bw,d,g,A,X,bx,E⟩;refine AI ?_ d g;clear d g m j;rw[C9] at E;refine AU ?_;refine AF O E (λa2 E=>?_) (λa2 E=>?_)
  ·refine AU ?_;refine AZ (AU ?_);have a3:=a1.mono' X;refine A9 E O O a3 sl_33.1 O λbz E b0 a4=>?_;obtain⟨b1,_,a5⟩:=a4.lv;refine AU ?_;refine CG NB O A λb2 b3 Y a6=>?_;have a7:=a5.mono a6;obtain⟨b4,rfl,b5,a8,a9⟩:=A3.ex a7;refine Dj O O O ON ty_121.1 O Y .head O λb6 Z ba=>AU ?_;refine B5 (AU ?_);have ab:=Z.pick (.tail .head);have bb:=a9.mono' ba;refine BR E O O O Oe O (λac ad=>DO ab (iq (n:=0) O) a8 bb ad) λac E b7 b8 b9 ca p=>?_;obtain⟨rfl,ae⟩:=p;refine AU ?_;refine BD (AU ?_);refine WF.nil (λj m d g=>?_);have af:=ae.drop (.tail .head);exact⟨(BG (s+1)),ac,_,_,d.sub (kp [25,24,4,2,26] O),g,af,EX,(BF _),E⟩
  refine A8 O (λj m d g=>?_);exact⟨y,_,_,d.sub (kp [4,2] O),g,A,X,E⟩
 rintro j m ⟨G,cb,cc,d,g,ag,bc,E⟩;refine AI ?_ d g;clear d g m j;rw[Du] at E;refine AU ?_;refine B5 ?_;have ah:=W.mono bc;have be:=ah.fl Hm;obtain⟨cd,_,bf⟩:=be.ll;refine AU ?_;refine BR E O O O Oe O (λbg ai=>DO ag (iq (n:=1) O) (iq (n:=(-1)) O) bf ai) λbg E ce cf cg aj p=>?_;obtain⟨rfl,H⟩:=p;refine AU ?_;refine B5 ?_;have ak:=ah.mono aj;have am:=ak.fl FE;obtain⟨bh,_,an⟩:=am.ll;refine AU ?_;refine BR E O O O Oe O (λao I=>DO H (iq (n:=2) O) (iq (n:=(-1)) O) an I) λao E bi bj bk bl p=>?_;obtain⟨rfl,J⟩:=p;refine AU ?_;refine WF.nil (λj m d g=>?_);cases E;exact Hk d O g Hj O EX ⟨O,J⟩
end Go.Proofs.YtedgiljmffngoaaGreat
