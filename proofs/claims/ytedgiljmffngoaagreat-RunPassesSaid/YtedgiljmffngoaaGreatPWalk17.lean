import Derived.Test.YtedgiljmffngoaaGreatPInst
import Derived.Test.YtedgiljmffngoaaGreatPForms
import Derived.Test.YtedgiljmffngoaaGreatPSort5
import Derived.Test.YtedgiljmffngoaaGreatPWalk11
namespace Go.Proofs.YtedgiljmffngoaaGreat
set_option linter.all false
open Go.RowKit
open Go.Proofs.Tryz
set_option maxRecDepth 10000
set_option maxHeartbeats 2000000
variable {N:Nat}{S:Nat→Prop}{L:List HP}{h:AS}
def Km (H:St S L h) {c:Value}{m:AE}(l:Rd S h By c m) {b:Value}{d:(List Int)}(g:Sl S h AB b d) {r:Bool}(E:KX N m d=some r):
 B6 prog 184 #[c,b] S h (λv S' h'=>v= .bool r∧St S' (L) h'):=by
 refine A7 26 func184 O ntmps184 O λB=>?_;rw[KX] at E;refine AU ?_;refine Bz O l CE O H λY S2 t u D Z=>?_;have k7:=g.mono' D;refine AU ?_;refine AG O E (λx E=>?_) (λx E=>?_)
 ·exact RT
 have y:=g.mono' D;refine AU ?_;refine AN (λa w=>IV B S2 t (26,[]) a w [] (L) λ_ _=>Lc N=some r) ?_ ?_
 ·refine AY (λF=>λa w=>∃(i:Int),IV B S2 t (26,[]) a w [(14,vI (↑d.length:Int)),(13,b),(15,vI i)] (L) λ_ _=>AA i∧KA N d (Lc N) F i=some r) N ?_ ?_ ?_
  ·intro p q j k;exact⟨0,_,_,j.sub (kp [14,13,15] O),k,u,(CG.refl S2 t),(iq (n:=0) O),E⟩
  ·rintro p q ⟨_,_,_,_,_,_,_,_,E⟩;rw[KA] at E;cases E
  rintro F p q ⟨i,I,J,j,k,o,s,K,E⟩;refine AK ?_ j k;clear j k q p;rw[KA] at E;refine AU ?_;refine AG O E (λz E=>?_) (λz E=>?_)
  ·refine AU ?_;refine A3 (AU ?_);have A:=y.mono' s;refine A4 E O O A Ce.1 O λM E Q U=>AU ?_;refine AG O E (λC E=>?_) (λC E=>?_)
   ·exact RT
   refine AU ?_;refine BE (AU ?_);refine WF.nil (λp q j k=>?_);exact⟨(A9 (i+1)),_,_,j.sub (kp [14,13,15] O),k,o,s,(BF _),E⟩
  refine A8 O (λp q j k=>?_);exact⟨_,_,j.sub Nv,k,o,s,E⟩
 rintro p q ⟨V,W,j,k,G,X,E⟩;refine AK ?_ j k;clear j k q p;rw[Lc] at E;exact RT
def M5 (hs:St S L h) {s:Value}{i:AE}(z:Rd S h By s i) {t:Value}{c:AF}(C:Rd S h BA t c) {r:Bool}(E:KK N i c=some r):
 B6 prog 99 #[s,t] S h (λv S' h'=>v= .bool r∧St S' (L) h'):=by
 refine A7 62 func99 O ntmps99 O λB=>?_;rw[KK] at E;refine AU ?_;refine Bz O z CE O hs λq1 S2 h3 a4 e5 k6=>?_;have k7:=C.mono e5;refine Bz O k7 CE O a4 λq8 S9 cg m a5 K=>AU ?_;refine BY (.inl O) m ?_;have D:=k6.mono a5;refine AU ?_;obtain⟨ab,d,E⟩:=bd E;refine AW 6 22 (.bool ab) ?_ ?_
 ·cases ac:(decide ((↑c.E.length:Int)≠(↑i.A.length:Int)))
  ·have d:=Gw ac d;obtain⟨ch,_,a6⟩:=D.lv;have a7:=K.fl I1;obtain⟨ci,_,a8⟩:=a7.ll;refine AU ?_;refine A5 d O O O TR O (λa9 ad h' o=>Km (St.all h') (a6.mono (o.all m.1)) (a8.mono' (o.all m.1)) ad) λa9 d=>AU ?_;cases d;exact AX O
  have d:=Gv ac d;cases d;exact BD O O
 refine AU ?_;obtain⟨ba,g,E⟩:=bd E;refine AW 6 29 (.bool ba) ?_ ?_
 ·cases ae:ab
  ·have g:=Gw ae g;obtain⟨cj,_,bb⟩:=D.lv;have bc:=K.fl HI;obtain⟨ck,_,be⟩:=bc.ll;refine AU ?_;refine A5 g O O O TR O (λbf af h' o=>Km (St.all h') (bb.mono (o.all m.1)) (be.mono' (o.all m.1)) af) λbf g=>AU ?_;cases g;exact AX O
  have g:=Gv ae g;cases g;exact BD O O
 refine BG (kp [29,3,2] O) λM ag bg=>AG O E (λbh E=>?_) (λbh E=>?_)
 ·exact RT
 have ah:=K.mono bg;have bi:=ah.fl FL;obtain⟨bj,_,bk⟩:=bi.ll;refine AU ?_;refine AN (λa w=>IV B S9 M (62,[]) a w [(3,q8),(2,q1)] (L) λ_ _=>I5 N i c=some r) ?_ ?_
 ·refine AY (λn1=>λa w=>∃(x:Int),IV B S9 M (62,[]) a w [(32,vI (↑c.E.length:Int)),(31,bj),(3,q8),(2,q1),(33,vI x)] (L) λ_ _=>AA x∧Hz N i c (I5 N i c) n1 x=some r) N ?_ ?_ ?_
  ·intro p q j k;exact⟨0,_,_,j.sub (kp [32,31,3,2,33] O),k,ag,(CG.refl S9 M),(iq (n:=0) O),E⟩
  ·rintro p q ⟨_,_,_,_,_,_,_,_,E⟩;rw[Hz] at E;cases E
  rintro n1 p q ⟨x,cl,cm,j,k,u,ai,cn,E⟩;refine AK ?_ j k;clear j k q p;rw[Hz] at E;refine AU ?_;refine AG O E (λbl E=>?_) (λbl E=>?_)
  ·refine AU ?_;refine A3 (AU ?_);have bm:=bk.mono' ai;refine A4 E O O bm IP.1 O λco E cp bn=>?_;obtain⟨cq,_,bo⟩:=bn.ll;refine AU ?_;refine BY (.inl O) u ?_;have bp:=D.nw;obtain⟨cr,_,bq⟩:=bp.lv;refine AU ?_;refine A5 E O O O TR O (λbr aj h' o=>Km (St.all h') (bq.mono (o.all u.1)) (bo.mono' (o.all u.1)) aj) λbr E=>AU ?_;refine BG (kp [40,32,31,3,2,33] O) λcs ak ct=>AG O E (λbs E=>?_) (λbs E=>?_)
   ·exact RT
   refine AU ?_;refine BE (AU ?_);refine WF.nil (λp q j k=>?_);exact⟨(A9 (x+1)),_,_,j.sub (kp [32,31,3,2,33] O),k,ak,EX,(BF _),E⟩
  refine A8 O (λp q j k=>?_);exact⟨_,_,j.sub (kp [3,2] O),k,u,ai,E⟩
 rintro p q ⟨Q,U,j,k,am,bt,E⟩;refine AK ?_ j k;clear j k q p;rw[I5] at E;have bu:=ah.mono bt;have bv:=bu.fl Fs;obtain⟨bw,_,bx⟩:=bv.ll;refine AU ?_;refine AN (λa w=>IV B Q U (62,[]) a w [] (L) λ_ _=>I4 N=some r) ?_ ?_
 ·refine AY (λn3=>λa w=>∃(y:Int),IV B Q U (62,[]) a w [(44,vI (↑c.H.length:Int)),(43,bw),(2,q1),(45,vI y)] (L) λ_ _=>AA y∧Hy N i c (I4 N) n3 y=some r) N ?_ ?_ ?_
  ·intro p q j k;exact⟨0,_,_,j.sub (kp [44,43,2,45] O),k,am,(CG.refl Q U),(iq (n:=0) O),E⟩
  ·rintro p q ⟨_,_,_,_,_,_,_,_,E⟩;rw[Hy] at E;cases E
  rintro n3 p q ⟨y,cu,cv,j,k,F,an,cw,E⟩;refine AK ?_ j k;clear j k q p;rw[Hy] at E;refine AU ?_;refine AG O E (λbz E=>?_) (λbz E=>?_)
  ·refine AU ?_;refine A3 (AU ?_);have ao:=bx.mono' an;refine A4 E O O ao LA.1 O λb1 E b2 ap=>?_;obtain⟨b3,_,aq⟩:=ap.lv;refine AU ?_;refine CP Nq O F λb4 b5 V ar=>?_;have au:=aq.mono ar;obtain⟨b6,rfl,b7,av,aw⟩:=AZ.ex au;refine DU O O O ON Ns.1 O V .head O λb8 l ax=>AU ?_;refine BY (.inl O) l ?_;have G:=D.nw;obtain⟨b9,_,ay⟩:=G.lv;refine AU ?_;refine A5 E O O O TU O (λI W h' o=>JF (St.all h') (ay.mono (o.all l.1)) av W) λI E=>AU ?_;obtain⟨az,b,E⟩:=bd E;refine AW 6 60 (.bool az) ?_ ?_
   ·cases J:(!I)
    ·have b:=Gw J b;obtain⟨ca,_,a0⟩:=G.lv;refine AU ?_;have a1:=aw.mono' ax;refine A5 b O O O TR O (λa2 X h' o=>Km (St.all h') (a0.mono (o.all l.1)) (a1.mono' (o.all l.1)) X) λa2 b=>AU ?_;cases b;exact AX O
    have b:=Gv J b;cases b;exact BD O O
   refine BG (kp [60,44,43,2,45] O) λcb Y cc=>AG O E (λa3 E=>?_) (λa3 E=>?_)
   ·exact RT
   refine AU ?_;refine BE (AU ?_);refine WF.nil (λp q j k=>?_);have Z:=Y.drop .head;exact⟨(A9 (y+1)),_,_,j.sub (kp [44,43,2,45] O),k,Z,EX,(BF _),E⟩
  refine A8 O (λp q j k=>?_);exact⟨_,_,j.sub Nv,k,F,an,E⟩
 rintro p q ⟨cd,ce,j,k,b0,cf,E⟩;refine AK ?_ j k;clear j k q p;rw[I4] at E;exact RT
def RW (hs:St S L h) {j:Value}{p:AE}(m:Rd S h By j p) {k:Value}{l:AI}(n:Rd S h BO k l) {r:Bool}(E:Mi N p l=some r):
 B6 prog 100 #[j,k] S h (λv S' h'=>v= .bool r∧St S' (L) h'):=by
 refine A7 31 func100 O ntmps100 O λB=>?_;rw[Mi] at E;refine AU ?_;refine Bz O m CE O hs λq1 S2 h3 G e5 k6=>?_;have k7:=n.mono e5;refine Bz O k7 CE O G λq8 S9 ae g H q=>AU ?_;refine BY (.inl O) g ?_;have s:=k6.mono H;obtain⟨af,_,I⟩:=s.lv;have J:=q.fl AI.f_Part;obtain⟨ag,_,K⟩:=J.ll;refine AU ?_;refine A5 E O O O TR O (λt u h' o=>Km (St.all h') (I.mono (o.all g.1)) (K.mono' (o.all g.1)) u) λt E=>AU ?_;obtain⟨w,a,E⟩:=bd E;refine AW 10 19 (.bool w) ?_ ?_
 ·cases x:t
  ·have a:=Gw x a;cases a;exact BD O O
  have a:=Gv x a;refine AU ?_;obtain⟨M,b,a⟩:=bd a;refine AW 5 18 (.bool M) ?_ ?_
  ·cases y:(decide (l.D=(-1)))
   ·have b:=Gw y b;obtain⟨ah,_,Q⟩:=s.lv;have U:=q.fl AI.f_From;have V:=U.i;refine AU ?_;refine A5 b O O O TU O (λW z h' o=>JF (St.all h') (Q.mono (o.all g.1)) V z) λW b=>AU ?_;cases b;exact AX O
   have b:=Gv y b;cases b;exact BD O O
  refine AU ?_;cases a;exact AX O
 refine AU ?_;obtain⟨X,c,E⟩:=bd E;refine AW 10 30 (.bool X) ?_ ?_
 ·cases A:w
  ·have c:=Gw A c;cases c;exact BD O O
  have c:=Gv A c;refine AU ?_;obtain⟨Y,d,c⟩:=bd c;refine AW 5 29 (.bool Y) ?_ ?_
  ·cases C:(decide (l.B=(-1)))
   ·have d:=Gw C d;obtain⟨ai,_,Z⟩:=s.lv;have aa:=q.fl AI.f_To;have ab:=aa.i;refine AU ?_;refine A5 d O O O TU O (λac F h' o=>JF (St.all h') (Z.mono (o.all g.1)) ab F) λac d=>AU ?_;cases d;exact AX O
   have d:=Gv C d;cases d;exact BD O O
  refine AU ?_;cases c;exact AX O
 refine AU ?_;exact BG (kp [4] O) λaj ad ak=>RT
def RS (D:St S L h) {b:Value}{p0_w:AJ}(g:Rd S h HZ b p0_w) {a:Int}(p:AA a) {r:AJ}(E:Mh N p0_w a=some r):
 B6 prog 185 #[b,vI a] S h (λv S' h'=>v= .agg #[vI r.hi,.int .u64 r.lo]∧AJ.ok r∧St S' (L) h'):=by
 refine A7 22 func185 O ntmps185 O λB=>?_;rw[Mh] at E;refine AU ?_;refine Bz O g CE O D λK S2 M q Q F=>CP Wm O q λU V j s=>AU ?_;refine BY (.inl O) j ?_;have k:=F.mono s;have t:=k.fl Mv;refine AU ?_;refine VP Od j.1 O t aR.1 O λl=>AU ?_;refine Dv O MC If O ?_;have u:=Z2 (x:=p0_w.lo) (y:=(IntKind.wrap .u64 a)) (c:=0) l (Ct _ _) xD;refine fE O O (nF _ _ _ l (Ct _ _) xD) O (AU ?_);refine BG (kp [6,5,4,2] O) λG m w=>?_;have H:=k.mono w;refine AU ?_;refine Dv O If MC O ?_;obtain⟨n,d,E⟩:=bd E;have d:=zZ d;have z:AA n:=d▸BF _;refine kR O O O d (AU ?_);refine FV (cs:=[vI n,.int .u64 ((LE p0_w.lo (IntKind.wrap .u64 a) 0).1)]) Wv O O O (AU ?_);refine C0 O O O O Sn.1 O m .head O λI i J=>AU ?_;refine B0 (λW X A C=>?_);have o:=i.drop .head;cases E;exact JC A O C (G4 (Uk A C i O mh Sn.1 O) JB) O EX ⟨O,⟨z,u.1⟩,o⟩
def HL {g:Nat}{m:(List (AC×AJ))}(hs:St S (MP (λk:AC=>Value.agg (AC.v k).toArray) (λk:AJ=>Value.agg #[vI (A9 k.hi),.int .u64 (IntKind.wrap .u64 k.lo)]) g m::L) h) {c:Int}(A:AA c) {b:Int}(q:AA b) {d:Value}{j:(List Int)}(l:Sl S h AB d j) {r:(List (AC×AJ))}(E:GC N m c b j=some r):
 B6 prog 102 #[.map (some g),vI c,vI b,d] S h (λv S' h'=>v= .tuple #[]∧St S' (MP (λk:AC=>Value.agg (AC.v k).toArray) (λk:AJ=>Value.agg #[vI (A9 k.hi),.int .u64 (IntKind.wrap .u64 k.lo)]) g r::L) h'):=by
 refine A7 30 func102 O ntmps102 O λB=>?_;rw[GC] at E;refine AU ?_;refine A3 (AY (λn0=>λa w=>∃(p:Int) (D:(List (AC×AJ))),IV B S h (30,[]) a w [(12,vI (↑j.length:Int)),(11,d),(0,.map (some g)),(1,vI c),(2,vI b),(13,vI p)] (MP (λk:AC=>Value.agg (AC.v k).toArray) (λk:AJ=>Value.agg #[vI (A9 k.hi),.int .u64 (IntKind.wrap .u64 k.lo)]) g D::L) λ_ _=>AA p∧G2 N c b j n0 p D=some r) N ?_ ?_ ?_)
 ·intro F G s t;exact⟨0,m,_,_,s.sub (kp [12,11,0,1,2,13] O),t,hs,(CG.refl S h),(iq (n:=0) O),E⟩
 ·rintro F G ⟨_,_,_,_,_,_,_,_,_,E⟩;rw[G2] at E;cases E
 rintro n0 F G ⟨p,D,S8,h9,s,t,u,H,r6,E⟩;refine AK ?_ s t;clear s t G F;rw[G2] at E;refine AU ?_;refine AG O E (λU E=>?_) (λU E=>?_)
 ·refine AU ?_;refine A3 (AU ?_);have V:=l.mono' H;refine A4 E O O V Ce.1 O λac E ad W=>?_;have X:=W.i;refine AU ?_;refine FV (cs:=[vI c,vI b,vI p]) bD O O O (AU ?_);refine CP Zz O u λae af I ag=>?_;refine C0 O O O O aS.1 O I .head O λah y ai=>AU ?_;refine L4 7 mo (by kernel_rfl) O y (AU ?_);refine XV (k0:=(⟨c,b,p⟩:AC)) (z:=(⟨0,0⟩:AJ)) Od y (mt mh) O O Sk SY Zt O O (AU ?_);obtain⟨C,J,E⟩:=bd E;refine PN O O O qS O (λh' o=>RS (St.all h') (HZ.mk (x:=(⟨(A9 (((Na (λk:AC=>Value.agg (AC.v k).toArray) D (⟨c,b,p⟩:AC)).getD (⟨0,0⟩:AJ)).hi)),(IntKind.wrap .u64 (((Na (λk:AC=>Value.agg (AC.v k).toArray) D (⟨c,b,p⟩:AC)).getD (⟨0,0⟩:AJ)).lo))⟩:AJ)) ⟨(BF _),(Ct _ _)⟩) X J) λY=>?_;obtain⟨Z,ab⟩:=Y;refine KN λaj K ak=>XX (k0:=(⟨c,b,p⟩:AC)) (x:=C) K (.tail .head) O O (zW some (cJ C ⟨Z,ab⟩)).symm Sk SY λam M an=>AU ?_;refine BE (AU ?_);refine WF.nil (λF G s t=>?_);have Q:=M.sel [1] 1 O;exact⟨(A9 (p+1)),(Ra (λk:AC=>Value.agg (AC.v k).toArray) D (⟨c,b,p⟩:AC) C),_,_,s.sub (kp [12,11,0,1,2,13] O),t,Q,EX,(BF _),E⟩
 refine KH O (WF.nil (λF G s t=>?_));cases E;exact JC s O t JB O H ⟨O,u⟩
def ME {b:Nat}{o:(List (AC×AJ))}(hs:St S (MP (λk:AC=>Value.agg (AC.v k).toArray) (λk:AJ=>Value.agg #[vI (A9 k.hi),.int .u64 (IntKind.wrap .u64 k.lo)]) b o::L) h) {i:Value}{c:AF}(t:Rd S h BA i c) {r:(List (AC×AJ))}(E:IH N o c=some r):
 B6 prog 101 #[.map (some b),i,.func (.func 102) #[.map (some b)] #[]] S h (λv S' h'=>v= .tuple #[]∧St S' (MP (λk:AC=>Value.agg (AC.v k).toArray) (λk:AJ=>Value.agg #[vI (A9 k.hi),.int .u64 (IntKind.wrap .u64 k.lo)]) b r::L) h'):=by
 refine A7 (l:=[.map (some b),i,.func (.func 102) #[.map (some b)] #[]]) 45 func101 O ntmps101 O λB=>?_;rw[IH] at E;refine AU ?_;refine Bz O t CE O hs λq1 S2 h3 ap e5 k6=>?_;have k8:=k6.fl FL;obtain⟨v9,_,aq⟩:=k8.ll;refine AU ?_;refine AN (λa w=>∃(u:(List (AC×AJ))),IV B S2 h3 (45,[]) a w [(4,q1),(2,.func (.func 102) #[.map (some b)] #[])] (MP (λk:AC=>Value.agg (AC.v k).toArray) (λk:AJ=>Value.agg #[vI (A9 k.hi),.int .u64 (IntKind.wrap .u64 k.lo)]) b u::L) λ_ _=>F6 N c u=some r) ?_ ?_
 ·refine AY (λn1=>λa w=>∃(q:Int) (x:(List (AC×AJ))),IV B S2 h3 (45,[]) a w [(12,vI (↑c.E.length:Int)),(11,v9),(4,q1),(2,.func (.func 102) #[.map (some b)] #[]),(13,vI q)] (MP (λk:AC=>Value.agg (AC.v k).toArray) (λk:AJ=>Value.agg #[vI (A9 k.hi),.int .u64 (IntKind.wrap .u64 k.lo)]) b x::L) λ_ _=>AA q∧EG N c (F6 N c) n1 q x=some r) N ?_ ?_ ?_
  ·intro j m d g;exact⟨0,o,_,_,d.sub (kp [12,11,4,2,13] O),g,ap,(CG.refl S2 h3),(iq (n:=0) O),E⟩
  ·rintro j m ⟨_,_,_,_,_,_,_,_,_,E⟩;rw[EG] at E;cases E
  rintro n1 j m ⟨q,x,bm,bn,d,g,z,K,ar,E⟩;refine AK ?_ d g;clear d g m j;rw[EG] at E;refine AU ?_;refine AG O E (λau E=>?_) (λau E=>?_)
  ·refine AU ?_;refine A3 (AU ?_);have av:=aq.mono' K;refine A4 E O O av IP.1 O λbo E bp aw=>?_;obtain⟨bq,_,ax⟩:=aw.ll;refine AU ?_;refine B1 (AU ?_);refine BQ E O O O TW O (λM Q=>HL z (iq (n:=0) O) ar ax Q) λM E br bs bt bu p=>?_;obtain⟨rfl,U⟩:=p;refine AU ?_;refine BE (AU ?_);refine WF.nil (λj m d g=>?_);exact⟨(A9 (q+1)),M,_,_,d.sub (kp [12,11,4,2,13] O),g,U,EX,(BF _),E⟩
  refine A8 O (λj m d g=>?_);exact⟨x,_,_,d.sub (kp [4,2] O),g,z,K,E⟩
 rintro j m ⟨u,C,D,d,g,V,ay,E⟩;refine AK ?_ d g;clear d g m j;rw[F6] at E;have W:=k6.mono ay;have az:=W.fl Fs;obtain⟨a0,_,a1⟩:=az.ll;refine AU ?_;refine AN (λa w=>∃(F:(List (AC×AJ))),IV B C D (45,[]) a w [(4,q1),(2,.func (.func 102) #[.map (some b)] #[])] (MP (λk:AC=>Value.agg (AC.v k).toArray) (λk:AJ=>Value.agg #[vI (A9 k.hi),.int .u64 (IntKind.wrap .u64 k.lo)]) b F::L) λ_ _=>F5 N c F=some r) ?_ ?_
 ·refine AY (λn3=>λa w=>∃(s:Int) (y:(List (AC×AJ))),IV B C D (45,[]) a w [(25,vI (↑c.H.length:Int)),(24,a0),(4,q1),(2,.func (.func 102) #[.map (some b)] #[]),(26,vI s)] (MP (λk:AC=>Value.agg (AC.v k).toArray) (λk:AJ=>Value.agg #[vI (A9 k.hi),.int .u64 (IntKind.wrap .u64 k.lo)]) b y::L) λ_ _=>AA s∧EF N c (F5 N c) n3 s y=some r) N ?_ ?_ ?_
  ·intro j m d g;exact⟨0,u,_,_,d.sub (kp [25,24,4,2,26] O),g,V,(CG.refl C D),(iq (n:=0) O),E⟩
  ·rintro j m ⟨_,_,_,_,_,_,_,_,_,E⟩;rw[EF] at E;cases E
  rintro n3 j m ⟨s,y,bv,bw,d,g,A,X,bx,E⟩;refine AK ?_ d g;clear d g m j;rw[EF] at E;refine AU ?_;refine AG O E (λa2 E=>?_) (λa2 E=>?_)
  ·refine AU ?_;refine A3 (AU ?_);have a3:=a1.mono' X;refine A4 E O O a3 LA.1 O λbz E b0 a4=>?_;obtain⟨b1,_,a5⟩:=a4.lv;refine AU ?_;refine CP Nq O A λb2 b3 Y a6=>?_;have a7:=a5.mono a6;obtain⟨b4,rfl,b5,a8,a9⟩:=AZ.ex a7;refine DU O O O ON Ns.1 O Y .head O λb6 Z ba=>AU ?_;refine B1 (AU ?_);have ab:=Z.pick (.tail .head);have bb:=a9.mono' ba;refine BQ E O O O TW O (λac ad=>HL ab (iq (n:=0) O) a8 bb ad) λac E b7 b8 b9 ca p=>?_;obtain⟨rfl,ae⟩:=p;refine AU ?_;refine BE (AU ?_);refine WF.nil (λj m d g=>?_);have af:=ae.drop (.tail .head);exact⟨(A9 (s+1)),ac,_,_,d.sub (kp [25,24,4,2,26] O),g,af,EX,(BF _),E⟩
  refine A8 O (λj m d g=>?_);exact⟨y,_,_,d.sub (kp [4,2] O),g,A,X,E⟩
 rintro j m ⟨F,cb,cc,d,g,ag,bc,E⟩;refine AK ?_ d g;clear d g m j;rw[F5] at E;refine AU ?_;refine B1 ?_;have ah:=W.mono bc;have be:=ah.fl I1;obtain⟨cd,_,bf⟩:=be.ll;refine AU ?_;refine BQ E O O O TW O (λbg ai=>HL ag (iq (n:=1) O) (iq (n:=(-1)) O) bf ai) λbg E ce cf cg aj p=>?_;obtain⟨rfl,G⟩:=p;refine AU ?_;refine B1 ?_;have ak:=ah.mono aj;have am:=ak.fl HI;obtain⟨bh,_,an⟩:=am.ll;refine AU ?_;refine BQ E O O O TW O (λao I=>HL G (iq (n:=2) O) (iq (n:=(-1)) O) an I) λao E bi bj bk bl p=>?_;obtain⟨rfl,J⟩:=p;refine AU ?_;refine WF.nil (λj m d g=>?_);cases E;exact JC d O g JB O EX ⟨O,J⟩
def RQ (D:St S L h) {b:Value}{p0_w:AJ}(g:Rd S h HZ b p0_w) {a:Int}(p:AA a) {r:AJ}(E:Mg N p0_w a=some r):
 B6 prog 186 #[b,vI a] S h (λv S' h'=>v= .agg #[vI r.hi,.int .u64 r.lo]∧AJ.ok r∧St S' (L) h'):=by
 refine A7 22 func186 O ntmps186 O λB=>?_;rw[Mg] at E;refine AU ?_;refine Bz O g CE O D λK S2 M q Q F=>CP Wm O q λU V j s=>AU ?_;refine BY (.inl O) j ?_;have k:=F.mono s;have t:=k.fl Mv;refine AU ?_;refine VP Od j.1 O t aR.1 O λl=>AU ?_;refine Dv O MC If O ?_;have u:=Z1 (x:=p0_w.lo) (y:=(IntKind.wrap .u64 a)) (c:=0) l (Ct _ _) xD;refine fE O O (nE _ _ _ l (Ct _ _) xD) O (AU ?_);refine BG (kp [6,5,4,2] O) λG m w=>?_;have H:=k.mono w;refine AU ?_;refine Dv O If MC O ?_;obtain⟨n,d,E⟩:=bd E;have d:=zZ d;have z:AA n:=d▸BF _;refine jY O O O d (AU ?_);refine FV (cs:=[vI n,.int .u64 ((LD p0_w.lo (IntKind.wrap .u64 a) 0).1)]) Wv O O O (AU ?_);refine C0 O O O O Sn.1 O m .head O λI i J=>AU ?_;refine B0 (λW X A C=>?_);have o:=i.drop .head;cases E;exact JC A O C (G4 (Uk A C i O mh Sn.1 O) JB) O EX ⟨O,⟨z,u.1⟩,o⟩
def Ei {g:Nat}{m:(List (AC×AJ))}(hs:St S (MP (λk:AC=>Value.agg (AC.v k).toArray) (λk:AJ=>Value.agg #[vI (A9 k.hi),.int .u64 (IntKind.wrap .u64 k.lo)]) g m::L) h) {c:Int}(A:AA c) {b:Int}(q:AA b) {d:Value}{j:(List Int)}(l:Sl S h AB d j) {r:(List (AC×AJ))}(E:D8 N m c b j=some r):
 B6 prog 103 #[.map (some g),vI c,vI b,d] S h (λv S' h'=>v= .tuple #[]∧St S' (MP (λk:AC=>Value.agg (AC.v k).toArray) (λk:AJ=>Value.agg #[vI (A9 k.hi),.int .u64 (IntKind.wrap .u64 k.lo)]) g r::L) h'):=by
 refine A7 30 func103 O ntmps103 O λB=>?_;rw[D8] at E;refine AU ?_;refine A3 (AY (λn0=>λa w=>∃(p:Int) (D:(List (AC×AJ))),IV B S h (30,[]) a w [(12,vI (↑j.length:Int)),(11,d),(0,.map (some g)),(1,vI c),(2,vI b),(13,vI p)] (MP (λk:AC=>Value.agg (AC.v k).toArray) (λk:AJ=>Value.agg #[vI (A9 k.hi),.int .u64 (IntKind.wrap .u64 k.lo)]) g D::L) λ_ _=>AA p∧G3 N c b j n0 p D=some r) N ?_ ?_ ?_)
 ·intro F G s t;exact⟨0,m,_,_,s.sub (kp [12,11,0,1,2,13] O),t,hs,(CG.refl S h),(iq (n:=0) O),E⟩
 ·rintro F G ⟨_,_,_,_,_,_,_,_,_,E⟩;rw[G3] at E;cases E
 rintro n0 F G ⟨p,D,S8,h9,s,t,u,H,r6,E⟩;refine AK ?_ s t;clear s t G F;rw[G3] at E;refine AU ?_;refine AG O E (λU E=>?_) (λU E=>?_)
 ·refine AU ?_;refine A3 (AU ?_);have V:=l.mono' H;refine A4 E O O V Ce.1 O λac E ad W=>?_;have X:=W.i;refine AU ?_;refine FV (cs:=[vI c,vI b,vI p]) bD O O O (AU ?_);refine CP Zz O u λae af I ag=>?_;refine C0 O O O O aS.1 O I .head O λah y ai=>AU ?_;refine L4 7 mo (by kernel_rfl) O y (AU ?_);refine XV (k0:=(⟨c,b,p⟩:AC)) (z:=(⟨0,0⟩:AJ)) Od y (mt mh) O O Sk SY Zt O O (AU ?_);obtain⟨C,J,E⟩:=bd E;refine PN O O O qR O (λh' o=>RQ (St.all h') (HZ.mk (x:=(⟨(A9 (((Na (λk:AC=>Value.agg (AC.v k).toArray) D (⟨c,b,p⟩:AC)).getD (⟨0,0⟩:AJ)).hi)),(IntKind.wrap .u64 (((Na (λk:AC=>Value.agg (AC.v k).toArray) D (⟨c,b,p⟩:AC)).getD (⟨0,0⟩:AJ)).lo))⟩:AJ)) ⟨(BF _),(Ct _ _)⟩) X J) λY=>?_;obtain⟨Z,ab⟩:=Y;refine KN λaj K ak=>XX (k0:=(⟨c,b,p⟩:AC)) (x:=C) K (.tail .head) O O (zW some (cJ C ⟨Z,ab⟩)).symm Sk SY λam M an=>AU ?_;refine BE (AU ?_);refine WF.nil (λF G s t=>?_);have Q:=M.sel [1] 1 O;exact⟨(A9 (p+1)),(Ra (λk:AC=>Value.agg (AC.v k).toArray) D (⟨c,b,p⟩:AC) C),_,_,s.sub (kp [12,11,0,1,2,13] O),t,Q,EX,(BF _),E⟩
 refine KH O (WF.nil (λF G s t=>?_));cases E;exact JC s O t JB O H ⟨O,u⟩
def MD {b:Nat}{o:(List (AC×AJ))}(hs:St S (MP (λk:AC=>Value.agg (AC.v k).toArray) (λk:AJ=>Value.agg #[vI (A9 k.hi),.int .u64 (IntKind.wrap .u64 k.lo)]) b o::L) h) {i:Value}{c:AF}(t:Rd S h BA i c) {r:(List (AC×AJ))}(E:IG N o c=some r):
 B6 prog 101 #[.map (some b),i,.func (.func 103) #[.map (some b)] #[]] S h (λv S' h'=>v= .tuple #[]∧St S' (MP (λk:AC=>Value.agg (AC.v k).toArray) (λk:AJ=>Value.agg #[vI (A9 k.hi),.int .u64 (IntKind.wrap .u64 k.lo)]) b r::L) h'):=by
 refine A7 (l:=[.map (some b),i,.func (.func 103) #[.map (some b)] #[]]) 45 func101 O ntmps101 O λB=>?_;rw[IG] at E;refine AU ?_;refine Bz O t CE O hs λq1 S2 h3 ap e5 k6=>?_;have k8:=k6.fl FL;obtain⟨v9,_,aq⟩:=k8.ll;refine AU ?_;refine AN (λa w=>∃(u:(List (AC×AJ))),IV B S2 h3 (45,[]) a w [(4,q1),(2,.func (.func 103) #[.map (some b)] #[])] (MP (λk:AC=>Value.agg (AC.v k).toArray) (λk:AJ=>Value.agg #[vI (A9 k.hi),.int .u64 (IntKind.wrap .u64 k.lo)]) b u::L) λ_ _=>Fy N c u=some r) ?_ ?_
 ·refine AY (λn1=>λa w=>∃(q:Int) (x:(List (AC×AJ))),IV B S2 h3 (45,[]) a w [(12,vI (↑c.E.length:Int)),(11,v9),(4,q1),(2,.func (.func 103) #[.map (some b)] #[]),(13,vI q)] (MP (λk:AC=>Value.agg (AC.v k).toArray) (λk:AJ=>Value.agg #[vI (A9 k.hi),.int .u64 (IntKind.wrap .u64 k.lo)]) b x::L) λ_ _=>AA q∧EE N c (Fy N c) n1 q x=some r) N ?_ ?_ ?_
  ·intro j m d g;exact⟨0,o,_,_,d.sub (kp [12,11,4,2,13] O),g,ap,(CG.refl S2 h3),(iq (n:=0) O),E⟩
  ·rintro j m ⟨_,_,_,_,_,_,_,_,_,E⟩;rw[EE] at E;cases E
  rintro n1 j m ⟨q,x,bm,bn,d,g,z,K,ar,E⟩;refine AK ?_ d g;clear d g m j;rw[EE] at E;refine AU ?_;refine AG O E (λau E=>?_) (λau E=>?_)
  ·refine AU ?_;refine A3 (AU ?_);have av:=aq.mono' K;refine A4 E O O av IP.1 O λbo E bp aw=>?_;obtain⟨bq,_,ax⟩:=aw.ll;refine AU ?_;refine B1 (AU ?_);refine BQ E O O O QP O (λM Q=>Ei z (iq (n:=0) O) ar ax Q) λM E br bs bt bu p=>?_;obtain⟨rfl,U⟩:=p;refine AU ?_;refine BE (AU ?_);refine WF.nil (λj m d g=>?_);exact⟨(A9 (q+1)),M,_,_,d.sub (kp [12,11,4,2,13] O),g,U,EX,(BF _),E⟩
  refine A8 O (λj m d g=>?_);exact⟨x,_,_,d.sub (kp [4,2] O),g,z,K,E⟩
 rintro j m ⟨u,C,D,d,g,V,ay,E⟩;refine AK ?_ d g;clear d g m j;rw[Fy] at E;have W:=k6.mono ay;have az:=W.fl Fs;obtain⟨a0,_,a1⟩:=az.ll;refine AU ?_;refine AN (λa w=>∃(F:(List (AC×AJ))),IV B C D (45,[]) a w [(4,q1),(2,.func (.func 103) #[.map (some b)] #[])] (MP (λk:AC=>Value.agg (AC.v k).toArray) (λk:AJ=>Value.agg #[vI (A9 k.hi),.int .u64 (IntKind.wrap .u64 k.lo)]) b F::L) λ_ _=>Fx N c F=some r) ?_ ?_
 ·refine AY (λn3=>λa w=>∃(s:Int) (y:(List (AC×AJ))),IV B C D (45,[]) a w [(25,vI (↑c.H.length:Int)),(24,a0),(4,q1),(2,.func (.func 103) #[.map (some b)] #[]),(26,vI s)] (MP (λk:AC=>Value.agg (AC.v k).toArray) (λk:AJ=>Value.agg #[vI (A9 k.hi),.int .u64 (IntKind.wrap .u64 k.lo)]) b y::L) λ_ _=>AA s∧ED N c (Fx N c) n3 s y=some r) N ?_ ?_ ?_
  ·intro j m d g;exact⟨0,u,_,_,d.sub (kp [25,24,4,2,26] O),g,V,(CG.refl C D),(iq (n:=0) O),E⟩
  ·rintro j m ⟨_,_,_,_,_,_,_,_,_,E⟩;rw[ED] at E;cases E
  rintro n3 j m ⟨s,y,bv,bw,d,g,A,X,bx,E⟩;refine AK ?_ d g;clear d g m j;rw[ED] at E;refine AU ?_;refine AG O E (λa2 E=>?_) (λa2 E=>?_)
  ·refine AU ?_;refine A3 (AU ?_);have a3:=a1.mono' X;refine A4 E O O a3 LA.1 O λbz E b0 a4=>?_;obtain⟨b1,_,a5⟩:=a4.lv;refine AU ?_;refine CP Nq O A λb2 b3 Y a6=>?_;have a7:=a5.mono a6;obtain⟨b4,rfl,b5,a8,a9⟩:=AZ.ex a7;refine DU O O O ON Ns.1 O Y .head O λb6 Z ba=>AU ?_;refine B1 (AU ?_);have ab:=Z.pick (.tail .head);have bb:=a9.mono' ba;refine BQ E O O O QP O (λac ad=>Ei ab (iq (n:=0) O) a8 bb ad) λac E b7 b8 b9 ca p=>?_;obtain⟨rfl,ae⟩:=p;refine AU ?_;refine BE (AU ?_);refine WF.nil (λj m d g=>?_);have af:=ae.drop (.tail .head);exact⟨(A9 (s+1)),ac,_,_,d.sub (kp [25,24,4,2,26] O),g,af,EX,(BF _),E⟩
  refine A8 O (λj m d g=>?_);exact⟨y,_,_,d.sub (kp [4,2] O),g,A,X,E⟩
 rintro j m ⟨F,cb,cc,d,g,ag,bc,E⟩;refine AK ?_ d g;clear d g m j;rw[Fx] at E;refine AU ?_;refine B1 ?_;have ah:=W.mono bc;have be:=ah.fl I1;obtain⟨cd,_,bf⟩:=be.ll;refine AU ?_;refine BQ E O O O QP O (λbg ai=>Ei ag (iq (n:=1) O) (iq (n:=(-1)) O) bf ai) λbg E ce cf cg aj p=>?_;obtain⟨rfl,G⟩:=p;refine AU ?_;refine B1 ?_;have ak:=ah.mono aj;have am:=ak.fl HI;obtain⟨bh,_,an⟩:=am.ll;refine AU ?_;refine BQ E O O O QP O (λao I=>Ei G (iq (n:=2) O) (iq (n:=(-1)) O) an I) λao E bi bj bk bl p=>?_;obtain⟨rfl,J⟩:=p;refine AU ?_;refine WF.nil (λj m d g=>?_);cases E;exact JC d O g JB O EX ⟨O,J⟩
end Go.Proofs.YtedgiljmffngoaaGreat
