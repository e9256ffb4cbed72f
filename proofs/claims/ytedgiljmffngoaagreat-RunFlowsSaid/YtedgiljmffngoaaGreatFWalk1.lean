import Derived.Test.YtedgiljmffngoaaGreatFFacts
import Derived.Test.YtedgiljmffngoaaGreatFForms
import Derived.Test.YtedgiljmffngoaaGreatFInst
import Derived.Test.YtedgiljmffngoaaGreatFSort5
import Derived.Test.YtedgiljmffngoaaGreatFWalk0
namespace Go.Proofs.YtedgiljmffngoaaGreat
set_option linter.all false
open Go.RowKit
open Go.Proofs.Tryz
set_option maxRecDepth 10000
set_option maxHeartbeats 2000000
variable {N:Nat}{S:Nat→Prop}{L:List HP}{h:AT}
def QT (hs:St S L h) {i:Value}{l:BY}(p:Rd S h Bu i l) {j:Value}{b:BE}(q:Rd S h BK j b) {c:Int}(y:AA c) {r:BE}(E:Mm N l b c=some r):
 B0 prog 159 #[i,j,vI c] S h (λv S' h'=>v= .agg #[vI r.Ah,vI r.V,.bool r.An,.bool r.Ae]∧BE.ok r∧St S' (L) h'):=by
 refine BA 24 func159 O ntmps159 O λB=>?_;rw[Mm] at E;refine AU ?_;refine B4 O p CE O hs λq1 S2 h3 Q e5 k6=>?_;have k7:=q.mono e5;obtain⟨rfl,⟨r9,U⟩⟩:=BK.ex k7;refine Nn O O O Q λs ae D af=>CG OM O D λt u k ag=>AU ?_;refine AK (λa w=>∃(z:Bool) (A:Bool),IV B S2 u (24,[]) a w [(6,vP t 0),(4,vP s 0)] (Bx t 106 [vI 0,vI 0,.bool false,.bool false]::Bx s 106 [vI b.Ah,vI b.V,.bool z,.bool A]::L) λ_ _=>Fk N b z A=some r) ?_ ?_
 ·refine AU ?_;refine AF O E (λW E=>?_) (λW E=>?_)
  ·refine AU ?_;refine DY (cs':=[vI b.Ah,vI b.V,.bool true,.bool b.Ae]) O O O O ty_4.1 O k (.tail .head) O O λah F X=>AU ?_;refine WF.nil (λm n d g=>?_);exact⟨true,b.Ae,_,_,d.sub (kp [6,4] O),g,F,X,E⟩
  refine AU ?_;refine AF O E (λY E=>?_) (λY E=>?_)
  ·refine AU ?_;refine DY (cs':=[vI b.Ah,vI b.V,.bool false,.bool b.Ae]) O O O O ty_4.1 O k (.tail .head) O O λai G Z=>AU ?_;refine WF.nil (λm n d g=>?_);exact⟨false,b.Ae,_,_,d.sub (kp [6,4] O),g,G,Z,E⟩
  refine AU ?_;refine EZ (λa w=>∃(C:Bool),IV B S2 u (24,[]) a w [(6,vP t 0),(4,vP s 0),(3,q1),(2,vI c),(14,.bool C)] (Bx t 106 [vI 0,vI 0,.bool false,.bool false]::Bx s 106 [vI b.Ah,vI b.V,.bool b.An,.bool b.Ae]::L) λ_ _=>JT N l b c (Fk N b) C=some r) ?_ ?_
  ·refine AF O E (λab E=>?_) (λab E=>?_)
   ·refine AU ?_;refine WF.nil (λm n d g=>?_);exact⟨(decide (c=2)),_,_,d.sub (kp [6,4,3,2,14] O),g,k,(B6.refl S2 u),E⟩
   refine AU ?_;refine WF.nil (λm n d g=>?_);exact⟨(decide (c=3)),_,_,d.sub (kp [6,4,3,2,14] O),g,k,(B6.refl S2 u),E⟩
  rintro m n ⟨C,aj,ak,d,g,o,H,E⟩;refine AI ?_ d g;clear d g n m;rw[JT] at E;refine AF O E (λac E=>?_) (λac E=>?_)
  ·have am:=k6.nw;refine AU ?_;refine AF O E (λad E=>?_) (λad E=>?_)
   ·refine AU ?_;refine DY (cs':=[vI b.Ah,vI b.V,.bool b.An,.bool (decide (c=2))]) O O O O ty_4.1 O o (.tail .head) O O λan I ao=>AU ?_;refine WF.nil (λm n d g=>?_);exact⟨b.An,(decide (c=2)),_,_,d.sub (kp [6,4] O),g,I,EX,E⟩
   refine AU ?_;refine WF.nil (λm n d g=>?_);exact⟨b.An,b.Ae,_,_,d.sub (kp [6,4] O),g,o,H,E⟩
  refine AU ?_;refine WF.nil (λm n d g=>?_);exact⟨b.An,b.Ae,_,_,d.sub (kp [6,4] O),g,o,H,E⟩
 rintro m n ⟨z,A,ap,aq,d,g,J,ar,E⟩;refine AI ?_ d g;clear d g n m;rw[Fk] at E;refine AU ?_;refine CV O O O O ty_106.1 O J .head O λau K av=>AU ?_;refine BS (λm n d g=>?_);have x:=K.drop (.tail .head);have M:=x.drop .head;cases E;exact Hk d O g (Eg (Rn d g x O mh ty_106.1 O) Hj) O EX ⟨O,⟨r9,U⟩,M⟩
def JV (l:St S L h) {c:Int}(i:AA c) {b:Int}(g:AA b) {a:Int}(d:AA a) {r:Int}(E:H6 N c b a=some r):
 B0 prog 205 #[vI c,vI b,vI a] S h (λv S' h'=>v=vI r∧AA r∧St S' (L) h'):=by
 refine BA 16 func205 O ntmps205 O λB=>?_;rw[H6] at E;refine AU ?_;refine AF O E (λj E=>?_) (λj E=>?_)
 ·exact RT
 refine AU ?_;refine AF O E (λk E=>?_) (λk E=>?_)
 ·exact RT
 exact RT
def Rz (hs:St S L h) {g:Value}{s:BY}(k:Rd S h Bu g s) {j:Value}{b:BE}(l:Rd S h BK j b) {c:Int}(d:AA c) {r:BE}(E:OY N s b c=some r):
 B0 prog 142 #[g,j,vI c] S h (λv S' h'=>v= .agg #[vI r.Ah,vI r.V,.bool r.An,.bool r.Ae]∧BE.ok r∧St S' (L) h'):=by
 refine BA 16 func142 O ntmps142 O λB=>?_;rw[OY] at E;refine AU ?_;refine B4 O k CE O hs λq1 S2 h3 Q e5 k6=>?_;have k7:=l.mono e5;obtain⟨rfl,⟨r9,U⟩⟩:=BK.ex k7;refine Nn O O O Q λy ae z af=>CG OM O z λA C t ag=>?_;have W:=k6.nw;refine AU ?_;refine EZ (λa w=>∃(m:Int),IV B S2 C (16,[]) a w [(6,vP A 0),(4,vP y 0)] (Bx A 106 [vI 0,vI 0,.bool false,.bool false]::Bx y 106 [vI b.Ah,vI m,.bool b.An,.bool b.Ae]::L) λ_ _=>AA m∧Kh N b m=some r) ?_ ?_
 ·refine AF O E (λX E=>?_) (λX E=>?_)
  ·refine B5 ?_;have Y:=W.fl Dm;have Z:=Y.i;refine AU ?_;refine CS E O O O R5 O t (λx D=>JV (St.all _) d (iq (n:=0) O) Z D) λx E ah ai aj F ak am p=>?_;obtain⟨rfl,ab,ad⟩:=p;refine AU ?_;refine DY (cs':=[vI b.Ah,vI x,.bool b.An,.bool b.Ae]) O O O O ty_3.1 O F (.tail .head) O O λan G ao=>AU ?_;refine WF.nil (λK M o q=>?_);exact⟨x,_,_,o.sub (kp [6,4] O),q,G,EX,ab,E⟩
  refine AU ?_;refine WF.nil (λK M o q=>?_);exact⟨b.V,_,_,o.sub (kp [6,4] O),q,t,(B6.refl S2 C),U,E⟩
 rintro K M ⟨m,ap,aq,o,q,H,ar,ac,E⟩;refine AI ?_ o q;clear o q M K;rw[Kh] at E;refine AU ?_;refine CV O O O O ty_106.1 O H .head O λau I av=>AU ?_;refine BS (λK M o q=>?_);have u:=I.drop (.tail .head);have J:=u.drop .head;cases E;exact Hk o O q (Eg (Rn o q u O mh ty_106.1 O) Hj) O EX ⟨O,⟨r9,ac⟩,J⟩
def H7 (j:St S L h) {a:Int}(c:AA a) {b:Int}(d:AA b) {r:Int}(E:F9 N a b=some r):
 B0 prog 111 #[vI a,vI b] S h (λv S' h'=>v=vI r∧AA r∧St S' (L) h'):=by
 refine BA 24 func111 O ntmps111 O λB=>?_;rw[F9] at E;refine AU ?_;refine AF O E (λg E=>?_) (λg E=>?_)
 ·exact RT
 refine AU ?_;refine AF O E (λi E=>?_) (λi E=>?_)
 ·exact RT
 exact RT
def GB (j:St S L h) {a:Int}(c:AA a) {b:Int}(d:AA b) {r:Int}(E:Ej N a b=some r):
 B0 prog 70 #[vI a,vI b] S h (λv S' h'=>v=vI r∧AA r∧St S' (L) h'):=by
 refine BA 24 func70 O ntmps70 O λB=>?_;rw[Ej] at E;refine AU ?_;refine AF O E (λg E=>?_) (λg E=>?_)
 ·exact RT
 refine AU ?_;refine AF O E (λi E=>?_) (λi E=>?_)
 ·exact RT
 exact RT
def RA (hs:St S L h) {b:Value}{j:BY}(d:Rd S h Bu b j) {c:Value}{a:BE}(g:Rd S h BK c a) {r:BE}(E:NV N j a=some r):
 B0 prog 160 #[b,c] S h (λv S' h'=>v= .agg #[vI r.Ah,vI r.V,.bool r.An,.bool r.Ae]∧BE.ok r∧St S' (L) h'):=by
 refine BA 26 func160 O ntmps160 O λB=>?_;rw[NV] at E;refine AU ?_;refine B4 O d CE O hs λq1 S2 h3 M e5 k6=>?_;have k7:=g.mono e5;obtain⟨rfl,⟨Q,q⟩⟩:=BK.ex k7;refine Nn O O O M λan ao s ap=>CG OM O s λaq ar k au=>AU ?_;refine AF O E (λU E=>?_) (λU E=>?_)
 ·refine AU ?_;refine CV O O O O ty_106.1 O k .head O λav t aw=>AU ?_;refine BS (λaa ww u w=>?_);have l:=t.drop (.tail .head);have x:=l.drop .head;cases E;exact Hk u O w (Eg (Rn u w l O mh ty_106.1 O) Hj) O EX ⟨O,⟨Q,q⟩,x⟩
 refine AU ?_;refine BZ (.inr ⟨mo,by kernel_rfl⟩) k (AU ?_);refine CC E O O O PW O (λW y h' o=>H7 (St.all h') q Q y) λW E X=>?_;have Y:=X;have z:=k6.nw;have Z:=z.fl JK;have ab:=Z.i;refine AU ?_;refine CC E O O O PW O (λac A h' o=>H7 (St.all h') (iq (n:=0) O) ab A) λac E ad=>?_;have ae:=ad;have af:=z.fl JK;have ag:=af.i;refine AU ?_;refine CC E O O O R5 O (λah C h' o=>JV (St.all h') Y ae ag C) λah E ai=>?_;have aj:=ai;refine AU ?_;refine BL (kp [5,4,3] O) λax D ay=>AU ?_;refine B5 (AU ?_);refine CS E O O O Pm O D (λF G=>GB (St.all _) Q aj G) λF E az a0 a1 H a2 a3 p=>?_;obtain⟨rfl,ak,am⟩:=p;refine AU ?_;refine DY (cs':=[vI F,vI a.V,.bool a.An,.bool a.Ae]) O O O O ty_3.1 O H (.tail .head) O O λa4 I a5=>AU ?_;refine CV O O O O ty_106.1 O I .head O λa6 J a7=>AU ?_;refine BS (λaa ww u w=>?_);have m:=J.drop (.tail .head);have K:=m.drop .head;cases E;exact Hk u O w (Eg (Rn u w m O mh ty_106.1 O) Hj) O EX ⟨O,⟨ak,q⟩,K⟩
def N2 {y:Nat}{p0_w:A5}{ac:Value}{ad:Value}{ab:Value}{ae:Value}{af:Value}{ag:Value}{ah:Value}{ai:Value}{z:Value}{t:Value}{u:Value}{D:Value}{M:Value}{c:Value}{d:Value}{V:Value}{q:Value}{g:Value}{j:Value}{k:Value}{m:Value}{p:Value}(hs:St S (Bx y 160 [.string p0_w.b.C,ac,vI p0_w.b.H,ad,ab,ae,af,ag,ah,ai,vI p0_w.b.G,z,t,u,D,M,vI p0_w.s.A,c,d,V,q,g,j,k,m,p]::OO AB 3 29 c p0_w.s.F::OS AB 3 d p0_w.s.K::OS BK 106 q p0_w.s.Q::OS AB 3 g p0_w.s.O::OS AB 3 j p0_w.s.N::OS BJ 74 k p0_w.moves::OS AB 3 m p0_w.peaks::OS A3 121 p p0_w.sent::L) h) (ca:p0_w.b.C.size≤maxLen) (cb:Sl S h BB.str ac p0_w.b.I) (cc:AA p0_w.b.H) (cd:Sl S h BX ad p0_w.b.E) (aj:Sl S h Bu ab p0_w.b.J) (ce:Sl S h DL ae p0_w.b.U) (cf:Sl S h Cw af p0_w.b.W) (cg:Sl S h DM ag p0_w.b.Y) (ch:Sl S h Cd ah p0_w.b.Z) (ci:Sl S h AB ai p0_w.b.X) (a8:AA p0_w.b.G) (a9:Sl S h AB z p0_w.in_.Aa) (aq:Sl S h D0 t p0_w.in_.Ai) (ar:Sl S h H2 u p0_w.in_.Aj) (ba:Sl S h D3 D p0_w.in_.Ak) (bb:Sl S h Ea M p0_w.in_.Ag) (bc:AA p0_w.s.A) (be:Sl S h A3 V p0_w.s.P) {r:(List BE)}(E:Jx N p0_w=some r):
 B0 prog 79 #[vP y 0] S h (λv S' h'=>∃aw:Value,v= .tuple #[]∧St S' (Bx y 160 [.string p0_w.b.C,ac,vI p0_w.b.H,ad,ab,ae,af,ag,ah,ai,vI p0_w.b.G,z,t,u,D,M,vI p0_w.s.A,c,d,V,aw,g,j,k,m,p]::OO AB 3 29 c p0_w.s.F::OS AB 3 d p0_w.s.K::OS BK 106 aw r::OS AB 3 g p0_w.s.O::OS AB 3 j p0_w.s.N::OS BJ 74 k p0_w.moves::OS AB 3 m p0_w.peaks::OS A3 121 p p0_w.sent::L) h'):=by
 refine BA 135 func79 O ntmps79 O λB=>?_;rw[Jx] at E;refine AU ?_;refine AK (λa w=>∃(l2:List BE),IV B S h (135,[]) a w [(0,vP y 0)] (Bx y 160 [.string p0_w.b.C,ac,vI p0_w.b.H,ad,ab,ae,af,ag,ah,ai,vI p0_w.b.G,z,t,u,D,M,vI p0_w.s.A,c,d,V,q,g,j,k,m,p]::OO AB 3 29 c p0_w.s.F::OS AB 3 d p0_w.s.K::OS BK 106 q l2::OS AB 3 g p0_w.s.O::OS AB 3 j p0_w.s.N::OS BJ 74 k p0_w.moves::OS AB 3 m p0_w.peaks::OS A3 121 p p0_w.sent::L) λ_ _=>FO N p0_w l2=some r) ?_ ?_
 ·refine AY (λn1=>λa w=>∃(i6:Int) (l8:List BE),IV B S h (135,[]) a w [(13,vI (↑p0_w.in_.Ai.length:Int)),(12,t),(0,vP y 0),(14,vI i6)] (Bx y 160 [.string p0_w.b.C,ac,vI p0_w.b.H,ad,ab,ae,af,ag,ah,ai,vI p0_w.b.G,z,t,u,D,M,vI p0_w.s.A,c,d,V,q,g,j,k,m,p]::OO AB 3 29 c p0_w.s.F::OS AB 3 d p0_w.s.K::OS BK 106 q l8::OS AB 3 g p0_w.s.O::OS AB 3 j p0_w.s.N::OS BJ 74 k p0_w.moves::OS AB 3 m p0_w.peaks::OS A3 121 p p0_w.sent::L) λ_ _=>AA i6∧DT N p0_w (FO N p0_w) n1 i6 l8=some r) N ?_ ?_ ?_
  ·intro aa ww hf hw;exact⟨0,p0_w.s.Q,_,_,hf.sub (kp [13,12,0,14] O),hw,hs,(B6.refl S h),(iq (n:=0) O),E⟩
  ·rintro aa ww ⟨_,_,_,_,_,_,_,_,_,E⟩;rw[DT] at E;cases E
  rintro n1 aa ww ⟨i6,l8,S9,em,hf,hw,a3,cj,r7,E⟩;refine AI ?_ hf hw;clear hf hw ww aa;rw[DT] at E;refine AU ?_;refine AF O E (λen E=>?_) (λen E=>?_)
  ·refine AU ?_;refine AK (λa w=>∃(a0:List BE),IV B S9 em (135,[]) a w [(13,vI (↑p0_w.in_.Ai.length:Int)),(12,t),(0,vP y 0),(14,vI i6)] (Bx y 160 [.string p0_w.b.C,ac,vI p0_w.b.H,ad,ab,ae,af,ag,ah,ai,vI p0_w.b.G,z,t,u,D,M,vI p0_w.s.A,c,d,V,q,g,j,k,m,p]::OO AB 3 29 c p0_w.s.F::OS AB 3 d p0_w.s.K::OS BK 106 q a0::OS AB 3 g p0_w.s.O::OS AB 3 j p0_w.s.N::OS BJ 74 k p0_w.moves::OS AB 3 m p0_w.peaks::OS A3 121 p p0_w.sent::L) λ_ _=>Gq N i6 (DT N p0_w (FO N p0_w) n1) a0=some r) ?_ ?_
   ·refine AU ?_;have eo:=aq.mono' cj;refine A9 E O O eo sl_55.1 O λck E gs ep=>?_;obtain⟨gt,_,eq⟩:=ep.lv;refine AU ?_;refine CG YS O a3 λgu gv cl er=>?_;have es:=eq.mono er;obtain⟨rfl,⟨eu,ev⟩⟩:=D0.ex es;refine CV O O O O ty_232.1 O cl .head O λgw cm gx=>AU ?_;refine BZ (.inr ⟨mo,by kernel_rfl⟩) cm ?_;have ew:=aj.nw;have ey:=ew.le;refine AU ?_;refine BC E O O O NZ O (λez cn h' o=>FH (St.all h') ev (Jb ey) cn) λez E=>BL (kp [26,3,13,12,0,14] O) λgy an gz=>AF O E (λe0 E=>?_) (λe0 E=>?_)
    ·refine Ky 29 mo (by kernel_rfl) O an (AU ?_);have e1:=aj.nw;refine A9 E O O e1 sl_24.1 O λg0 E g1 e2=>?_;obtain⟨g2,_,e3⟩:=e2.lv;refine AU ?_;obtain⟨g3,co,E⟩:=bd E;refine BT an (mt (mt (mt (mt mh)))) O O sl_34.1 co O λg4 cp=>?_;obtain⟨g5,cq,E⟩:=bd E;have e4:=an.epAt (mt (mt (mt (mt mh)))) cq Co.id cp;refine JJ Lr (λ_ x=>x) O e4 ty_106.1 CE O λg6 e5=>AU ?_;refine CC E O O O Zt O (λbf cr h' o=>QT (St.all h') (e3.mono (o.all an.1)) (e5.mono (o.all an.1)) eu cr) λbf E e6=>?_;obtain⟨e7,e8⟩:=e6;obtain⟨g7,cs,E⟩:=bd E;refine BT an (mt (mt (mt (mt mh)))) O O sl_34.1 cs O λg8 ct=>JW λg9 cu ha=>?_;obtain⟨e9,cv,E⟩:=bd E;refine De (r:=BK) (l:=l8) (i:=ck.Af) (x:=e9) O O (BK.mk (x:=bf) ⟨e7,e8⟩) ct cv MT.id ty_106.1 CE cu (.tail (.tail (.tail (.tail .head)))) λhb cw hc=>AU ?_;refine WF.nil (λaa ww hf hw=>?_);have cx:=cw.sel [1,1,1,1,1,1,1,1,1] 1 O;exact⟨(upd l8 ck.Af bf),_,_,hf.sub (kp [13,12,0,14] O),hw,cx,EX,E⟩
    refine AU ?_;refine WF.nil (λaa ww hf hw=>?_);have cy:=an.sel [1,1,1,1,1,1,1,1,1] 1 O;exact⟨l8,_,_,hf.sub (kp [13,12,0,14] O),hw,cy,EX,E⟩
   rintro aa ww ⟨a0,hd,he,hf,hw,cz,hg,E⟩;refine AI ?_ hf hw;clear hf hw ww aa;rw[Gq] at E;refine AU ?_;refine WF.nil (λaa ww hf hw=>?_);exact⟨(BG (i6+1)),a0,_,_,hf.sub (kp [13,12,0,14] O),hw,cz,EX,(BF _),E⟩
  refine A8 O (λaa ww hf hw=>?_);exact⟨l8,_,_,hf.sub (kp [0] O),hw,a3,cj,E⟩
 rintro aa ww ⟨l2,bg,bh,hf,hw,c0,fa,E⟩;refine AI ?_ hf hw;clear hf hw ww aa;rw[FO] at E;have fb:=ar.mono' fa;refine AU ?_;refine AK (λa w=>∃(a1:List BE),IV B bg bh (135,[]) a w [(0,vP y 0)] (Bx y 160 [.string p0_w.b.C,ac,vI p0_w.b.H,ad,ab,ae,af,ag,ah,ai,vI p0_w.b.G,z,t,u,D,M,vI p0_w.s.A,c,d,V,q,g,j,k,m,p]::OO AB 3 29 c p0_w.s.F::OS AB 3 d p0_w.s.K::OS BK 106 q a1::OS AB 3 g p0_w.s.O::OS AB 3 j p0_w.s.N::OS BJ 74 k p0_w.moves::OS AB 3 m p0_w.peaks::OS A3 121 p p0_w.sent::L) λ_ _=>FM N p0_w a1=some r) ?_ ?_
 ·refine AY (λn4=>λa w=>∃(au:Int) (av:List BE),IV B bg bh (135,[]) a w [(62,vI (↑p0_w.in_.Aj.length:Int)),(61,u),(0,vP y 0),(63,vI au)] (Bx y 160 [.string p0_w.b.C,ac,vI p0_w.b.H,ad,ab,ae,af,ag,ah,ai,vI p0_w.b.G,z,t,u,D,M,vI p0_w.s.A,c,d,V,q,g,j,k,m,p]::OO AB 3 29 c p0_w.s.F::OS AB 3 d p0_w.s.K::OS BK 106 q av::OS AB 3 g p0_w.s.O::OS AB 3 j p0_w.s.N::OS BJ 74 k p0_w.moves::OS AB 3 m p0_w.peaks::OS A3 121 p p0_w.sent::L) λ_ _=>AA au∧DQ N p0_w (FM N p0_w) n4 au av=some r) N ?_ ?_ ?_
  ·intro aa ww hf hw;exact⟨0,l2,_,_,hf.sub (kp [62,61,0,63] O),hw,c0,(B6.refl bg bh),(iq (n:=0) O),E⟩
  ·rintro aa ww ⟨_,_,_,_,_,_,_,_,_,E⟩;rw[DQ] at E;cases E
  rintro n4 aa ww ⟨au,av,fc,fd,hf,hw,a4,c1,hh,E⟩;refine AI ?_ hf hw;clear hf hw ww aa;rw[DQ] at E;refine AU ?_;refine AF O E (λfe E=>?_) (λfe E=>?_)
  ·refine AU ?_;refine AK (λa w=>∃(a2:List BE),IV B fc fd (135,[]) a w [(62,vI (↑p0_w.in_.Aj.length:Int)),(61,u),(0,vP y 0),(63,vI au)] (Bx y 160 [.string p0_w.b.C,ac,vI p0_w.b.H,ad,ab,ae,af,ag,ah,ai,vI p0_w.b.G,z,t,u,D,M,vI p0_w.s.A,c,d,V,q,g,j,k,m,p]::OO AB 3 29 c p0_w.s.F::OS AB 3 d p0_w.s.K::OS BK 106 q a2::OS AB 3 g p0_w.s.O::OS AB 3 j p0_w.s.N::OS BJ 74 k p0_w.moves::OS AB 3 m p0_w.peaks::OS A3 121 p p0_w.sent::L) λ_ _=>Gp N au (DQ N p0_w (FM N p0_w) n4) a2=some r) ?_ ?_
   ·refine AU ?_;have ff:=fb.mono' c1;refine A9 E O O ff sl_56.1 O λc2 E hi fg=>?_;obtain⟨fh,_,c3⟩:=fg.lv;refine AU ?_;refine CG YT O a4 λfi fj bi c4=>?_;have c5:=c3.mono c4;obtain⟨rfl,⟨c6,c7⟩⟩:=H2.ex c5;refine CV O O O O ty_210.1 O bi .head O λfk bj fm=>AU ?_;refine BZ (.inr ⟨mo,by kernel_rfl⟩) bj ?_;have c8:=aj.nw;have c9:=c8.le;refine AU ?_;refine BC E O O O NZ O (λda bk h' o=>FH (St.all h') c6 (Jb c9) bk) λda E=>BL (kp [75,5,62,61,0,63] O) λfn am fo=>AF O E (λdb E=>?_) (λdb E=>?_)
    ·refine Ky 29 mo (by kernel_rfl) O am (AU ?_);have dc:=aj.nw;refine A9 E O O dc sl_24.1 O λfp E fq dd=>?_;obtain⟨fr,_,de⟩:=dd.lv;refine AU ?_;obtain⟨fs,bl,E⟩:=bd E;refine BT am (mt (mt (mt (mt mh)))) O O sl_34.1 bl O λft bm=>?_;obtain⟨fu,bn,E⟩:=bd E;have df:=am.epAt (mt (mt (mt (mt mh)))) bn Co.id bm;refine JJ Lr (λ_ x=>x) O df ty_106.1 CE O λfv dg=>AU ?_;refine CC E O O O Zw O (λax bo h' o=>Rz (St.all h') (de.mono (o.all am.1)) (dg.mono (o.all am.1)) c7 bo) λax E dh=>?_;obtain⟨di,dj⟩:=dh;obtain⟨fw,bp,E⟩:=bd E;refine BT am (mt (mt (mt (mt mh)))) O O sl_34.1 bp O λfx bq=>JW λfy br fz=>?_;obtain⟨dk,bs,E⟩:=bd E;refine De (r:=BK) (l:=av) (i:=c2.Af) (x:=dk) O O (BK.mk (x:=ax) ⟨di,dj⟩) bq bs MT.id ty_106.1 CE br (.tail (.tail (.tail (.tail .head)))) λf0 bt f1=>AU ?_;refine WF.nil (λaa ww hf hw=>?_);have bu:=bt.sel [1,1,1,1,1,1,1,1,1] 1 O;exact⟨(upd av c2.Af ax),_,_,hf.sub (kp [62,61,0,63] O),hw,bu,EX,E⟩
    refine AU ?_;refine WF.nil (λaa ww hf hw=>?_);have bv:=am.sel [1,1,1,1,1,1,1,1,1] 1 O;exact⟨av,_,_,hf.sub (kp [62,61,0,63] O),hw,bv,EX,E⟩
   rintro aa ww ⟨a2,f2,f3,hf,hw,bw,f4,E⟩;refine AI ?_ hf hw;clear hf hw ww aa;rw[Gp] at E;refine AU ?_;refine WF.nil (λaa ww hf hw=>?_);exact⟨(BG (au+1)),a2,_,_,hf.sub (kp [62,61,0,63] O),hw,bw,EX,(BF _),E⟩
  refine A8 O (λaa ww hf hw=>?_);exact⟨av,_,_,hf.sub (kp [0] O),hw,a4,c1,E⟩
 rintro aa ww ⟨a1,a5,a6,hf,hw,bx,f5,E⟩;refine AI ?_ hf hw;clear hf hw ww aa;rw[FM] at E;have dl:=aj.nw;refine AU ?_;refine AZ (AY (λn6=>λa w=>∃(ao:Int) (ap:List BE),IV B a5 a6 (135,[]) a w [(111,vI (↑p0_w.b.J.length:Int)),(110,ab),(0,vP y 0),(112,vI ao)] (Bx y 160 [.string p0_w.b.C,ac,vI p0_w.b.H,ad,ab,ae,af,ag,ah,ai,vI p0_w.b.G,z,t,u,D,M,vI p0_w.s.A,c,d,V,q,g,j,k,m,p]::OO AB 3 29 c p0_w.s.F::OS AB 3 d p0_w.s.K::OS BK 106 q ap::OS AB 3 g p0_w.s.O::OS AB 3 j p0_w.s.N::OS BJ 74 k p0_w.moves::OS AB 3 m p0_w.peaks::OS A3 121 p p0_w.sent::L) λ_ _=>AA ao∧FL N p0_w n6 ao ap=some r) N ?_ ?_ ?_)
 ·intro aa ww hf hw;exact⟨0,a1,_,_,hf.sub (kp [111,110,0,112] O),hw,bx,(B6.refl a5 a6),(iq (n:=0) O),E⟩
 ·rintro aa ww ⟨_,_,_,_,_,_,_,_,_,E⟩;rw[FL] at E;cases E
 rintro n6 aa ww ⟨ao,ap,f6,f7,hf,hw,ay,dm,f8,E⟩;refine AI ?_ hf hw;clear hf hw ww aa;rw[FL] at E;refine AU ?_;refine AF O E (λdn E=>?_) (λdn E=>?_)
 ·refine AU ?_;refine AZ (AU ?_);have dp:=dl.mono' dm;refine A9 E O O dp sl_24.1 O λdq E f9 dr=>?_;obtain⟨ga,_,ds⟩:=dr.lv;refine AU ?_;refine CG NC O ay λgb gc bz dt=>AU ?_;have du:=ds.mono dt;obtain⟨gd,ge,gf,rfl,dv,dw,dx,dy,dz,d0,d1,d2,d3,d4,d5,d6,d7,d8,d9,ea,eb,ec⟩:=Bu.ex du;refine Dj O O O ON ty_117.1 O bz .head O λgg ak az=>AU ?_;refine Ky 17 mo (by kernel_rfl) O ak (AU ?_);obtain⟨gh,b0,E⟩:=bd E;refine BT ak (mt (mt (mt (mt mh)))) O O sl_34.1 b0 O λgi b1=>?_;obtain⟨gj,b2,E⟩:=bd E;have ed:=ak.epAt (mt (mt (mt (mt mh)))) b2 Co.id b1;refine JJ Lr (λ_ x=>x) O ed ty_106.1 CE O λgk ee=>?_;have ef:=dz.mono' az;have eg:=d0.mono' az;have eh:=d1.mono' az;obtain⟨a7,b3,E⟩:=bd E;refine Kz O O O Zs O (λh' o=>RA (St.all h') (Bu.mk (x:=dq) dv dw dx dy (ef.mono' (o.all ak.1)) (eg.mono' (o.all ak.1)) (eh.mono' (o.all ak.1)) d2 d3 d4 d5 d6 d7 d8 d9 ea eb ec) (ee.mono (o.all ak.1)) b3) λei=>?_;obtain⟨ej,ek⟩:=ei;obtain⟨gl,b4,E⟩:=bd E;refine BT ak (mt (mt (mt (mt mh)))) O O sl_34.1 b4 O λgm b5=>JW λgn b6 gp=>?_;obtain⟨el,b7,E⟩:=bd E;refine De (r:=BK) (l:=ap) (i:=ao) (x:=el) O O (BK.mk (x:=a7) ⟨ej,ek⟩) b5 b7 MT.id ty_106.1 CE b6 (.tail (.tail (.tail (.tail .head)))) λgq b8 gr=>AU ?_;refine BD (AU ?_);refine WF.nil (λaa ww hf hw=>?_);have b9:=b8.sel [1,1,1,1,1,1,1,1,1] 1 O;exact⟨(BG (ao+1)),(upd ap ao a7),_,_,hf.sub (kp [111,110,0,112] O),hw,b9,EX,(BF _),E⟩
 refine JI O (WF.nil (λaa ww hf hw=>?_));cases E;exact Hk hf O hw Hj O EX ⟨_,O,ay⟩
def Oz (s:St S L h) {c:Value}{g:(List Int)}(d:Sl S h AB c g) {a:Int}(j:AA a) {r:Int}(E:Ml N g a=some r):
 B0 prog 213 #[c,vI a] S h (λv S' h'=>v=vI r∧AA r∧St S' (L) h'):=by
 refine BA 24 func213 O ntmps213 O λB=>?_;rw[Ml] at E;refine AU ?_;obtain⟨m,b,E⟩:=bd E;refine AS 6 19 (.bool m) ?_ ?_
 ·cases l:((decide (a<0))||(decide ((↑g.length:Int)≤a)))
  ·have b:=Em l b;refine AU ?_;refine A9 b O O d sl_29.1 O λt b u w=>AU ?_;cases b;exact AQ O
  have b:=El l b;cases b;exact A6 O O
 refine AU ?_;refine AF O E (λn E=>?_) (λn E=>?_)
 ·exact RT
 refine AU ?_;refine A9 E O O d sl_29.1 O λo E p k=>?_;have q:=k.i;exact RT
def Q6 (hs:St S L h) {n:Value}{c:(List Int)}(j:Sl S h AB n c) {b:Int}(m:AA b) {d:Int}(F:AA d) {g:Int}(s:AA g) {r:(List Int)}(E:NR N c b d g=some r):
 B0 prog 161 #[n,vI b,vI d,vI g] S h (λv S' h'=>St S' (OS AB 3 v r::L) h'):=by
 refine BA 56 func161 O ntmps161 O λB=>?_;rw[NR] at E;refine AU ?_;obtain⟨ag,E⟩:=LA E;refine I7 (r:=AB) (zx:=0) GC O ⟨O,by unfold AA;omega⟩ O O ag O O hs λv3 h4 ah e6=>AU ?_;have k7:=j.mono' e6;refine SI (r:=AB) (l:=(List.replicate ((↑c.length:Int):Int).toNat (0:Int))) (xs:=c) O O sl_29.1 (Sl.src k7) O ah .head λh8 G av=>AU ?_;refine BZ (.inl O) G (AU ?_);have ai:=j.nw;refine CC E O O O V2 O (λt H h' o=>Oz (St.all h') (ai.mono' (o.all G.1)) m H) λt E aj=>?_;have ak:=aj;refine Tj O O O (AU ?_);refine BL (kp [10,9,0,1,2] O) λI k aw=>?_;have ax:=j.nw;refine AU ?_;refine EZ (λa w=>∃(y:List Int),IV B S I (56,[]) a w [(9,v3)] (OS AB 3 v3 y::L) λ_ _=>KA N y=some r) ?_ ?_
 ·refine AF O E (λal E=>?_) (λal E=>?_)
  ·refine AU ?_;obtain⟨ay,J,E⟩:=bd E;refine BT k mh O O sl_29.1 J O λaz K=>?_;obtain⟨z,M,E⟩:=bd E;have am:=k.epAt mh M Co.id K;refine C8 FC (λ_ x=>x) O am ty_3.1 O λa0=>AU ?_;obtain⟨a1,Q,E⟩:=bd E;refine BT k mh O O sl_29.1 Q O λa2 U=>AU ?_;obtain⟨an,V,E⟩:=bd E;refine De (r:=AB) (l:=(PT (List.replicate ((↑c.length:Int):Int).toNat (0:Int)) c)) (i:=b) (x:=an) O O (⟨_,O,O,(BF _)⟩:Rd _ _ AB _ (BG (z-(min g t)))) U V MT.id ty_3.1 (λ_=>rfl) k .head λa3 q a4=>AU ?_;refine B5 (AU ?_);obtain⟨a5,W,E⟩:=bd E;refine BT q mh O O sl_29.1 W O λa6 X=>?_;obtain⟨a7,Y,E⟩:=bd E;have ao:=q.epAt mh Y Co.id X;refine C8 FC (λ_ x=>x) O ao ty_3.1 O λap=>AU ?_;refine CS E O O O Pm O q (λA Z=>GB (St.all _) ap (MM s ak) Z) λA E a8 a9 ba u bb bc p=>?_;obtain⟨rfl,aq,au⟩:=p;refine AU ?_;obtain⟨be,ab,E⟩:=bd E;refine BT u mh O O sl_29.1 ab O λbf ac=>AU ?_;obtain⟨ar,ad,E⟩:=bd E;refine De (r:=AB) (l:=(upd (PT (List.replicate ((↑c.length:Int):Int).toNat (0:Int)) c) b (BG (z-(min g t))))) (i:=d) (x:=ar) O O (⟨_,O,O,aq⟩:Rd _ _ AB _ A) ac ad MT.id ty_3.1 (λ_=>rfl) u .head λbg ae bh=>AU ?_;refine WF.nil (λaa ww C D=>?_);exact⟨(upd (upd (PT (List.replicate ((↑c.length:Int):Int).toNat (0:Int)) c) b (BG (z-(min g t)))) d A),_,_,C.sub (kp [9] O),D,ae,EX,E⟩
  refine AU ?_;refine WF.nil (λaa ww C D=>?_);exact⟨(PT (List.replicate ((↑c.length:Int):Int).toNat (0:Int)) c),_,_,C.sub (kp [9] O),D,k,(B6.refl S I),E⟩
 rintro aa ww ⟨y,bi,bj,C,D,af,bk,E⟩;refine AI ?_ C D;clear C D ww aa;rw[KA] at E;refine AU ?_;cases E;exact KN af O O EX
end Go.Proofs.YtedgiljmffngoaaGreat
