import Derived.Test.YtedgiljmffngoaaGreatPInst
import Derived.Test.YtedgiljmffngoaaGreatPForms
import Derived.Test.YtedgiljmffngoaaGreatPSort5
import Derived.Test.YtedgiljmffngoaaGreatPWalk0
namespace Go.Proofs.YtedgiljmffngoaaGreat
set_option linter.all false
open Go.RowKit
open Go.Proofs.Tryz
set_option maxRecDepth 10000
set_option maxHeartbeats 2000000
variable {N:Nat}{S:Nat→Prop}{L:List HP}{h:AS}
def TL (hs:St S L h) {i:Value}{l:BL}(p:Rd S h B7 i l) {j:Value}{b:AQ}(q:Rd S h BJ j b) {c:Int}(y:AA c) {r:AQ}(E:Hi N l b c=some r):
 B6 prog 159 #[i,j,vI c] S h (λv S' h'=>v= .agg #[vI r.V,vI r.X,.bool r.Au,.bool r.Am]∧AQ.ok r∧St S' (L) h'):=by
 refine A7 24 func159 O ntmps159 O λB=>?_;rw[Hi] at E;refine AU ?_;refine Bz O p CE O hs λq1 S2 h3 Q e5 k6=>?_;have k7:=q.mono e5;obtain⟨rfl,⟨r9,U⟩⟩:=BJ.ex k7;refine PQ O O O Q λs af D ag=>CP P7 O D λt u k ah=>AU ?_;refine AN (λa w=>∃(z:Bool) (A:Bool),IV B S2 u (24,[]) a w [(6,vP t 0),(4,vP s 0)] (Bx t 106 [vI 0,vI 0,.bool false,.bool false]::Bx s 106 [vI b.V,vI b.X,.bool z,.bool A]::L) λ_ _=>F8 N b z A=some r) ?_ ?_
 ·refine AU ?_;refine AG O E (λW E=>?_) (λW E=>?_)
  ·refine AU ?_;refine Ey (cs':=[vI b.V,vI b.X,.bool true,.bool b.Am]) O O O O Qc.1 O k (.tail .head) O O λai F Y=>AU ?_;refine WF.nil (λm n d g=>?_);exact⟨true,b.Am,_,_,d.sub (kp [6,4] O),g,F,Y,E⟩
  refine AU ?_;refine AG O E (λZ E=>?_) (λZ E=>?_)
  ·refine AU ?_;refine Ey (cs':=[vI b.V,vI b.X,.bool false,.bool b.Am]) O O O O Qc.1 O k (.tail .head) O O λaj G ab=>AU ?_;refine WF.nil (λm n d g=>?_);exact⟨false,b.Am,_,_,d.sub (kp [6,4] O),g,G,ab,E⟩
  refine AU ?_;refine Gx (λa w=>∃(C:Bool),IV B S2 u (24,[]) a w [(6,vP t 0),(4,vP s 0),(3,q1),(2,vI c),(14,.bool C)] (Bx t 106 [vI 0,vI 0,.bool false,.bool false]::Bx s 106 [vI b.V,vI b.X,.bool b.Au,.bool b.Am]::L) λ_ _=>Gu N l b c (F8 N b) C=some r) ?_ ?_
  ·refine AG O E (λac E=>?_) (λac E=>?_)
   ·refine AU ?_;refine WF.nil (λm n d g=>?_);exact⟨(decide (c=2)),_,_,d.sub (kp [6,4,3,2,14] O),g,k,(CG.refl S2 u),E⟩
   refine AU ?_;refine WF.nil (λm n d g=>?_);exact⟨(decide (c=3)),_,_,d.sub (kp [6,4,3,2,14] O),g,k,(CG.refl S2 u),E⟩
  rintro m n ⟨C,ak,am,d,g,o,H,E⟩;refine AK ?_ d g;clear d g n m;rw[Gu] at E;refine AG O E (λad E=>?_) (λad E=>?_)
  ·have an:=k6.nw;refine AU ?_;refine AG O E (λae E=>?_) (λae E=>?_)
   ·refine AU ?_;refine Ey (cs':=[vI b.V,vI b.X,.bool b.Au,.bool (decide (c=2))]) O O O O Qc.1 O o (.tail .head) O O λao I ap=>AU ?_;refine WF.nil (λm n d g=>?_);exact⟨b.Au,(decide (c=2)),_,_,d.sub (kp [6,4] O),g,I,EX,E⟩
   refine AU ?_;refine WF.nil (λm n d g=>?_);exact⟨b.Au,b.Am,_,_,d.sub (kp [6,4] O),g,o,H,E⟩
  refine AU ?_;refine WF.nil (λm n d g=>?_);exact⟨b.Au,b.Am,_,_,d.sub (kp [6,4] O),g,o,H,E⟩
 rintro m n ⟨z,A,aq,ar,d,g,J,au,E⟩;refine AK ?_ d g;clear d g n m;rw[F8] at E;refine AU ?_;refine C0 O O O O Hh.1 O J .head O λav K aw=>AU ?_;refine B0 (λm n d g=>?_);have x:=K.drop (.tail .head);have M:=x.drop .head;cases E;exact JC d O g (G4 (Uk d g x O mh Hh.1 O) JB) O EX ⟨O,⟨r9,U⟩,M⟩
def KL (l:St S L h) {c:Int}(i:AA c) {b:Int}(g:AA b) {a:Int}(d:AA a) {r:Int}(E:Hp N c b a=some r):
 B6 prog 205 #[vI c,vI b,vI a] S h (λv S' h'=>v=vI r∧AA r∧St S' (L) h'):=by
 refine A7 16 func205 O ntmps205 O λB=>?_;rw[Hp] at E;refine AU ?_;refine AG O E (λj E=>?_) (λj E=>?_)
 ·exact RT
 refine AU ?_;refine AG O E (λk E=>?_) (λk E=>?_)
 ·exact RT
 exact RT
def U5 (hs:St S L h) {g:Value}{s:BL}(k:Rd S h B7 g s) {j:Value}{b:AQ}(l:Rd S h BJ j b) {c:Int}(d:AA c) {r:AQ}(E:I6 N s b c=some r):
 B6 prog 142 #[g,j,vI c] S h (λv S' h'=>v= .agg #[vI r.V,vI r.X,.bool r.Au,.bool r.Am]∧AQ.ok r∧St S' (L) h'):=by
 refine A7 16 func142 O ntmps142 O λB=>?_;rw[I6] at E;refine AU ?_;refine Bz O k CE O hs λq1 S2 h3 Q e5 k6=>?_;have k7:=l.mono e5;obtain⟨rfl,⟨r9,U⟩⟩:=BJ.ex k7;refine PQ O O O Q λy af z ag=>CP P7 O z λA C t ah=>?_;have W:=k6.nw;refine AU ?_;refine Gx (λa w=>∃(m:Int),IV B S2 C (16,[]) a w [(6,vP A 0),(4,vP y 0)] (Bx A 106 [vI 0,vI 0,.bool false,.bool false]::Bx y 106 [vI b.V,vI m,.bool b.Au,.bool b.Am]::L) λ_ _=>AA m∧Lf N b m=some r) ?_ ?_
 ·refine AG O E (λY E=>?_) (λY E=>?_)
  ·refine B1 ?_;have Z:=W.fl Fb;have ab:=Z.i;refine AU ?_;refine Cf E O O O VB O t (λx D=>KL (St.all _) d (iq (n:=0) O) ab D) λx E ai aj ak F am an p=>?_;obtain⟨rfl,ac,ae⟩:=p;refine AU ?_;refine Ey (cs':=[vI b.V,vI x,.bool b.Au,.bool b.Am]) O O O O Gq.1 O F (.tail .head) O O λao G ap=>AU ?_;refine WF.nil (λK M o q=>?_);exact⟨x,_,_,o.sub (kp [6,4] O),q,G,EX,ac,E⟩
  refine AU ?_;refine WF.nil (λK M o q=>?_);exact⟨b.X,_,_,o.sub (kp [6,4] O),q,t,(CG.refl S2 C),U,E⟩
 rintro K M ⟨m,aq,ar,o,q,H,au,ad,E⟩;refine AK ?_ o q;clear o q M K;rw[Lf] at E;refine AU ?_;refine C0 O O O O Hh.1 O H .head O λav I aw=>AU ?_;refine B0 (λK M o q=>?_);have u:=I.drop (.tail .head);have J:=u.drop .head;cases E;exact JC o O q (G4 (Uk o q u O mh Hh.1 O) JB) O EX ⟨O,⟨r9,ad⟩,J⟩
def JN (j:St S L h) {a:Int}(c:AA a) {b:Int}(d:AA b) {r:Int}(E:GM N a b=some r):
 B6 prog 111 #[vI a,vI b] S h (λv S' h'=>v=vI r∧AA r∧St S' (L) h'):=by
 refine A7 24 func111 O ntmps111 O λB=>?_;rw[GM] at E;refine AU ?_;refine AG O E (λg E=>?_) (λg E=>?_)
 ·exact RT
 refine AU ?_;refine AG O E (λi E=>?_) (λi E=>?_)
 ·exact RT
 exact RT
def HH (j:St S L h) {a:Int}(c:AA a) {b:Int}(d:AA b) {r:Int}(E:Er N a b=some r):
 B6 prog 70 #[vI a,vI b] S h (λv S' h'=>v=vI r∧AA r∧St S' (L) h'):=by
 refine A7 24 func70 O ntmps70 O λB=>?_;rw[Er] at E;refine AU ?_;refine AG O E (λg E=>?_) (λg E=>?_)
 ·exact RT
 refine AU ?_;refine AG O E (λi E=>?_) (λi E=>?_)
 ·exact RT
 exact RT
def Tw (hs:St S L h) {b:Value}{j:BL}(d:Rd S h B7 b j) {c:Value}{a:AQ}(g:Rd S h BJ c a) {r:AQ}(E:Ho N j a=some r):
 B6 prog 160 #[b,c] S h (λv S' h'=>v= .agg #[vI r.V,vI r.X,.bool r.Au,.bool r.Am]∧AQ.ok r∧St S' (L) h'):=by
 refine A7 26 func160 O ntmps160 O λB=>?_;rw[Ho] at E;refine AU ?_;refine Bz O d CE O hs λq1 S2 h3 M e5 k6=>?_;have k7:=g.mono e5;obtain⟨rfl,⟨Q,q⟩⟩:=BJ.ex k7;refine PQ O O O M λao ap s aq=>CP P7 O s λar au k av=>AU ?_;refine AG O E (λU E=>?_) (λU E=>?_)
 ·refine AU ?_;refine C0 O O O O Hh.1 O k .head O λaw t ax=>AU ?_;refine B0 (λaa ww u w=>?_);have l:=t.drop (.tail .head);have x:=l.drop .head;cases E;exact JC u O w (G4 (Uk u w l O mh Hh.1 O) JB) O EX ⟨O,⟨Q,q⟩,x⟩
 refine AU ?_;refine BY (.inr ⟨mo,by kernel_rfl⟩) k (AU ?_);refine B4 E O O O Rm O (λW y h' o=>JN (St.all h') q Q y) λW E Y=>?_;have Z:=Y;have z:=k6.nw;have ab:=z.fl KI;have ac:=ab.i;refine AU ?_;refine B4 E O O O Rm O (λad A h' o=>JN (St.all h') (iq (n:=0) O) ac A) λad E ae=>?_;have af:=ae;have ag:=z.fl KI;have ah:=ag.i;refine AU ?_;refine B4 E O O O VB O (λai C h' o=>KL (St.all h') Z af ah C) λai E aj=>?_;have ak:=aj;refine AU ?_;refine BG (kp [5,4,3] O) λay D az=>AU ?_;refine B1 (AU ?_);refine Cf E O O O Q0 O D (λF G=>HH (St.all _) Q ak G) λF E a0 a1 a2 H a3 a4 p=>?_;obtain⟨rfl,am,an⟩:=p;refine AU ?_;refine Ey (cs':=[vI F,vI a.X,.bool a.Au,.bool a.Am]) O O O O Gq.1 O H (.tail .head) O O λa5 I a6=>AU ?_;refine C0 O O O O Hh.1 O I .head O λa7 J a8=>AU ?_;refine B0 (λaa ww u w=>?_);have m:=J.drop (.tail .head);have K:=m.drop .head;cases E;exact JC u O w (G4 (Uk u w m O mh Hh.1 O) JB) O EX ⟨O,⟨am,q⟩,K⟩
def Pm {y:Nat}{p0_w:AL}{U:Value}{V:Value}{Q:Value}{W:Value}{X:Value}{Y:Value}{ab:Value}{ac:Value}{z:Value}{t:Value}{u:Value}{D:Value}{G:Value}{c:Value}{d:Value}{K:Value}{q:Value}{g:Value}{j:Value}{k:Value}{m:Value}{p:Value}(hs:St S (Bx y 160 [.string p0_w.b.J,U,vI p0_w.b.P,V,Q,W,X,Y,ab,ac,vI p0_w.b.S,z,t,u,D,G,vI p0_w.s.C,c,d,K,q,g,j,k,m,p]::OO AB 3 29 c p0_w.s.E::OS AB 3 d p0_w.s.M::OS BJ 106 q p0_w.s.O::OS AB 3 g p0_w.s.N::OS AB 3 j p0_w.s.L::OS BO 74 k p0_w.moves::OS AB 3 m p0_w.peaks::OS AZ 121 p p0_w.sent::L) h) (b5:p0_w.b.J.size≤maxLen) (b6:Sl S h A6.str U p0_w.b.I) (b7:AA p0_w.b.P) (b8:Sl S h CJ V p0_w.b.A) (ad:Sl S h B7 Q p0_w.b.F) (b9:Sl S h HO W p0_w.b.Ab) (ca:Sl S h Eh X p0_w.b.Ae) (cb:Sl S h Gy Y p0_w.b.Af) (cc:Sl S h DD ab p0_w.b.Ai) (cd:Sl S h AB ac p0_w.b.Al) (a3:AA p0_w.b.S) (a4:Sl S h AB z p0_w.in_.Aa) (aj:Sl S h Gm t p0_w.in_.Ah) (ak:Sl S h Jy u p0_w.in_.Aj) (a5:Sl S h Gl D p0_w.in_.Z) (a6:Sl S h Ha G p0_w.in_.Aq) (a7:AA p0_w.s.C) (a8:Sl S h AZ K p0_w.s.H) {r:(List AQ)}(E:Gc N p0_w=some r):
 B6 prog 79 #[vP y 0] S h (λv S' h'=>∃ao:Value,v= .tuple #[]∧St S' (Bx y 160 [.string p0_w.b.J,U,vI p0_w.b.P,V,Q,W,X,Y,ab,ac,vI p0_w.b.S,z,t,u,D,G,vI p0_w.s.C,c,d,K,ao,g,j,k,m,p]::OO AB 3 29 c p0_w.s.E::OS AB 3 d p0_w.s.M::OS BJ 106 ao r::OS AB 3 g p0_w.s.N::OS AB 3 j p0_w.s.L::OS BO 74 k p0_w.moves::OS AB 3 m p0_w.peaks::OS AZ 121 p p0_w.sent::L) h'):=by
 refine A7 135 func79 O ntmps79 O λB=>?_;rw[Gc] at E;refine AU ?_;refine AN (λa w=>∃(l2:List AQ),IV B S h (135,[]) a w [(0,vP y 0)] (Bx y 160 [.string p0_w.b.J,U,vI p0_w.b.P,V,Q,W,X,Y,ab,ac,vI p0_w.b.S,z,t,u,D,G,vI p0_w.s.C,c,d,K,q,g,j,k,m,p]::OO AB 3 29 c p0_w.s.E::OS AB 3 d p0_w.s.M::OS BJ 106 q l2::OS AB 3 g p0_w.s.N::OS AB 3 j p0_w.s.L::OS BO 74 k p0_w.moves::OS AB 3 m p0_w.peaks::OS AZ 121 p p0_w.sent::L) λ_ _=>Cw N p0_w l2=some r) ?_ ?_
 ·refine AY (λn1=>λa w=>∃(i6:Int) (l8:List AQ),IV B S h (135,[]) a w [(13,vI (↑p0_w.in_.Ah.length:Int)),(12,t),(0,vP y 0),(14,vI i6)] (Bx y 160 [.string p0_w.b.J,U,vI p0_w.b.P,V,Q,W,X,Y,ab,ac,vI p0_w.b.S,z,t,u,D,G,vI p0_w.s.C,c,d,K,q,g,j,k,m,p]::OO AB 3 29 c p0_w.s.E::OS AB 3 d p0_w.s.M::OS BJ 106 q l8::OS AB 3 g p0_w.s.N::OS AB 3 j p0_w.s.L::OS BO 74 k p0_w.moves::OS AB 3 m p0_w.peaks::OS AZ 121 p p0_w.sent::L) λ_ _=>AA i6∧CX N p0_w (Cw N p0_w) n1 i6 l8=some r) N ?_ ?_ ?_
  ·intro aa ww hf hw;exact⟨0,p0_w.s.O,_,_,hf.sub (kp [13,12,0,14] O),hw,hs,(CG.refl S h),(iq (n:=0) O),E⟩
  ·rintro aa ww ⟨_,_,_,_,_,_,_,_,_,E⟩;rw[CX] at E;cases E
  rintro n1 aa ww ⟨i6,l8,S9,dv,hf,hw,ax,ce,r7,E⟩;refine AK ?_ hf hw;clear hf hw ww aa;rw[CX] at E;refine AU ?_;refine AG O E (λdw E=>?_) (λdw E=>?_)
  ·refine AU ?_;refine AN (λa w=>∃(au:List AQ),IV B S9 dv (135,[]) a w [(13,vI (↑p0_w.in_.Ah.length:Int)),(12,t),(0,vP y 0),(14,vI i6)] (Bx y 160 [.string p0_w.b.J,U,vI p0_w.b.P,V,Q,W,X,Y,ab,ac,vI p0_w.b.S,z,t,u,D,G,vI p0_w.s.C,c,d,K,q,g,j,k,m,p]::OO AB 3 29 c p0_w.s.E::OS AB 3 d p0_w.s.M::OS BJ 106 q au::OS AB 3 g p0_w.s.N::OS AB 3 j p0_w.s.L::OS BO 74 k p0_w.moves::OS AB 3 m p0_w.peaks::OS AZ 121 p p0_w.sent::L) λ_ _=>GH N i6 (CX N p0_w (Cw N p0_w) n1) au=some r) ?_ ?_
   ·refine AU ?_;have dx:=aj.mono' ce;refine A4 E O O dx uE.1 O λcf E gi dy=>?_;obtain⟨gj,_,dz⟩:=dy.lv;refine AU ?_;refine CP nB O ax λgl gm cg d0=>?_;have d1:=dz.mono d0;obtain⟨rfl,⟨d2,d3⟩⟩:=Gm.ex d1;refine C0 O O O O nR.1 O cg .head O λgn ch gp=>AU ?_;refine BY (.inr ⟨mo,by kernel_rfl⟩) ch ?_;have d4:=ad.nw;have d5:=d4.le;refine AU ?_;refine A5 E O O O PB O (λd6 ci h' o=>HK (St.all h') d3 (KU d5) ci) λd6 E=>BG (kp [26,3,13,12,0,14] O) λgq ag gr=>AG O E (λd7 E=>?_) (λd7 E=>?_)
    ·refine L4 29 mo (by kernel_rfl) O ag (AU ?_);have d8:=ad.nw;refine A4 E O O d8 Om.1 O λgs E gt d9=>?_;obtain⟨gu,_,ea⟩:=d9.lv;refine AU ?_;obtain⟨gv,cj,E⟩:=bd E;refine BT ag (mt (mt (mt (mt mh)))) O O NV.1 cj O λgw ck=>?_;obtain⟨gx,cl,E⟩:=bd E;have eb:=ag.epAt (mt (mt (mt (mt mh)))) cl Ff.id ck;refine Q7 Od (λ_ x=>x) O eb Hh.1 CE O λgy ec=>AU ?_;refine B4 E O O O rL O (λa9 cm h' o=>TL (St.all h') (ea.mono (o.all ag.1)) (ec.mono (o.all ag.1)) d2 cm) λa9 E ed=>?_;obtain⟨ee,ef⟩:=ed;obtain⟨gz,cn,E⟩:=bd E;refine BT ag (mt (mt (mt (mt mh)))) O O NV.1 cn O λg0 co=>KN λg1 cp g2=>?_;obtain⟨eg,cq,E⟩:=bd E;refine FK (r:=BJ) (l:=l8) (i:=cf.At) (x:=eg) O O (BJ.mk (x:=a9) ⟨ee,ef⟩) co cq Nh.id Hh.1 CE cp (.tail (.tail (.tail (.tail .head)))) λg3 cr g4=>AU ?_;refine WF.nil (λaa ww hf hw=>?_);have cs:=cr.sel [1,1,1,1,1,1,1,1,1] 1 O;exact⟨(upd l8 cf.At a9),_,_,hf.sub (kp [13,12,0,14] O),hw,cs,EX,E⟩
    refine AU ?_;refine WF.nil (λaa ww hf hw=>?_);have ct:=ag.sel [1,1,1,1,1,1,1,1,1] 1 O;exact⟨l8,_,_,hf.sub (kp [13,12,0,14] O),hw,ct,EX,E⟩
   rintro aa ww ⟨au,g5,g6,hf,hw,cu,g7,E⟩;refine AK ?_ hf hw;clear hf hw ww aa;rw[GH] at E;refine AU ?_;refine WF.nil (λaa ww hf hw=>?_);exact⟨(A9 (i6+1)),au,_,_,hf.sub (kp [13,12,0,14] O),hw,cu,EX,(BF _),E⟩
  refine A8 O (λaa ww hf hw=>?_);exact⟨l8,_,_,hf.sub (kp [0] O),hw,ax,ce,E⟩
 rintro aa ww ⟨l2,ba,bb,hf,hw,cv,eh,E⟩;refine AK ?_ hf hw;clear hf hw ww aa;rw[Cw] at E;have ei:=ak.mono' eh;refine AU ?_;refine AN (λa w=>∃(av:List AQ),IV B ba bb (135,[]) a w [(0,vP y 0)] (Bx y 160 [.string p0_w.b.J,U,vI p0_w.b.P,V,Q,W,X,Y,ab,ac,vI p0_w.b.S,z,t,u,D,G,vI p0_w.s.C,c,d,K,q,g,j,k,m,p]::OO AB 3 29 c p0_w.s.E::OS AB 3 d p0_w.s.M::OS BJ 106 q av::OS AB 3 g p0_w.s.N::OS AB 3 j p0_w.s.L::OS BO 74 k p0_w.moves::OS AB 3 m p0_w.peaks::OS AZ 121 p p0_w.sent::L) λ_ _=>Cv N p0_w av=some r) ?_ ?_
 ·refine AY (λn4=>λa w=>∃(am:Int) (an:List AQ),IV B ba bb (135,[]) a w [(62,vI (↑p0_w.in_.Aj.length:Int)),(61,u),(0,vP y 0),(63,vI am)] (Bx y 160 [.string p0_w.b.J,U,vI p0_w.b.P,V,Q,W,X,Y,ab,ac,vI p0_w.b.S,z,t,u,D,G,vI p0_w.s.C,c,d,K,q,g,j,k,m,p]::OO AB 3 29 c p0_w.s.E::OS AB 3 d p0_w.s.M::OS BJ 106 q an::OS AB 3 g p0_w.s.N::OS AB 3 j p0_w.s.L::OS BO 74 k p0_w.moves::OS AB 3 m p0_w.peaks::OS AZ 121 p p0_w.sent::L) λ_ _=>AA am∧CW N p0_w (Cv N p0_w) n4 am an=some r) N ?_ ?_ ?_
  ·intro aa ww hf hw;exact⟨0,l2,_,_,hf.sub (kp [62,61,0,63] O),hw,cv,(CG.refl ba bb),(iq (n:=0) O),E⟩
  ·rintro aa ww ⟨_,_,_,_,_,_,_,_,_,E⟩;rw[CW] at E;cases E
  rintro n4 aa ww ⟨am,an,ej,ek,hf,hw,ay,cw,g8,E⟩;refine AK ?_ hf hw;clear hf hw ww aa;rw[CW] at E;refine AU ?_;refine AG O E (λel E=>?_) (λel E=>?_)
  ·refine AU ?_;refine AN (λa w=>∃(aw:List AQ),IV B ej ek (135,[]) a w [(62,vI (↑p0_w.in_.Aj.length:Int)),(61,u),(0,vP y 0),(63,vI am)] (Bx y 160 [.string p0_w.b.J,U,vI p0_w.b.P,V,Q,W,X,Y,ab,ac,vI p0_w.b.S,z,t,u,D,G,vI p0_w.s.C,c,d,K,q,g,j,k,m,p]::OO AB 3 29 c p0_w.s.E::OS AB 3 d p0_w.s.M::OS BJ 106 q aw::OS AB 3 g p0_w.s.N::OS AB 3 j p0_w.s.L::OS BO 74 k p0_w.moves::OS AB 3 m p0_w.peaks::OS AZ 121 p p0_w.sent::L) λ_ _=>GG N am (CW N p0_w (Cv N p0_w) n4) aw=some r) ?_ ?_
   ·refine AU ?_;have em:=ei.mono' cw;refine A4 E O O em uD.1 O λcx E g9 en=>?_;obtain⟨eo,_,cy⟩:=en.lv;refine AU ?_;refine CP nC O ay λep eq bc cz=>?_;have c0:=cy.mono cz;obtain⟨rfl,⟨c1,c2⟩⟩:=Jy.ex c0;refine C0 O O O O nS.1 O bc .head O λer be es=>AU ?_;refine BY (.inr ⟨mo,by kernel_rfl⟩) be ?_;have c3:=ad.nw;have c4:=c3.le;refine AU ?_;refine A5 E O O O PB O (λc5 bf h' o=>HK (St.all h') c1 (KU c4) bf) λc5 E=>BG (kp [75,5,62,61,0,63] O) λeu ae ev=>AG O E (λc6 E=>?_) (λc6 E=>?_)
    ·refine L4 29 mo (by kernel_rfl) O ae (AU ?_);have c7:=ad.nw;refine A4 E O O c7 Om.1 O λew E ey c8=>?_;obtain⟨ez,_,c9⟩:=c8.lv;refine AU ?_;obtain⟨e0,bg,E⟩:=bd E;refine BT ae (mt (mt (mt (mt mh)))) O O NV.1 bg O λe1 bh=>?_;obtain⟨e2,bi,E⟩:=bd E;have da:=ae.epAt (mt (mt (mt (mt mh)))) bi Ff.id bh;refine Q7 Od (λ_ x=>x) O da Hh.1 CE O λe3 db=>AU ?_;refine B4 E O O O rO O (λaq bj h' o=>U5 (St.all h') (c9.mono (o.all ae.1)) (db.mono (o.all ae.1)) c2 bj) λaq E dc=>?_;obtain⟨dd,de⟩:=dc;obtain⟨e4,bk,E⟩:=bd E;refine BT ae (mt (mt (mt (mt mh)))) O O NV.1 bk O λe5 bl=>KN λe6 bm e7=>?_;obtain⟨df,bn,E⟩:=bd E;refine FK (r:=BJ) (l:=an) (i:=cx.At) (x:=df) O O (BJ.mk (x:=aq) ⟨dd,de⟩) bl bn Nh.id Hh.1 CE bm (.tail (.tail (.tail (.tail .head)))) λe8 bo e9=>AU ?_;refine WF.nil (λaa ww hf hw=>?_);have bp:=bo.sel [1,1,1,1,1,1,1,1,1] 1 O;exact⟨(upd an cx.At aq),_,_,hf.sub (kp [62,61,0,63] O),hw,bp,EX,E⟩
    refine AU ?_;refine WF.nil (λaa ww hf hw=>?_);have bq:=ae.sel [1,1,1,1,1,1,1,1,1] 1 O;exact⟨an,_,_,hf.sub (kp [62,61,0,63] O),hw,bq,EX,E⟩
   rintro aa ww ⟨aw,fa,fb,hf,hw,br,fc,E⟩;refine AK ?_ hf hw;clear hf hw ww aa;rw[GG] at E;refine AU ?_;refine WF.nil (λaa ww hf hw=>?_);exact⟨(A9 (am+1)),aw,_,_,hf.sub (kp [62,61,0,63] O),hw,br,EX,(BF _),E⟩
  refine A8 O (λaa ww hf hw=>?_);exact⟨an,_,_,hf.sub (kp [0] O),hw,ay,cw,E⟩
 rintro aa ww ⟨av,az,a0,hf,hw,bs,fd,E⟩;refine AK ?_ hf hw;clear hf hw ww aa;rw[Cv] at E;have dg:=ad.nw;refine AU ?_;refine A3 (AY (λn6=>λa w=>∃(ah:Int) (ai:List AQ),IV B az a0 (135,[]) a w [(111,vI (↑p0_w.b.F.length:Int)),(110,Q),(0,vP y 0),(112,vI ah)] (Bx y 160 [.string p0_w.b.J,U,vI p0_w.b.P,V,Q,W,X,Y,ab,ac,vI p0_w.b.S,z,t,u,D,G,vI p0_w.s.C,c,d,K,q,g,j,k,m,p]::OO AB 3 29 c p0_w.s.E::OS AB 3 d p0_w.s.M::OS BJ 106 q ai::OS AB 3 g p0_w.s.N::OS AB 3 j p0_w.s.L::OS BO 74 k p0_w.moves::OS AB 3 m p0_w.peaks::OS AZ 121 p p0_w.sent::L) λ_ _=>AA ah∧DA N p0_w n6 ah ai=some r) N ?_ ?_ ?_)
 ·intro aa ww hf hw;exact⟨0,av,_,_,hf.sub (kp [111,110,0,112] O),hw,bs,(CG.refl az a0),(iq (n:=0) O),E⟩
 ·rintro aa ww ⟨_,_,_,_,_,_,_,_,_,E⟩;rw[DA] at E;cases E
 rintro n6 aa ww ⟨ah,ai,fe,ff,hf,hw,ar,dh,fg,E⟩;refine AK ?_ hf hw;clear hf hw ww aa;rw[DA] at E;refine AU ?_;refine AG O E (λdi E=>?_) (λdi E=>?_)
 ·refine AU ?_;refine A3 (AU ?_);have dj:=dg.mono' dh;refine A4 E O O dj Om.1 O λfh E fi dk=>?_;obtain⟨fj,_,dl⟩:=dk.lv;refine AU ?_;refine CP Oe O ar λfk fl bt dm=>AU ?_;have a1:=dl.mono dm;obtain⟨fm,fn,fo,rfl,fp,fq,fr,fs,ft,fu,fv,fw,fx,fy,fz,f0,f1,f2,f3,f4,f5,f6⟩:=B7.ex a1;refine DU O O O ON Oj.1 O bt .head O λf7 af dn=>AU ?_;refine L4 17 mo (by kernel_rfl) O af (AU ?_);obtain⟨f8,bu,E⟩:=bd E;refine BT af (mt (mt (mt (mt mh)))) O O NV.1 bu O λf9 bv=>?_;obtain⟨ga,bw,E⟩:=bd E;have dp:=af.epAt (mt (mt (mt (mt mh)))) bw Ff.id bv;refine Q7 Od (λ_ x=>x) O dp Hh.1 CE O λgb dq=>?_;have ap:=a1.mono dn;obtain⟨a2,bx,E⟩:=bd E;refine PN O O O rK O (λh' o=>Tw (St.all h') (ap.mono (o.all af.1)) (dq.mono (o.all af.1)) bx) λdr=>?_;obtain⟨ds,dt⟩:=dr;obtain⟨gc,bz,E⟩:=bd E;refine BT af (mt (mt (mt (mt mh)))) O O NV.1 bz O λgd b0=>KN λge b1 gf=>?_;obtain⟨du,b2,E⟩:=bd E;refine FK (r:=BJ) (l:=ai) (i:=ah) (x:=du) O O (BJ.mk (x:=a2) ⟨ds,dt⟩) b0 b2 Nh.id Hh.1 CE b1 (.tail (.tail (.tail (.tail .head)))) λgg b3 gh=>AU ?_;refine BE (AU ?_);refine WF.nil (λaa ww hf hw=>?_);have b4:=b3.sel [1,1,1,1,1,1,1,1,1] 1 O;exact⟨(A9 (ah+1)),(upd ai ah a2),_,_,hf.sub (kp [111,110,0,112] O),hw,b4,EX,(BF _),E⟩
 refine KH O (WF.nil (λaa ww hf hw=>?_));cases E;exact JC hf O hw JB O EX ⟨_,O,ar⟩
def Qm (s:St S L h) {c:Value}{g:(List Int)}(d:Sl S h AB c g) {a:Int}(j:AA a) {r:Int}(E:KZ N g a=some r):
 B6 prog 213 #[c,vI a] S h (λv S' h'=>v=vI r∧AA r∧St S' (L) h'):=by
 refine A7 24 func213 O ntmps213 O λB=>?_;rw[KZ] at E;refine AU ?_;obtain⟨m,b,E⟩:=bd E;refine AW 6 19 (.bool m) ?_ ?_
 ·cases l:((decide (a<0))||(decide ((↑g.length:Int)≤a)))
  ·have b:=Gw l b;refine AU ?_;refine A4 b O O d Ce.1 O λt b u w=>AU ?_;cases b;exact AX O
  have b:=Gv l b;cases b;exact BD O O
 refine AU ?_;refine AG O E (λn E=>?_) (λn E=>?_)
 ·exact RT
 refine AU ?_;refine A4 E O O d Ce.1 O λo E p k=>?_;have q:=k.i;exact RT
def Tq (hs:St S L h) {n:Value}{c:(List Int)}(j:Sl S h AB n c) {b:Int}(m:AA b) {d:Int}(F:AA d) {g:Int}(s:AA g) {r:(List Int)}(E:Lq N c b d g=some r):
 B6 prog 161 #[n,vI b,vI d,vI g] S h (λv S' h'=>St S' (OS AB 3 v r::L) h'):=by
 refine A7 56 func161 O ntmps161 O λB=>?_;rw[Lq] at E;refine AU ?_;obtain⟨ag,E⟩:=KM E;refine J2 (r:=AB) (zx:=0) H5 O ⟨O,by unfold AA;omega⟩ O O ag O O hs λv3 h4 ah e6=>AU ?_;have k7:=j.mono' e6;refine VR (r:=AB) (l:=(List.replicate ((↑c.length:Int):Int).toNat (0:Int))) (xs:=c) O O Ce.1 (Sl.src k7) O ah .head λh8 G av=>AU ?_;refine BY (.inl O) G (AU ?_);have ai:=j.nw;refine B4 E O O O eL O (λt H h' o=>Qm (St.all h') (ai.mono' (o.all G.1)) m H) λt E aj=>?_;have ak:=aj;refine XU O O O (AU ?_);refine BG (kp [10,9,0,1,2] O) λI k aw=>?_;have ax:=j.nw;refine AU ?_;refine Gx (λa w=>∃(y:List Int),IV B S I (56,[]) a w [(9,v3)] (OS AB 3 v3 y::L) λ_ _=>Ku N y=some r) ?_ ?_
 ·refine AG O E (λal E=>?_) (λal E=>?_)
  ·refine AU ?_;obtain⟨ay,J,E⟩:=bd E;refine BT k mh O O Ce.1 J O λaz K=>?_;obtain⟨z,M,E⟩:=bd E;have am:=k.epAt mh M Ff.id K;refine FU K9 (λ_ x=>x) O am Gq.1 O λa0=>AU ?_;obtain⟨a1,Q,E⟩:=bd E;refine BT k mh O O Ce.1 Q O λa2 U=>AU ?_;obtain⟨an,V,E⟩:=bd E;refine FK (r:=AB) (l:=(Pf (List.replicate ((↑c.length:Int):Int).toNat (0:Int)) c)) (i:=b) (x:=an) O O (⟨_,O,O,(BF _)⟩:Rd _ _ AB _ (A9 (z-(min g t)))) U V Nh.id Gq.1 (λ_=>rfl) k .head λa3 q a4=>AU ?_;refine B1 (AU ?_);obtain⟨a5,W,E⟩:=bd E;refine BT q mh O O Ce.1 W O λa6 X=>?_;obtain⟨a7,Y,E⟩:=bd E;have ao:=q.epAt mh Y Ff.id X;refine FU K9 (λ_ x=>x) O ao Gq.1 O λap=>AU ?_;refine Cf E O O O Q0 O q (λA Z=>HH (St.all _) ap (Nc s ak) Z) λA E a8 a9 ba u bb bc p=>?_;obtain⟨rfl,aq,au⟩:=p;refine AU ?_;obtain⟨be,ab,E⟩:=bd E;refine BT u mh O O Ce.1 ab O λbf ac=>AU ?_;obtain⟨ar,ad,E⟩:=bd E;refine FK (r:=AB) (l:=(upd (Pf (List.replicate ((↑c.length:Int):Int).toNat (0:Int)) c) b (A9 (z-(min g t))))) (i:=d) (x:=ar) O O (⟨_,O,O,aq⟩:Rd _ _ AB _ A) ac ad Nh.id Gq.1 (λ_=>rfl) u .head λbg ae bh=>AU ?_;refine WF.nil (λaa ww C D=>?_);exact⟨(upd (upd (Pf (List.replicate ((↑c.length:Int):Int).toNat (0:Int)) c) b (A9 (z-(min g t)))) d A),_,_,C.sub (kp [9] O),D,ae,EX,E⟩
  refine AU ?_;refine WF.nil (λaa ww C D=>?_);exact⟨(Pf (List.replicate ((↑c.length:Int):Int).toNat (0:Int)) c),_,_,C.sub (kp [9] O),D,k,(CG.refl S I),E⟩
 rintro aa ww ⟨y,bi,bj,C,D,af,bk,E⟩;refine AK ?_ C D;clear C D ww aa;rw[Ku] at E;refine AU ?_;cases E;exact KG af O O EX
end Go.Proofs.YtedgiljmffngoaaGreat
