import Derived.Test.YtibidnaedddfdaaGreatTFacts
import Derived.Test.YtibidnaedddfdaaGreatTForms
import Derived.Test.YtibidnaedddfdaaGreatTWalk0
import Derived.Test.YtibidnaedddfdaaGreatTWalk16
import Derived.Test.YtibidnaedddfdaaGreatTWalk13
namespace Go.Proofs.YtibidnaedddfdaaGreat
set_option linter.all false
open Go.RowKit
open Go.Proofs.Tryz
set_option maxRecDepth 10000
set_option maxHeartbeats 2000000
variable {N:Nat}{S:Nat→Prop}{L:List HP}{h:A4}
def O4 (m:St S L h) {a:Value}{g:AS}(c:Rd S h BL a g) {b:Value}{i:AB}(d:Rd S h AC b i) {r:Bool}(E:KB N g i=some r):
 CA prog 159 #[a,b] S h (λv n h'=>v= .bool r∧St n (L) h'):=by
 refine A8 22 func159 O ntmps159 O λB=>?_;rw[KB] at E;refine AU ?_;refine A6 O c CE O m λw x y j o p=>?_;have q:=d.mono o;refine A6 O q CE O j λz A s l k t=>?_;have u:=p.mono k;refine AU ?_;refine Lc O O O (AU ?_);exact Lb O O O (RT)
def Pf (hs:St S L h) {x:Value}{d:AS}(J:Rd S h BL x d) {y:Value}{b:AF}(K:Rd S h AJ y b) {z:Value}{g:AB}(M:Rd S h AC z g) {r:AF}(E:IG N d b g=some r):
 CA prog 130 #[x,y,z] S h (λv S' h'=>v= .agg #[vI r.P.B,vI r.P.A,vI r.S,vI r.N.B,vI r.N.A]∧AF.ok r∧St S' (L) h'):=by
 refine A8 103 func130 O ntmps130 O λB=>?_;rw[IG] at E;refine WF.sl (A6 O J CE O hs λq1 S2 h3 a9 e5 k6=>?_);have k7:=K.mono e5;obtain⟨rfl,⟨r9,Y,Z,ah,ai⟩⟩:=AJ.ex k7;refine OI O O O a9 λQ b4 aj b5=>?_;have ba:=M.nw;refine A6 O ba CE O aj λb6 ak b7 am b8 an=>BZ So O am λU b9 c ao=>LF.nil (kp [6,5,4,3] O) (Dj (LX ?_));have u:=k6.nw;refine Lk O u AS.f_Kind fa_102_1.1 O λca bb=>G0 K1 c.1 O bb ty_3.1 O λcb=>Yr O (Cv O (A0 6 21 (.bool ((decide (d.I≠3))||(decide (g.A<g.B)))) ?_ ?_))
 ·cases cc:(decide (d.I≠3))
  ·refine Dw O ?_;have ap:=an.mono ao;exact Lk O ap AB.f_Lo fa_51_0.1 O λcd bc=>Dw O (G0 K1 c.1 O bc ty_3.1 O λce=>Dw O (Lk O ap AB.f_Hi fa_51_1.1 O λcf be=>Dw O (G0 K1 c.1 O be ty_3.1 O λcg=>Dw O (Yt O (Ho O (AZ O))))))
  exact BM O O
 refine Ip (kp [21,6,5,4,3] O) (AE O E (λbf E=>?_) (λbf E=>?_))
 ·refine WF.sl (IA 1 (L0 (vs:=[vI b.P.B,vI b.P.A,vI b.S,vI b.N.B,vI b.N.A]) K1 c O (mt mh) O O ty_97.1 O O (EI ?_)));refine BI O O O O ty_97.1 O c .head O λch aq ci=>LF.nil (kp [6] O) (WF.ret (λG H j k=>?_));have W:=aq.drop (.tail .head);have ar:=W.drop .head;cases E;exact Jw j O k (Hr (NS j k W O mh ty_97.1 O) Jr) O EX ⟨O,⟨r9,Y,Z,ah,ai⟩,ar⟩
 refine KT (LX (GH O fa_97_2.1 O (GH O fa_51_0.1 O (Jz K1 c O (mt mh) O ty_3.1 O (Vr O (Cv O (A0 5 32 (.bool ((decide (b.N.B≤0))&&(decide (0≤b.N.A)))) ?_ ?_)))))))
 ·cases cj:(decide (b.N.B≤0))
  ·exact BM O O
  exact Dw O (GH O fa_97_2.1 O (Dw O (GH O fa_51_1.1 O (Dw O (Jz K1 c O (mt mh) O ty_3.1 O (Dw O (SK O (Ho O (AZ O)))))))))
 refine ND O (kp [7,6,5,4,3] O) (LX (GH O fa_97_2.1 O (GH O fa_51_0.1 O (Jz K1 c O (mt mh) O ty_3.1 O (Vr O (Cv O (A0 5 42 (.bool ((decide (b.N.B≤1))&&(decide (1≤b.N.A)))) ?_ ?_)))))))
 ·cases ck:(decide (b.N.B≤1))
  ·exact BM O O
  exact Dw O (GH O fa_97_2.1 O (Dw O (GH O fa_51_1.1 O (Dw O (Jz K1 c O (mt mh) O ty_3.1 O (Dw O (SK O (Ho O (AZ O)))))))))
 refine ND O (kp [8,7,6,5,4,3] O) (Dj (LX (Cv O (NP O (Cv O (A0 3 48 (.bool ((!((decide (b.N.B≤0))&&(decide (0≤b.N.A))))&&(!((decide (b.N.B≤1))&&(decide (1≤b.N.A)))))) ?_ ?_))))))
 ·cases cl:(!((decide (b.N.B≤0))&&(decide (0≤b.N.A))))
  ·exact BM O O
  exact Dw O (Cv O (Dw O (NP O (Ho O (AZ O)))))
 refine Ip (kp [48,8,7,6,5,4,3] O) (AE O E (λbg E=>?_) (λbg E=>?_))
 ·refine WF.sl (IA 1 (L0 (vs:=[vI b.P.B,vI b.P.A,vI b.S,vI b.N.B,vI b.N.A]) K1 c O (mt mh) O O ty_97.1 O O (EI ?_)));refine BI O O O O ty_97.1 O c .head O λcm au cn=>LF.nil (kp [6] O) (WF.ret (λG H j k=>?_));have X:=au.drop (.tail .head);have av:=X.drop .head;cases E;exact Jw j O k (Hr (NS j k X O mh ty_97.1 O) Jr) O EX ⟨O,⟨r9,Y,Z,ah,ai⟩,av⟩
 refine KT (LX ?_);have V:=an.mono ao;refine Lk O V AB.f_Hi fa_51_1.1 O λco bh=>G0 K1 c.1 O bh ty_3.1 O λcp=>Lk O u Lo fa_102_12.1 O λcq bi=>G0 K1 c.1 O bi ty_3.1 O λcr=>SK O (ND O (kp [9,8,7,6,5,4,3] O) (LX (Lk O V AB.f_Lo fa_51_0.1 O λct bj=>G0 K1 c.1 O bj ty_3.1 O λcu=>Lk O u KO fa_102_13.1 O λcv bk=>G0 K1 c.1 O bk ty_3.1 O λcw=>Vr O (Cv O (A0 6 66 (.bool ((decide (g.B≤d.Ab))&&(decide (g.B<d.Ae)))) ?_ ?_)))))
 ·cases cx:(decide (g.B≤d.Ab))
  ·exact BM O O
  exact Dw O (Lk O V AB.f_Lo fa_51_0.1 O λcy bl=>Dw O (G0 K1 c.1 O bl ty_3.1 O λcz=>Dw O (Lk O u Lo fa_102_12.1 O λc0 bm=>Dw O (G0 K1 c.1 O bm ty_3.1 O λc1=>Dw O (SJ O (Ho O (AZ O)))))))
 refine ND O (kp [10,9,8,7,6,5,4,3] O) (Dj (WF.rc (.inl O) c (Lk O u Lo fa_102_12.1 O λc2 bn=>G0 RG c.1 O bn ty_3.1 O λc3=>Lk O u KO fa_102_13.1 O λc4 bo=>G0 RG c.1 O bo ty_3.1 O λc5=>Yt O (Cv O ?_))));obtain⟨l,i,E⟩:=bd E;refine A0 4 76 (.bool l) ?_ ?_
 ·cases aw:(decide (d.Ab<d.Ae))
  ·have i:=HX aw i;cases i;exact BM O O
  have i:=HU aw i;refine Dw O (Iz RG c.1 O u ty_102.1 CE O λc6 bp=>Dw O (Iz RG c.1 O V ty_51.1 CE O λc7 bq=>Dw O ?_));refine BE i O O O mG O (λbr ax h' o=>O4 (St.all h') (bp.mono (o.all c.1)) (bq.mono (o.all c.1)) ax) λbr i=>Ho O ?_;cases i;exact AZ O
 refine Rk O (BB (kp [11,10,9,8,7,6,4] O) λay C c8=>LX (Cv O (Cv O (A0 5 83 (.bool ((decide (d.Ae≤g.A))||(l&&((decide (b.N.B≤1))&&(decide (1≤b.N.A)))))) ?_ ?_))))
 ·cases c9:(decide (d.Ae≤g.A))
  ·refine Dw O (Cv O (Dw O (Cv O (A0 2 82 (.bool (l&&((decide (b.N.B≤1))&&(decide (1≤b.N.A))))) ?_ ?_))))
   ·cases da:l
    ·exact BM O O
    exact Dw O (Cv O (Dw O (Ho O (AZ O))))
   exact Ho O (AZ O)
  exact BM O O
 refine ND O (kp [9,11,10,7,6,4] O) (LX (Cv O (Cv O (A0 5 90 (.bool (((decide (g.B≤d.Ab))&&(decide (g.B<d.Ae)))||(l&&((decide (b.N.B≤0))&&(decide (0≤b.N.A)))))) ?_ ?_))))
 ·cases db:((decide (g.B≤d.Ab))&&(decide (g.B<d.Ae)))
  ·refine Dw O (Cv O (Dw O (Cv O (A0 2 89 (.bool (l&&((decide (b.N.B≤0))&&(decide (0≤b.N.A))))) ?_ ?_))))
   ·cases dc:l
    ·exact BM O O
    exact Dw O (Cv O (Dw O (Ho O (AZ O))))
   exact Ho O (AZ O)
  exact BM O O
 refine ND O (kp [10,9,6,4] O) (Dj (LX (Cv O (Cv O (A0 2 94 (.bool (((decide (d.Ae≤g.A))||(l&&((decide (b.N.B≤1))&&(decide (1≤b.N.A)))))&&(((decide (g.B≤d.Ab))&&(decide (g.B<d.Ae)))||(l&&((decide (b.N.B≤0))&&(decide (0≤b.N.A))))))) ?_ ?_)))))
 ·cases bs:((decide (d.Ae≤g.A))||(l&&((decide (b.N.B≤1))&&(decide (1≤b.N.A)))))
  ·exact BM O O
  exact Dw O (Cv O (Ho O (AZ O)))
 refine Ip (kp [94,9,6,4] O) (F2 (λa w=>∃(m:Int) (p:Int),IV B ak ay (103,[]) a w [(6,vP U 0),(4,vP Q 0)] (Bx U 97 [vI 0,vI 0,vI 0,vI 0,vI 0]::Bx Q 97 [vI b.P.B,vI b.P.A,vI b.S,vI m,vI p]::L) λ_ _=>AA m∧AA p∧FH N b m p=some r) ?_ ?_)
 ·refine AE O E (λaz E=>?_) (λaz E=>?_)
  ·refine Es (IA 2 (CT (cs:=[vI 0,vI 1]) HY O O O (GH O fa_97_2.1 O (EI ?_))));refine HH (cs':=[vI b.P.B,vI b.P.A,vI b.S,vI 0,vI 1]) O O O O ty_51.1 O C (.tail .head) O O λbt ab a0=>LF.nil (kp [6,4] O) (WF.nil (λG H j k=>?_));exact⟨0,1,_,_,j.sub (kp [6,4] O),k,ab,a0,(iq (n:=0) O),(iq (n:=1) O),E⟩
  refine LX (Cv O (Ip (kp [97,6,4] O) (F2 (λa w=>∃(s:Int) (t:Int),IV B ak ay (103,[]) a w [(6,vP U 0),(4,vP Q 0)] (Bx U 97 [vI 0,vI 0,vI 0,vI 0,vI 0]::Bx Q 97 [vI b.P.B,vI b.P.A,vI b.S,vI s,vI t]::L) λ_ _=>AA s∧AA t∧H8 N (FH N b) s t=some r) ?_ ?_)))
  ·refine AE O E (λa1 E=>?_) (λa1 E=>?_)
   ·refine Es (IA 2 (CT (cs:=[vI 1,vI 1]) HY O O O (GH O fa_97_2.1 O (EI ?_))));refine HH (cs':=[vI b.P.B,vI b.P.A,vI b.S,vI 1,vI 1]) O O O O ty_51.1 O C (.tail .head) O O λbu ac a2=>LF.nil (kp [6,4] O) (WF.nil (λG H j k=>?_));exact⟨1,1,_,_,j.sub (kp [6,4] O),k,ac,a2,(iq (n:=1) O),(iq (n:=1) O),E⟩
   refine Es (IA 2 (CT (cs:=[vI 0,vI 0]) HY O O O (GH O fa_97_2.1 O (EI ?_))));refine HH (cs':=[vI b.P.B,vI b.P.A,vI b.S,vI 0,vI 0]) O O O O ty_51.1 O C (.tail .head) O O λbv ad a3=>LF.nil (kp [6,4] O) (WF.nil (λG H j k=>?_));exact⟨0,0,_,_,j.sub (kp [6,4] O),k,ad,a3,(iq (n:=0) O),(iq (n:=0) O),E⟩
  rintro G H ⟨s,t,bw,bx,j,k,ae,a4,a5,a6,E⟩;refine AI ?_ j k;clear j k H G;rw[H8] at E;refine WF.nil (λG H j k=>?_);exact⟨s,t,_,_,j.sub (kp [6,4] O),k,ae,a4,a5,a6,E⟩
 rintro G H ⟨m,p,bz,b0,j,k,D,b1,a7,a8,E⟩;refine AI ?_ j k;clear j k H G;rw[FH] at E;refine WF.sl (IA 1 (L0 (vs:=[vI b.P.B,vI b.P.A,vI b.S,vI m,vI p]) K1 D O (mt mh) O O ty_97.1 O O (EI ?_)));refine BI O O O O ty_97.1 O D .head O λb2 af b3=>LF.nil (kp [6] O) (WF.ret (λG H j k=>?_));have F:=af.drop (.tail .head);have ag:=F.drop .head;cases E;exact Jw j O k (Hr (NS j k F O mh ty_97.1 O) Jr) O EX ⟨O,⟨r9,Y,Z,a7,a8⟩,ag⟩
def Nj {g:Nat}{p0_w:AK}{j:Value}{k:Value}{q:Value}{s:Value}{t:Value}{u:Value}{y:Value}{z:Value}{c:Value}{I:Value}{d:Value}{aj:Value}(hs:St S (Bx g 141 [.string p0_w.J.O,j,vI p0_w.J.T,k,q,s,t,u,y,z,vI p0_w.J.U,vI p0_w.L.H,c,I,d,aj]::OS AC 51 c p0_w.L.G::OS AJ 97 d p0_w.L.D::OS AC 51 aj p0_w.Ai::L) h) (dn:p0_w.J.O.size≤maxLen) (dp:Sl S h BX.str j p0_w.J.Z) (dq:AA p0_w.J.T) (bg:Sl S h B3 k p0_w.J.F) (ay:Sl S h BL q p0_w.J.D) (dr:Sl S h Gn s p0_w.J.Ak) (ds:Sl S h ED t p0_w.J.Ap) (dt:Sl S h Gp u p0_w.J.Aq) (du:Sl S h DC y p0_w.J.As) (dv:Sl S h AW z p0_w.J.Ar) (cb:AA p0_w.J.U) (cc:AA p0_w.L.H) (ab:Sl S h BU I p0_w.L.E) {Q:Value}{W:(List AB)}(ac:Sl S h AC Q W) {r:(List AY)×(List AF)×(List AB)}(E:Ff N p0_w W=some r):
 CA prog 79 #[vP g 0,Q] S h (λv S' h'=>∃a6 a7 a8:Value,v= .tuple #[]∧St S' (Bx g 141 [.string p0_w.J.O,j,vI p0_w.J.T,k,q,s,t,u,y,z,vI p0_w.J.U,vI p0_w.L.H,c,a6,a7,a8]::OS AC 51 c p0_w.L.G::OS BU 93 a6 r.1::OS AJ 97 a7 r.2.1::OS AC 51 a8 r.2.2::L) h'):=by
 refine A8 193 func79 O ntmps79 O λB=>?_;rw[Ff] at E;refine AU ?_;refine AN (λa w=>∃(v1:Value) (l2:List AB),IV B S h (193,[]) a w [(0,vP g 0)] (OS AC 51 v1 l2::Bx g 141 [.string p0_w.J.O,j,vI p0_w.J.T,k,q,s,t,u,y,z,vI p0_w.J.U,vI p0_w.L.H,c,I,d,v1]::OS AC 51 c p0_w.L.G::OS AJ 97 d p0_w.L.D::L) λ_ _=>BO N p0_w l2=some r) ?_ ?_
 ·refine BA (λn1=>λa w=>∃(i7:Int) (v9:Value) (ah:List AB),IV B S h (193,[]) a w [(0,vP g 0),(1,Q),(4,vI i7)] (OS AC 51 v9 ah::Bx g 141 [.string p0_w.J.O,j,vI p0_w.J.T,k,q,s,t,u,y,z,vI p0_w.J.U,vI p0_w.L.H,c,I,d,v9]::OS AC 51 c p0_w.L.G::OS AJ 97 d p0_w.L.D::L) λ_ _=>AA i7∧BJ N p0_w W (BO N p0_w) n1 i7 ah=some r) N ?_ ?_ ?_
  ·intro Y ww M V;have dw:=hs.sel [3,0,0,0] 0 O;exact⟨0,aj,p0_w.Ai,_,_,M.sub (kp [0,1,4] O),V,dw,(CX.refl S h),(iq (n:=0) O),E⟩
  ·rintro Y ww ⟨_,_,_,_,_,_,_,_,_,_,E⟩;rw[BJ] at E;cases E
  rintro n1 Y ww ⟨i7,v9,ah,b1,kg,M,V,a9,dx,r8,E⟩;refine AI ?_ M V;clear M V ww Y;rw[BJ] at E;have kh:=bg.mono' dx;refine AU ?_;refine AE O E (λgu E=>?_) (λgu E=>?_)
  ·refine AU ?_;refine BG (AU ?_);obtain⟨ki,dy,E⟩:=bd E;refine CR a9 (mt (mt mh)) O O sl_32.1 dy O λkj dz=>?_;obtain⟨bh,d0,E⟩:=bd E;have gv:=a9.epAt (mt (mt mh)) d0 Gs.id dz;refine Iz K1 (λ_ x=>x) O gv ty_51.1 CE O λkk gw=>AU ?_;refine BZ EU O a9 λan kl d1 gx=>?_;have gy:=gw.mono gx;obtain⟨rfl,⟨cd,ce⟩⟩:=AC.ex gy;refine BI O O O O ty_51.1 O d1 .head O λb2 ba km=>?_;have kn:=ac.nw;refine AU ?_;refine F2 (λa w=>∃(bi:Int) (bj:Int),IV B b1 b2 (193,[]) a w [(5,vP an 0),(0,vP g 0),(1,Q),(4,vI i7)] (Bx an 51 [vI bi,vI bj]::OS AC 51 v9 ah::Bx g 141 [.string p0_w.J.O,j,vI p0_w.J.T,k,q,s,t,u,y,z,vI p0_w.J.U,vI p0_w.L.H,c,I,d,v9]::OS AC 51 c p0_w.L.G::OS AJ 97 d p0_w.L.D::L) λ_ _=>AA bi∧AA bj∧DN N p0_w i7 ah (BJ N p0_w W (BO N p0_w) n1) bi bj=some r) ?_ ?_
   ·refine AE O E (λgz E=>?_) (λgz E=>?_)
    ·refine AU ?_;refine JL (.inr ⟨mo,by kernel_rfl⟩) (AU ?_);have g0:=ac.nw;refine AO E O O g0 sl_32.1 O λg1 E ko kq=>AU ?_;obtain⟨g2,ai,E⟩:=bd E;refine A0 12 52 (.bool g2) ?_ ?_
     ·cases d2:(decide (0≤g1.B))
      ·have ai:=HX d2 ai;cases ai;exact BM O O
      have ai:=HU d2 ai;refine AU ?_;have g3:=ac.nw;refine AO ai O O g3 sl_32.1 O λkr ai ks kt=>AU ?_;have g4:=ac.nw;refine AO ai O O g4 sl_32.1 O λku ai kv kw=>AU ?_;cases ai;exact AZ O
     refine AU ?_;refine F2 (λa w=>∃(bk:Int) (bl:Int),IV B b1 b2 (193,[]) a w [(5,vP an 0),(0,vP g 0),(1,Q),(4,vI i7)] (Bx an 51 [vI bk,vI bl]::OS AC 51 v9 ah::Bx g 141 [.string p0_w.J.O,j,vI p0_w.J.T,k,q,s,t,u,y,z,vI p0_w.J.U,vI p0_w.L.H,c,I,d,v9]::OS AC 51 c p0_w.L.G::OS AJ 97 d p0_w.L.D::L) λ_ _=>AA bk∧AA bl∧F8 N (DN N p0_w i7 ah (BJ N p0_w W (BO N p0_w) n1)) bk bl=some r) ?_ ?_
     ·refine AE O E (λg5 E=>?_) (λg5 E=>?_)
      ·refine GZ 6 mo (by kernel_rfl) O ba (AU ?_);have g6:=ac.nw;refine AO E O O g6 sl_32.1 O λkx E ky g7=>?_;obtain⟨kz,_,g8⟩:=g7.lv;refine AU ?_;obtain⟨d3,d4,E⟩:=bd E;refine IZ O O O XI O (λh' o=>LZ (St.all h') (AC.mk (x:=bh) ⟨cd,ce⟩) (g8.mono (o.all ba.1)) d4) λg9=>?_;obtain⟨ha,hc⟩:=g9;refine ET λk0 d5 k1=>?_;refine BI O O O O ty_51.1 O d5 .head O λk2 d6 k3=>AU ?_;refine WF.nil (λY ww M V=>?_);exact⟨d3.B,d3.A,_,_,M.sub (kp [5,0,1,4] O),V,d6,EX,ha,hc,E⟩
      refine AU ?_;refine WF.nil (λY ww M V=>?_);exact⟨bh.B,bh.A,_,_,M.sub (kp [5,0,1,4] O),V,ba,(CX.refl b1 b2),cd,ce,E⟩
     rintro Y ww ⟨bk,bl,k4,k5,M,V,d7,hd,he,hg,E⟩;refine AI ?_ M V;clear M V ww Y;rw[F8] at E;refine WF.nil (λY ww M V=>?_);exact⟨bk,bl,_,_,M.sub (kp [5,0,1,4] O),V,d7,hd,he,hg,E⟩
    refine AU ?_;refine WF.nil (λY ww M V=>?_);exact⟨bh.B,bh.A,_,_,M.sub (kp [5,0,1,4] O),V,ba,(CX.refl b1 b2),cd,ce,E⟩
   rintro Y ww ⟨bi,bj,cf,cg,M,V,d8,k6,hi,hj,E⟩;refine AI ?_ M V;clear M V ww Y;rw[DN] at E;refine AU ?_;refine AN (λa w=>∃(ao:Int) (ap:Int),IV B cf cg (193,[]) a w [(5,vP an 0),(0,vP g 0),(1,Q),(4,vI i7)] (Bx an 51 [vI ao,vI ap]::OS AC 51 v9 ah::Bx g 141 [.string p0_w.J.O,j,vI p0_w.J.T,k,q,s,t,u,y,z,vI p0_w.J.U,vI p0_w.L.H,c,I,d,v9]::OS AC 51 c p0_w.L.G::OS AJ 97 d p0_w.L.D::L) λ_ _=>AA ao∧AA ap∧C4 N i7 ah (BJ N p0_w W (BO N p0_w) n1) ao ap=some r) ?_ ?_
   ·refine BA (λn5=>λa w=>∃(aq:Int) (ar:Int) (au:Int),IV B cf cg (193,[]) a w [(5,vP an 0),(0,vP g 0),(1,Q),(4,vI i7),(6,vI aq)] (Bx an 51 [vI ar,vI au]::OS AC 51 v9 ah::Bx g 141 [.string p0_w.J.O,j,vI p0_w.J.T,k,q,s,t,u,y,z,vI p0_w.J.U,vI p0_w.L.H,c,I,d,v9]::OS AC 51 c p0_w.L.G::OS AJ 97 d p0_w.L.D::L) λ_ _=>AA aq∧AA ar∧AA au∧CN N p0_w i7 (C4 N i7 ah (BJ N p0_w W (BO N p0_w) n1)) n5 aq ar au=some r) N ?_ ?_ ?_
    ·intro Y ww M V;exact⟨0,bi,bj,_,_,M.sub (kp [5,0,1,4,6] O),V,d8,(CX.refl cf cg),(iq (n:=0) O),hi,hj,E⟩
    ·rintro Y ww ⟨_,_,_,_,_,_,_,_,_,_,_,_,E⟩;rw[CN] at E;cases E
    rintro n5 Y ww ⟨aq,ar,au,d9,ea,M,V,bm,eb,hp,bn,bo,E⟩;refine AI ?_ M V;clear M V ww Y;rw[CN] at E;have hq:=ab.nw;refine AU ?_;refine AE O E (λec E=>?_) (λec E=>?_)
    ·refine AU ?_;refine AN (λa w=>∃(a2:Int) (a3:Int),IV B d9 ea (193,[]) a w [(5,vP an 0),(0,vP g 0),(1,Q),(4,vI i7),(6,vI aq)] (Bx an 51 [vI a2,vI a3]::OS AC 51 v9 ah::Bx g 141 [.string p0_w.J.O,j,vI p0_w.J.T,k,q,s,t,u,y,z,vI p0_w.J.U,vI p0_w.L.H,c,I,d,v9]::OS AC 51 c p0_w.L.G::OS AJ 97 d p0_w.L.D::L) λ_ _=>AA a2∧AA a3∧F7 N aq (CN N p0_w i7 (C4 N i7 ah (BJ N p0_w W (BO N p0_w) n1)) n5) a2 a3=some r) ?_ ?_
     ·refine AU ?_;have ed:=ab.nw;refine AO E O O ed sl_33.1 O λee E hr ef=>?_;obtain⟨ht,_,eg⟩:=ef.lv;refine AU ?_;refine BZ Sq O bm λhu hv ch eh=>?_;have ei:=eg.mono eh;obtain⟨rfl,⟨hx,hy,ej,ek⟩⟩:=BU.ex ei;refine BI O O O O ty_93.1 O ch .head O λhz bp h0=>AU ?_;refine JL (.inr ⟨mo,by kernel_rfl⟩) (AU ?_);refine AE O E (λel E=>?_) (λel E=>?_)
      ·refine Es (AU ?_);obtain⟨b4,ci,E⟩:=bd E;refine Cj O O O XI O bp (LZ (St.all _) (AC.mk (x:=(⟨ar,au⟩:AB)) ⟨bn,bo⟩) (AC.mk (x:=ee.G) ⟨ej,ek⟩) ci) λh1 h2 h3 cj h4 h5 p=>?_;obtain⟨rfl,⟨em,en⟩,hk⟩:=p;refine BI O O O O ty_51.1 O cj (.tail .head) O λh6 ck h7=>AU ?_;refine WF.nil (λY ww M V=>?_);have cl:=ck.sel [1,1,1,1,1] 1 O;exact⟨b4.B,b4.A,_,_,M.sub (kp [5,0,1,4,6] O),V,cl,EX,em,en,E⟩
      refine AU ?_;refine WF.nil (λY ww M V=>?_);have cm:=bp.sel [1,1,1,1,1] 1 O;exact⟨ar,au,_,_,M.sub (kp [5,0,1,4,6] O),V,cm,EX,bn,bo,E⟩
     rintro Y ww ⟨a2,a3,h8,h9,M,V,cn,ia,eo,ep,E⟩;refine AI ?_ M V;clear M V ww Y;rw[F7] at E;refine AU ?_;refine WF.nil (λY ww M V=>?_);exact⟨(BV (aq+1)),a2,a3,_,_,M.sub (kp [5,0,1,4,6] O),V,cn,EX,(BY _),eo,ep,E⟩
    refine WF.exit O (λY ww M V=>?_);exact⟨ar,au,_,_,M.sub (kp [5,0,1,4] O),V,bm,eb,bn,bo,E⟩
   rintro Y ww ⟨ao,ap,eq,er,M,V,a1,ib,es,eu,E⟩;refine AI ?_ M V;clear M V ww Y;rw[C4] at E;obtain⟨af,co,E⟩:=bd E;refine Vk (m:=[(5,vP an 0),(0,vP g 0),(1,Q),(4,vI i7)]) 8 [0] (λi v hh=>match i with|0=>v=vP g 0|1=>v=vP g 0|2=>v=vP g 0|3=>v=vP g 15|4=>v=v9|5=>v= .agg #[vI ao,vI ap]∧AA ao∧AA ap|6=>v= .agg #[vI af.B,vI af.A]∧AA af.B∧AA af.A|7=>Sl (SN eq er hh) hh AC v ([af]:List AB)∧∃ad,v= .slice (some ad) 1 1|_=>False) [[],[],[(1,96)],[(2,97)],[(3,98)],[],[(5,100)],[(6,101)]] [(0,95),(4,99),(7,102)] mo (by kernel_rfl) [5,0,1,4] O (by kernel_rfl) (by kernel_rfl) (by kernel_rfl) (kp [5,0,1,4] O) MO ?_ ?_ ?_
   ·refine TR.cons [] (by kernel_rfl) O O (by kernel_rfl) ?_ ?_
    ·intro mq hh o;intro a M;exact⟨vP g 0,LP M O,O⟩
    exact trivial
   ·refine AT.cons O DM (AT.cons O DM (AT.cons O DM (AT.cons O DM (AT.cons O DM (AT.cons O ?_ ?_)))))
    ·intro mq hh o;have b3:=o.st a1;refine AU ?_;exact BR ⟨O,es,eu⟩
    refine AT.cons O ?_ ?_
    ·intro mq hh o;intro ic ev;have b3:=SN.st a1 o;obtain⟨rfl,ew,ey⟩:=ev;refine Cj O O O Vf O b3 (Ix (St.all _) (AC.mk (x:=(⟨ao,ap⟩:AB)) ⟨ew,ey⟩) co) λie ig ih hl ii b5 p=>?_;obtain⟨rfl,⟨ez,e0⟩,hm⟩:=p;exact B7 ⟨b5.siz,λb hb=>b5.same b hb⟩ ⟨O,ez,e0⟩
    refine AT.cons O ?_ ?_
    ·intro mq hh o;intro ij e1;have b3:=SN.st a1 o;obtain⟨rfl,e2,e3⟩:=e1;have hn:=b3.fz;refine IB (cs:=[vI af.B,vI af.A]) Ng O O O O O O O hn λik il cp im=>?_;have cq:=cp.bxos (r:=AC) (l:=([af]:List AB)) .head ⟨_,_,O,⟨O,⟨e2,e3⟩⟩,O⟩ (by simp [maxLen]);obtain⟨io,cr,ip,e4⟩:=cq.pubs .head;have bq:=Fz.done o EX cr;exact B7 bq.1 ⟨Sl.mono' e4 bq.2,_,O⟩
    exact trivial
   intro ir e5 it e6 iu e7 iv br;have ct:=SN.st a1 e5;cases e6;cases e7;obtain⟨br,ho,rfl⟩:=br;obtain⟨cu,E⟩:=Qw E;refine Lt (r:=AC) (l:=ah) (xs:=([af]:List AB)) O O Ng O (Sl.src br) O cu O ct (λ_=>(.tail .head)) λiw iy bs iz=>AU ?_;obtain⟨bt,bb,rfl,i0⟩:=bs.oslen (mt mh);refine HH (cs':=[.string p0_w.J.O,j,vI p0_w.J.T,k,q,s,t,u,y,z,vI p0_w.J.U,vI p0_w.L.H,c,I,d,(.slice bt (ah++([af]:List AB)).length bb)]) O O O O ty_32.1 O bs (.tail (.tail .head)) O O λi1 cv i2=>AU ?_;refine BP (AU ?_);refine WF.nil (λY ww M V=>?_);have cw:=cv.sel [1,1,1,1] 1 O;exact⟨(BV (i7+1)),(.slice bt (ah++([af]:List AB)).length bb),(ah++([af]:List AB)),_,_,M.sub (kp [0,1,4] O),V,cw,EX,(BY _),E⟩
  refine WF.exit O (λY ww M V=>?_);exact⟨v9,ah,_,_,M.sub (kp [0] O),V,a9,dx,E⟩
 rintro Y ww ⟨v1,l2,bu,bv,M,V,cx,i3,E⟩;refine AI ?_ M V;clear M V ww Y;rw[BO] at E;refine AU ?_;refine AN (λa w=>∃(bw:Value) (ag:List AY),IV B bu bv (193,[]) a w [(0,vP g 0),(8,bw)] (OS BU 93 bw ag::OS AC 51 v1 l2::Bx g 141 [.string p0_w.J.O,j,vI p0_w.J.T,k,q,s,t,u,y,z,vI p0_w.J.U,vI p0_w.L.H,c,I,d,v1]::OS AC 51 c p0_w.L.G::OS AJ 97 d p0_w.L.D::L) λ_ _=>C3 N p0_w l2 ag=some r) ?_ ?_
 ·refine BA (λn8=>λa w=>∃(a4:Value) (av:List AY) (aw:Int),IV B bu bv (193,[]) a w [(0,vP g 0),(8,a4),(9,vI aw)] (OS BU 93 a4 av::OS AC 51 v1 l2::Bx g 141 [.string p0_w.J.O,j,vI p0_w.J.T,k,q,s,t,u,y,z,vI p0_w.J.U,vI p0_w.L.H,c,I,d,v1]::OS AC 51 c p0_w.L.G::OS AJ 97 d p0_w.L.D::L) λ_ _=>AA aw∧CM N p0_w (C3 N p0_w l2) n8 av aw=some r) N ?_ ?_ ?_
  ·intro Y ww M V;have cy:=cx.nil BU 93;exact⟨(vN),([]:List AY),0,_,_,M.sub (kp [0,8,9] O),V,cy,(CX.refl bu bv),(iq (n:=0) O),E⟩
  ·rintro Y ww ⟨_,_,_,_,_,_,_,_,_,_,E⟩;rw[CM] at E;cases E
  rintro n8 Y ww ⟨a4,av,aw,b6,b7,M,V,a5,e8,i4,E⟩;refine AI ?_ M V;clear M V ww Y;rw[CM] at E;have i5:=ab.nw;refine AU ?_;refine AE O E (λe9 E=>?_) (λe9 E=>?_)
  ·refine AU ?_;refine AN (λa w=>∃(bc:Value) (be:List AY),IV B b6 b7 (193,[]) a w [(0,vP g 0),(9,vI aw),(8,bc)] (OS BU 93 bc be::OS AC 51 v1 l2::Bx g 141 [.string p0_w.J.O,j,vI p0_w.J.T,k,q,s,t,u,y,z,vI p0_w.J.U,vI p0_w.L.H,c,I,d,v1]::OS AC 51 c p0_w.L.G::OS AJ 97 d p0_w.L.D::L) λ_ _=>F6 N aw (CM N p0_w (C3 N p0_w l2) n8) be=some r) ?_ ?_
   ·refine AU ?_;refine JL (.inr ⟨mo,by kernel_rfl⟩) (AU ?_);have fa:=ab.nw;refine AO E O O fa sl_33.1 O λi6 E i8 i9=>AU ?_;refine AE O E (λfb E=>?_) (λfb E=>?_)
    ·refine AU ?_;have fc:=ab.nw;refine AO E O O fc sl_33.1 O λaz E ja fd=>?_;obtain⟨jb,_,fe⟩:=fd.lv;refine AU ?_;obtain⟨rfl,⟨ff,fg,fh,fi⟩⟩:=BU.ex fe;refine IB (cs:=[vI az.K,vI az.C,vI az.G.B,vI az.G.A]) Ob O O O O O O O a5 λjc jd cz je=>?_;obtain⟨c0,E⟩:=Qw E;refine LA (r:=BU) (l:=av) (xs:=([az]:List AY)) O O Ob O mh ⟨_,_,O,⟨O,⟨ff,fg,fh,fi⟩⟩,O⟩ O O c0 O cz (λ_=>(.tail .head)) λfj jf c1 jg=>?_;have c2:=c1.drop .head;refine AU ?_;refine WF.nil (λY ww M V=>?_);exact⟨fj,(av++([az]:List AY)),_,_,M.sub (kp [0,9,8] O),V,c2,EX,E⟩
    refine AU ?_;refine WF.nil (λY ww M V=>?_);exact⟨a4,av,_,_,M.sub (kp [0,9,8] O),V,a5,(CX.refl b6 b7),E⟩
   rintro Y ww ⟨bc,be,jh,ji,M,V,c3,jj,E⟩;refine AI ?_ M V;clear M V ww Y;rw[F6] at E;refine AU ?_;refine WF.nil (λY ww M V=>?_);exact⟨bc,be,(BV (aw+1)),_,_,M.sub (kp [0,8,9] O),V,c3,EX,(BY _),E⟩
  refine WF.exit O (λY ww M V=>?_);exact⟨a4,av,_,_,M.sub (kp [0,8] O),V,a5,e8,E⟩
 rintro Y ww ⟨bw,ag,b8,jk,M,V,bx,jl,E⟩;refine AI ?_ M V;clear M V ww Y;rw[C3] at E;refine AU ?_;obtain⟨ax,ak,rfl,jm⟩:=bx.oslen mh;refine HH (cs':=[.string p0_w.J.O,j,vI p0_w.J.T,k,q,s,t,u,y,z,vI p0_w.J.U,vI p0_w.L.H,c,(.slice ax ag.length ak),d,v1]) O O O O ty_33.1 O bx (.tail (.tail .head)) O O λb9 c4 jn=>AU ?_;refine BG (BA (λc5=>λa w=>∃(am:Int) (a0:List AF),IV B b8 b9 (193,[]) a w [(0,vP g 0),(10,vI am)] (OS BU 93 (.slice ax ag.length ak) ag::OS AC 51 v1 l2::Bx g 141 [.string p0_w.J.O,j,vI p0_w.J.T,k,q,s,t,u,y,z,vI p0_w.J.U,vI p0_w.L.H,c,(.slice ax ag.length ak),d,v1]::OS AC 51 c p0_w.L.G::OS AJ 97 d a0::L) λ_ _=>AA am∧Cc N p0_w l2 ag c5 am a0=some r) N ?_ ?_ ?_)
 ·intro Y ww M V;exact⟨0,p0_w.L.D,_,_,M.sub (kp [0,10] O),V,c4,(CX.refl b8 b9),(iq (n:=0) O),E⟩
 ·rintro Y ww ⟨_,_,_,_,_,_,_,_,_,E⟩;rw[Cc] at E;cases E
 rintro c5 Y ww ⟨am,a0,fk,fl,M,V,bz,jo,jp,E⟩;refine AI ?_ M V;clear M V ww Y;rw[Cc] at E;have jq:=ay.nw;refine AU ?_;refine AE O E (λfm E=>?_) (λfm E=>?_)
 ·refine AU ?_;refine AN (λa w=>∃(bf:List AF),IV B fk fl (193,[]) a w [(0,vP g 0),(10,vI am)] (OS BU 93 (.slice ax ag.length ak) ag::OS AC 51 v1 l2::Bx g 141 [.string p0_w.J.O,j,vI p0_w.J.T,k,q,s,t,u,y,z,vI p0_w.J.U,vI p0_w.L.H,c,(.slice ax ag.length ak),d,v1]::OS AC 51 c p0_w.L.G::OS AJ 97 d bf::L) λ_ _=>FY N am (Cc N p0_w l2 ag c5) bf=some r) ?_ ?_
  ·refine AU ?_;have fn:=ay.nw;refine AO E O O fn sl_24.1 O λfo E jr fp=>?_;obtain⟨js,_,fq⟩:=fp.lv;refine AU ?_;refine BZ NW O bz λjt ju c6 fr=>?_;have fs:=fq.mono fr;obtain⟨jv,jw,jx,rfl,ft,fu,fv,fw,fx,fy,f0,f1,f2,f3,f4,f5,f6,f7,f8,f9,ga,gb⟩:=BL.ex fs;refine G1 O O O ON ty_102.1 O c6 .head O λjy X b0=>AU ?_;refine AE O E (λgc E=>?_) (λgc E=>?_)
   ·refine GZ 25 mo (by kernel_rfl) O X (AU ?_);obtain⟨jz,c7,E⟩:=bd E;refine CR X (mt (mt (mt (mt (mt mh))))) O O sl_34.1 c7 O λj0 c8=>?_;obtain⟨j1,c9,E⟩:=bd E;have ge:=X.epAt (mt (mt (mt (mt (mt mh))))) c9 Gs.id c8;refine Iz RG (λ_ x=>x) O ge ty_97.1 CE O λj2 gf=>AU ?_;obtain⟨j3,da,E⟩:=bd E;refine CR X (mt (mt mh)) O O sl_32.1 da O λj4 db=>?_;obtain⟨j5,dc,E⟩:=bd E;have gg:=X.epAt (mt (mt mh)) dc Gs.id db;refine Iz RG (λ_ x=>x) O gg ty_51.1 CE O λj6 gh=>?_;have gi:=fx.mono' b0;have gj:=fy.mono' b0;have gk:=f0.mono' b0;obtain⟨ca,dd,E⟩:=bd E;refine IZ O O O mN O (λh' o=>Pf (St.all h') (BL.mk (x:=fo) ft fu fv fw (gi.mono' (o.all X.1)) (gj.mono' (o.all X.1)) (gk.mono' (o.all X.1)) f1 f2 f3 f4 f5 f6 f7 f8 f9 ga gb) (gf.mono (o.all X.1)) (gh.mono (o.all X.1)) dd) λgl=>?_;obtain⟨gm,gn,gp,gq,gr⟩:=gl;obtain⟨j7,de,E⟩:=bd E;refine CR X (mt (mt (mt (mt (mt mh))))) O O sl_34.1 de O λj8 df=>ET λj9 dg ka=>?_;obtain⟨gs,dh,E⟩:=bd E;refine JS (r:=AJ) (l:=a0) (i:=am) (x:=gs) O O (AJ.mk (x:=ca) ⟨gm,gn,gp,gq,gr⟩) df dh RI.id ty_97.1 CE dg (.tail (.tail (.tail (.tail (.tail .head))))) λkb di kc=>AU ?_;refine WF.nil (λY ww M V=>?_);have dj:=di.sel [1,1,1,1,1] 1 O;exact⟨(upd a0 am ca),_,_,M.sub (kp [0,10] O),V,dj,EX,E⟩
   refine AU ?_;refine WF.nil (λY ww M V=>?_);have dk:=X.sel [1,1,1,1,1] 1 O;exact⟨a0,_,_,M.sub (kp [0,10] O),V,dk,EX,E⟩
  rintro Y ww ⟨bf,kd,ke,M,V,dl,kf,E⟩;refine AI ?_ M V;clear M V ww Y;rw[FY] at E;refine AU ?_;refine WF.nil (λY ww M V=>?_);exact⟨(BV (am+1)),bf,_,_,M.sub (kp [0,10] O),V,dl,EX,(BY _),E⟩
 refine M1 O (WF.nil (λY ww M V=>?_));have dm:=bz.sel [2,2,0,1,0] 0 O;cases E;exact Jw M O V Jr O EX ⟨_,_,_,O,dm⟩
def Nv {w:Nat}{p0_w:AK}{j:Value}{k:Value}{l:Value}{m:Value}{n:Value}{p:Value}{q:Value}{s:Value}{a:Value}{b:Value}{c:Value}{d:Value}(hs:St S (Bx w 141 [.string p0_w.J.O,j,vI p0_w.J.T,k,l,m,n,p,q,s,vI p0_w.J.U,vI p0_w.L.H,a,b,c,d]::OS AC 51 a p0_w.L.G::OS BU 93 b p0_w.L.E::OS AJ 97 c p0_w.L.D::OS AC 51 d p0_w.Ai::L) h) (Q:p0_w.J.O.size≤maxLen) (A:Sl S h BX.str j p0_w.J.Z) (V:AA p0_w.J.T) (t:Sl S h B3 k p0_w.J.F) (W:Sl S h BL l p0_w.J.D) (X:Sl S h Gn m p0_w.J.Ak) (Y:Sl S h ED n p0_w.J.Ap) (aa:Sl S h Gp p p0_w.J.Aq) (ab:Sl S h DC q p0_w.J.As) (ac:Sl S h AW s p0_w.J.Ar) (K:AA p0_w.J.U) (M:AA p0_w.L.H) {x:Value}{y:Jb}(I:Rd S h F3 x y) {z:Int}(ag:AA z) {r:Bool}(E:Iu N p0_w y z=some r):
 CA prog 160 #[vP w 0,x,vI z] S h (λv S' h'=>v= .bool r∧St S' (Bx w 141 [.string p0_w.J.O,j,vI p0_w.J.T,k,l,m,n,p,q,s,vI p0_w.J.U,vI p0_w.L.H,a,b,c,d]::OS AC 51 a p0_w.L.G::OS BU 93 b p0_w.L.E::OS AJ 97 c p0_w.L.D::OS AC 51 d p0_w.Ai::L) h'):=by
 refine A8 69 func160 O ntmps160 O λB=>?_;rw[Iu] at E;refine AU ?_;refine A6 O I CE O hs λq1 S2 h3 ah e5 k6=>AU ?_;refine WF.rc (.inr ⟨mo,by kernel_rfl⟩) ah (AU ?_);obtain⟨ai,u,E⟩:=bd E;refine A0 11 22 (.bool ai) ?_ ?_
 ·cases ad:(decide (y.Ay≠z))
  ·have u:=HX ad u;have aj:=k6.fl RJ;have ak:=aj.i;have al:=A.mono' e5;have am:=al.le;refine AU ?_;refine BE u O O O YU O (λan ae h' o=>Kq (St.all h') ak (MB am) ae) λan u=>AU ?_;cases u;exact AZ O
  have u:=HU ad u;cases u;exact BM O O
 have aw:=t.mono' e5;refine AU ?_;refine BB (kp [43,4,0,2] O) λax av ao=>AE O E (λap E=>?_) (λap E=>?_)
 ·exact RT
 refine AU ?_;refine JL (.inr ⟨mo,by kernel_rfl⟩) ?_;have ay:=k6.mono ao;refine AU ?_;obtain⟨aq,g,E⟩:=bd E;refine A0 21 68 (.bool aq) ?_ ?_
 ·cases af:(decide (y.C=(-1)))
  ·have g:=HX af g;refine AU ?_;have ar:=t.nw;refine AO g O O ar sl_23.1 O λaz g a0 a1=>AU ?_;have au:=t.nw;refine AO g O O au sl_23.1 O λa2 g a3 a4=>AU ?_;cases g;exact AZ O
  have g:=HU af g;cases g;exact BM O O
 exact RT
def Nm {j:Nat}{p0_w:AK}{k:Value}{q:Value}{s:Value}{t:Value}{u:Value}{x:Value}{y:Value}{z:Value}{b:Value}{c:Value}{d:Value}{g:Value}(hs:St S (Bx j 141 [.string p0_w.J.O,k,vI p0_w.J.T,q,s,t,u,x,y,z,vI p0_w.J.U,vI p0_w.L.H,b,c,d,g]::OS AC 51 b p0_w.L.G::OS BU 93 c p0_w.L.E::OS AJ 97 d p0_w.L.D::OS AC 51 g p0_w.Ai::L) h) (a0:p0_w.J.O.size≤maxLen) (a1:Sl S h BX.str k p0_w.J.Z) (a2:AA p0_w.J.T) (ak:Sl S h B3 q p0_w.J.F) (ag:Sl S h BL s p0_w.J.D) (a3:Sl S h Gn t p0_w.J.Ak) (a4:Sl S h ED u p0_w.J.Ap) (a5:Sl S h Gp x p0_w.J.Aq) (a6:Sl S h DC y p0_w.J.As) (a7:Sl S h AW z p0_w.J.Ar) (aq:AA p0_w.J.U) (ar:AA p0_w.L.H) {A:Int}(bo:AA A) {ao:Value}{I:Cn}(a8:Rd S h Gr ao I) {r:(List AD)}(E:Fg N p0_w A I=some r):
 CA prog 131 #[vP j 0,vI A,ao] S h (λv S' h'=>St S' (OS AM 204 v r::Bx j 141 [.string p0_w.J.O,k,vI p0_w.J.T,q,s,t,u,x,y,z,vI p0_w.J.U,vI p0_w.L.H,b,c,d,g]::OS AC 51 b p0_w.L.G::OS BU 93 c p0_w.L.E::OS AJ 97 d p0_w.L.D::OS AC 51 g p0_w.Ai::L) h'):=by
 refine A8 112 func131 O ntmps131 O λB=>?_;rw[Fg] at E;refine AU ?_;refine A6 O a8 CE O hs λq1 S2 h3 ek e5 k6=>AU ?_;refine AN (λa w=>∃(v7:Value) (l8:List AD),IV B S2 h3 (112,[]) a w [(0,vP j 0),(1,vI A),(7,v7)] (OS AM 204 v7 l8::Bx j 141 [.string p0_w.J.O,k,vI p0_w.J.T,q,s,t,u,x,y,z,vI p0_w.J.U,vI p0_w.L.H,b,c,d,g]::OS AC 51 b p0_w.L.G::OS BU 93 c p0_w.L.E::OS AJ 97 d p0_w.L.D::OS AC 51 g p0_w.Ai::L) λ_ _=>C9 N p0_w A l8=some r) ?_ ?_
 ·refine BA (λn1=>λa w=>∃(au:Value) (av:List AD) (ai:Int),IV B S2 h3 (112,[]) a w [(5,q1),(0,vP j 0),(1,vI A),(7,au),(8,vI ai)] (OS AM 204 au av::Bx j 141 [.string p0_w.J.O,k,vI p0_w.J.T,q,s,t,u,x,y,z,vI p0_w.J.U,vI p0_w.L.H,b,c,d,g]::OS AC 51 b p0_w.L.G::OS BU 93 c p0_w.L.E::OS AJ 97 d p0_w.L.D::OS AC 51 g p0_w.Ai::L) λ_ _=>AA ai∧CQ N p0_w A I (C9 N p0_w A) n1 av ai=some r) N ?_ ?_ ?_
  ·intro aa ww Q W;have cx:=ek.nil AM 204;exact⟨(vN),([]:List AD),0,_,_,Q.sub (kp [5,0,1,7,8] O),W,cx,(CX.refl S2 h3),(iq (n:=0) O),E⟩
  ·rintro aa ww ⟨_,_,_,_,_,_,_,_,_,_,E⟩;rw[CQ] at E;cases E
  rintro n1 aa ww ⟨au,av,ai,el,em,Q,W,br,cy,h5,E⟩;refine AI ?_ Q W;clear Q W ww aa;rw[CQ] at E;have bw:=k6.mono cy;refine AU ?_;refine AE O E (λen E=>?_) (λen E=>?_)
  ·refine AU ?_;refine AN (λa w=>∃(bp:Value) (bq:List AD),IV B el em (112,[]) a w [(5,q1),(0,vP j 0),(1,vI A),(8,vI ai),(7,bp)] (OS AM 204 bp bq::Bx j 141 [.string p0_w.J.O,k,vI p0_w.J.T,q,s,t,u,x,y,z,vI p0_w.J.U,vI p0_w.L.H,b,c,d,g]::OS AC 51 b p0_w.L.G::OS BU 93 c p0_w.L.E::OS AJ 97 d p0_w.L.D::OS AC 51 g p0_w.Ai::L) λ_ _=>GF N ai (CQ N p0_w A I (C9 N p0_w A) n1) bq=some r) ?_ ?_
   ·refine AU ?_;refine Es ?_;have eo:=bw.fl LO;obtain⟨h6,_,ep⟩:=eo.ll;refine AU ?_;refine AO E O O ep sl_39.1 O λh7 E h8 eq=>?_;obtain⟨h9,_,er⟩:=eq.lv;refine AU ?_;have cz:=br.sel [1,1,1,1,1,0] 0 O;have es:=a1.nw;have eu:=ak.nw;have ev:=ag.nw;have ew:=a3.nw;have ey:=a4.nw;have ez:=a5.nw;have e0:=a6.nw;have e1:=a7.nw;refine E4 E O O O mF O (λe2 c0=>Nv (p0_w:=p0_w) cz a0 es a2 eu ev ew ey ez e0 e1 aq ar er bo c0) λe2 E ia an e3 e4 p=>?_;obtain⟨rfl,X⟩:=p;refine AU ?_;refine AE O E (λe6 E=>?_) (λe6 E=>?_)
    ·obtain ⟨ab,c1,E⟩:=bd E;obtain⟨ac,c2,E⟩:=bd E;refine MJ (m:=[(5,q1),(0,vP j 0),(1,vI A),(7,au),(8,vI ai)]) 15 (λi v hh=>match i with|0=>v=au|1=>Pt an hh (BX.sl F3) v I.An|2=>Sl an hh F3 v I.An|3=>v=vI ai∧AA ai|4=>Pt an hh F3 v ab|5=>Pt an hh AW v ab.Al|6=>v=vI ab.Al∧AA ab.Al|7=>Pt an hh (BX.sl F3) v I.An|8=>Sl an hh F3 v I.An|9=>v=vI ai∧AA ai|10=>Pt an hh F3 v ac|11=>Pt an hh AW v ac.C|12=>v=vI ac.C∧AA ac.C|13=>v= .agg #[vI ab.Al,vI 0,vI ac.C,vI 0]∧AA ab.Al∧AA 0∧AA ac.C∧AA 0|14=>Sl (SN an e3 hh) hh AM v ([(⟨ab.Al,0,ac.C,0⟩:AD)]:List AD)∧∃ad,v= .slice (some ad) 1 1|_=>False) [[],[],[(1,28)],[],[(2,29),(3,30)],[(4,31)],[(5,32)],[],[(7,34)],[],[(8,35),(9,36)],[(10,37)],[(11,38)],[(6,33),(12,39)],[(13,40)]] [(0,27),(14,41)] mo (by kernel_rfl) [5,0,1,7,8] O (by kernel_rfl) (by kernel_rfl) (by kernel_rfl) (kp [5,0,1,7,8] O) MO ?_ ?_
     ·refine AT.cons O DM (AT.cons O ?_ ?_)
      ·intro mq hh o;have aj:=o.st X;have e7:=bw.nw;have e8:=e7.fl LO;refine AU ?_;exact BR e8
      refine AT.cons O ?_ ?_
      ·intro mq hh o;intro e9 bx;have aj:=o.st X;have bx:Pt _ _ (BX.sl F3) e9 I.An:=bx;obtain⟨ib,_,fa⟩:=bx.ll;refine AU ?_;exact BR fa
      refine AT.cons O DM (AT.cons O ?_ ?_)
      ·intro mq hh o;intro fb bz ic fc;have aj:=o.st X;have bz:Sl _ _ F3 fb I.An:=bz;obtain⟨rfl,id⟩:=fc;refine AU ?_;refine MK O O bz sl_39.1 c1 O λie fd=>AU ?_;exact BR fd
      refine AT.cons O ?_ ?_
      ·intro mq hh o;intro c3 a9;have aj:=o.st X;have a9:Pt _ _ F3 c3 ab:=a9;have c4:=a9.fl Jb.f_Litres;refine AU ?_;exact BR c4
      refine AT.cons O ?_ ?_
      ·intro mq hh o;intro c5 ba;have aj:=o.st X;have ba:Pt _ _ AW c5 ab.Al:=ba;have c6:=ba.i;refine AU ?_;exact BR ⟨O,c6⟩
      refine AT.cons O ?_ ?_
      ·intro mq hh o;have aj:=o.st X;have c7:=bw.nw;have c8:=c7.fl LO;refine AU ?_;exact BR c8
      refine AT.cons O ?_ ?_
      ·intro mq hh o;intro c9 bb;have aj:=o.st X;have bb:Pt _ _ (BX.sl F3) c9 I.An:=bb;obtain⟨fg,_,da⟩:=bb.ll;refine AU ?_;exact BR da
      refine AT.cons O DM (AT.cons O ?_ ?_)
      ·intro mq hh o;intro db bc fh dc;have aj:=o.st X;have bc:Sl _ _ F3 db I.An:=bc;obtain⟨rfl,fi⟩:=dc;refine AU ?_;refine MK O O bc sl_39.1 c2 O λfj dd=>AU ?_;exact BR dd
      refine AT.cons O ?_ ?_
      ·intro mq hh o;intro de be;have aj:=o.st X;have be:Pt _ _ F3 de ac:=be;have df:=be.fl Jb.f_To;refine AU ?_;exact BR df
      refine AT.cons O ?_ ?_
      ·intro mq hh o;intro dg bf;have aj:=o.st X;have bf:Pt _ _ AW dg ac.C:=bf;have dh:=bf.i;refine AU ?_;exact BR ⟨O,dh⟩
      refine AT.cons O ?_ ?_
      ·intro mq hh o;intro fk di fm dj;have aj:=o.st X;obtain⟨rfl,dk⟩:=di;obtain⟨rfl,dl⟩:=dj;refine AU ?_;refine CT (cs:=[vI ab.Al,vI 0,vI ac.C,vI 0]) VE O O O (AU ?_);exact BR ⟨O,dk,(iq (n:=0) O),dl,(iq (n:=0) O)⟩
      refine AT.cons O ?_ ?_
      ·intro mq hh o;intro fn dm;have aj:=SN.st X o;obtain⟨rfl,dn,dp,dq,dr⟩:=dm;have fe:=aj.fz;refine IB (cs:=[vI ab.Al,vI 0,vI ac.C,vI 0]) QH O O O O O O O fe λfo fp b0 fq=>?_;have b1:=b0.bxos (r:=AM) (l:=([(⟨ab.Al,0,ac.C,0⟩:AD)]:List AD)) .head ⟨_,_,O,⟨O,⟨dn,dp,dq,dr⟩⟩,O⟩ (by simp [maxLen]);obtain⟨fr,b2,fs,ds⟩:=b1.pubs .head;have bg:=Fz.done o EX b2;exact B7 bg.1 ⟨Sl.mono' ds bg.2,_,O⟩
      exact trivial
     intro ft dt fu du fv bh;have b3:=SN.st X dt;cases du;obtain⟨bh,ff,rfl⟩:=bh;obtain⟨b4,E⟩:=Qw E;refine Lt (r:=AM) (l:=av) (xs:=([(⟨ab.Al,0,ac.C,0⟩:AD)]:List AD)) O O QH O (Sl.src bh) O b4 O b3 (λ_=>(.tail (.tail (.tail (.tail (.tail .head)))))) λdv fw b5 fx=>AU ?_;refine WF.nil (λaa ww Q W=>?_);have b6:=b5.sel [5,0,0,0,0,0] 0 O;exact⟨dv,(av++([(⟨ab.Al,0,ac.C,0⟩:AD)]:List AD)),_,_,Q.sub (kp [5,0,1,8,7] O),W,b6,EX,E⟩
    refine AU ?_;refine WF.nil (λaa ww Q W=>?_);have b7:=X.sel [5,0,0,0,0,0] 0 O;exact⟨au,av,_,_,Q.sub (kp [5,0,1,8,7] O),W,b7,e4,E⟩
   rintro aa ww ⟨bp,bq,fy,f0,Q,W,b8,f1,E⟩;refine AI ?_ Q W;clear Q W ww aa;rw[GF] at E;refine AU ?_;refine WF.nil (λaa ww Q W=>?_);exact⟨bp,bq,(BV (ai+1)),_,_,Q.sub (kp [5,0,1,7,8] O),W,b8,EX,(BY _),E⟩
  refine WF.exit O (λaa ww Q W=>?_);exact⟨au,av,_,_,Q.sub (kp [0,1,7] O),W,br,cy,E⟩
 rintro aa ww ⟨v7,l8,bi,bj,Q,W,b9,f2,E⟩;refine AI ?_ Q W;clear Q W ww aa;rw[C9] at E;refine AU ?_;refine AN (λa w=>∃(ax:Value) (am:List AD),IV B bi bj (112,[]) a w [(0,vP j 0),(1,vI A),(7,ax)] (OS AM 204 ax am::Bx j 141 [.string p0_w.J.O,k,vI p0_w.J.T,q,s,t,u,x,y,z,vI p0_w.J.U,vI p0_w.L.H,b,c,d,g]::OS AC 51 b p0_w.L.G::OS BU 93 c p0_w.L.E::OS AJ 97 d p0_w.L.D::OS AC 51 g p0_w.Ai::L) λ_ _=>C8 N p0_w A am=some r) ?_ ?_
 ·refine BA (λn4=>λa w=>∃(ap:Value) (af:List AD) (M:Int),IV B bi bj (112,[]) a w [(0,vP j 0),(1,vI A),(7,ap),(9,vI M)] (OS AM 204 ap af::Bx j 141 [.string p0_w.J.O,k,vI p0_w.J.T,q,s,t,u,x,y,z,vI p0_w.J.U,vI p0_w.L.H,b,c,d,g]::OS AC 51 b p0_w.L.G::OS BU 93 c p0_w.L.E::OS AJ 97 d p0_w.L.D::OS AC 51 g p0_w.Ai::L) λ_ _=>AA M∧CB N p0_w A (C8 N p0_w A) n4 af M=some r) N ?_ ?_ ?_
  ·intro aa ww Q W;exact⟨v7,l8,0,_,_,Q.sub (kp [0,1,7,9] O),W,b9,(CX.refl bi bj),(iq (n:=0) O),E⟩
  ·rintro aa ww ⟨_,_,_,_,_,_,_,_,_,_,E⟩;rw[CB] at E;cases E
  rintro n4 aa ww ⟨ap,af,M,dw,dx,Q,W,bk,dy,bs,E⟩;refine AI ?_ Q W;clear Q W ww aa;rw[CB] at E;have f3:=ag.nw;refine AU ?_;refine AE O E (λdz E=>?_) (λdz E=>?_)
  ·refine AU ?_;refine AN (λa w=>∃(ay:Value) (az:List AD),IV B dw dx (112,[]) a w [(0,vP j 0),(1,vI A),(9,vI M),(7,ay)] (OS AM 204 ay az::Bx j 141 [.string p0_w.J.O,k,vI p0_w.J.T,q,s,t,u,x,y,z,vI p0_w.J.U,vI p0_w.L.H,b,c,d,g]::OS AC 51 b p0_w.L.G::OS BU 93 c p0_w.L.E::OS AJ 97 d p0_w.L.D::OS AC 51 g p0_w.Ai::L) λ_ _=>EZ N M (CB N p0_w A (C8 N p0_w A) n4) az=some r) ?_ ?_
   ·refine AU ?_;have d0:=ag.nw;refine AO E O O d0 sl_24.1 O λK E f4 d1=>?_;obtain⟨f5,_,d2⟩:=d1.lv;refine AU ?_;refine BZ NW O bk λf6 f7 ca d3=>?_;have d4:=d2.mono d3;obtain⟨f8,f9,ga,rfl,gb,gc,d5,d6,ge,gf,gg,gh,gi,gj,gk,gl,gm,gn,gp,gq,gr,bt⟩:=BL.ex d4;refine G1 O O O ON ty_102.1 O ca .head O λgs aw gu=>AU ?_;refine AE O E (λd7 E=>?_) (λd7 E=>?_)
    ·refine AU ?_;refine CT (cs:=[vI 0,vI M,vI K.C,vI K.Y]) VE O O O (AU ?_);refine IB (cs:=[vI 0,vI M,vI K.C,vI K.Y]) QH O O O O O O O aw λgv gw cb gx=>?_;obtain⟨cc,E⟩:=Qw E;refine LA (r:=AM) (l:=af) (xs:=([(⟨0,M,K.C,K.Y⟩:AD)]:List AD)) O O QH O mh ⟨_,_,O,⟨O,⟨(iq (n:=0) O),bs,d6,bt⟩⟩,O⟩ O O cc O cb (λ_=>(.tail (.tail .head))) λd8 gy cd gz=>?_;have ce:=cd.drop .head;refine AU ?_;refine WF.nil (λaa ww Q W=>?_);have cf:=ce.sel [1,1,1,1,1,1] 1 O;exact⟨d8,(af++([(⟨0,M,K.C,K.Y⟩:AD)]:List AD)),_,_,Q.sub (kp [0,1,9,7] O),W,cf,EX,E⟩
    refine AU ?_;refine AE O E (λd9 E=>?_) (λd9 E=>?_)
    ·refine AU ?_;refine CT (cs:=[vI 0,vI M,vI K.V,vI K.Y]) VE O O O (AU ?_);refine IB (cs:=[vI 0,vI M,vI K.V,vI K.Y]) QH O O O O O O O aw λg0 g1 cg g2=>?_;obtain⟨ch,E⟩:=Qw E;refine LA (r:=AM) (l:=af) (xs:=([(⟨0,M,K.V,K.Y⟩:AD)]:List AD)) O O QH O mh ⟨_,_,O,⟨O,⟨(iq (n:=0) O),bs,d5,bt⟩⟩,O⟩ O O ch O cg (λ_=>(.tail (.tail .head))) λea g3 ci g4=>?_;have cj:=ci.drop .head;refine AU ?_;refine WF.nil (λaa ww Q W=>?_);have ck:=cj.sel [1,1,1,1,1,1] 1 O;exact⟨ea,(af++([(⟨0,M,K.V,K.Y⟩:AD)]:List AD)),_,_,Q.sub (kp [0,1,9,7] O),W,ck,EX,E⟩
    refine AU ?_;refine WF.nil (λaa ww Q W=>?_);have cl:=aw.sel [1,1,1,1,1,1] 1 O;exact⟨ap,af,_,_,Q.sub (kp [0,1,9,7] O),W,cl,EX,E⟩
   rintro aa ww ⟨ay,az,g5,g6,Q,W,cm,g7,E⟩;refine AI ?_ Q W;clear Q W ww aa;rw[EZ] at E;refine AU ?_;refine WF.nil (λaa ww Q W=>?_);exact⟨ay,az,(BV (M+1)),_,_,Q.sub (kp [0,1,7,9] O),W,cm,EX,(BY _),E⟩
  refine WF.exit O (λaa ww Q W=>?_);exact⟨ap,af,_,_,Q.sub (kp [0,1,7] O),W,bk,dy,E⟩
 rintro aa ww ⟨ax,am,bu,g8,Q,W,cn,g9,E⟩;refine AI ?_ Q W;clear Q W ww aa;rw[C8] at E;refine AU ?_;have eb:=ak.nw;refine AO E O O eb sl_23.1 O λah E ha ec=>?_;obtain⟨hb,_,ed⟩:=ec.lv;refine AU ?_;refine BZ PH O cn λhc hd co ee=>?_;have ef:=ed.mono ee;obtain⟨he,hg,hi,rfl,hj,hk,hl,hm,hn,ho,hp,hq,eg,eh,hr,ht⟩:=B3.ex ef;refine G1 O O O ON ty_57.1 O co .head O λbv bl hu=>AU ?_;refine F2 (λa w=>∃(bm:Value) (bn:List AD),IV B bu bv (112,[]) a w [(7,bm)] (OS AM 204 bm bn::Bx j 141 [.string p0_w.J.O,k,vI p0_w.J.T,q,s,t,u,x,y,z,vI p0_w.J.U,vI p0_w.L.H,b,c,d,g]::OS AC 51 b p0_w.L.G::OS BU 93 c p0_w.L.E::OS AJ 97 d p0_w.L.D::OS AC 51 g p0_w.Ai::L) λ_ _=>GE N bn=some r) ?_ ?_
 ·refine AE O E (λei E=>?_) (λei E=>?_)
  ·refine AU ?_;refine CT (cs:=[vI 0,vI (-1),vI ah.Ao,vI ah.Y]) VE O O O (AU ?_);refine IB (cs:=[vI 0,vI (-1),vI ah.Ao,vI ah.Y]) QH O O O O O O O bl λhv hx cp hy=>?_;obtain⟨cq,E⟩:=Qw E;refine LA (r:=AM) (l:=am) (xs:=([(⟨0,(-1),ah.Ao,ah.Y⟩:AD)]:List AD)) O O QH O mh ⟨_,_,O,⟨O,⟨(iq (n:=0) O),(iq (n:=(-1)) O),eg,eh⟩⟩,O⟩ O O cq O cp (λ_=>(.tail (.tail .head))) λej hz cr h0=>?_;have ct:=cr.drop .head;refine AU ?_;refine WF.nil (λaa ww Q W=>?_);have cu:=ct.sel [1,1,1,1,1,1] 1 O;exact⟨ej,(am++([(⟨0,(-1),ah.Ao,ah.Y⟩:AD)]:List AD)),_,_,Q.sub (kp [7] O),W,cu,EX,E⟩
  refine AU ?_;refine WF.nil (λaa ww Q W=>?_);have cv:=bl.sel [1,1,1,1,1,1] 1 O;exact⟨ax,am,_,_,Q.sub (kp [7] O),W,cv,(CX.refl bu bv),E⟩
 rintro aa ww ⟨bm,bn,h1,h2,Q,W,cw,h4,E⟩;refine AI ?_ Q W;clear Q W ww aa;rw[GE] at E;refine AU ?_;cases E;exact Ma cw O O EX
def Ju (hs:St S L h) {g:Int}(I:AA g) {c:Int}(A:AA c) {b:Int}(C:AA b) {r:Int×Int×Bool}(E:Fl N g c b=some r):
 CA prog 178 #[vI g,vI c,vI b] S h (λv S' h'=>v= .tuple #[vI r.1,vI r.2.1,.bool r.2.2]∧AA r.1∧AA r.2.1∧St S' (L) h'):=by
 refine A8 61 func178 O ntmps178 O λB=>?_;rw[Fl] at E;refine AU ?_;refine AE O E (λc6 E=>?_) (λc6 E=>?_)
 ·refine AU ?_;refine WF.ret (λl m d i=>?_);cases E;exact Jw d O i (Hr (K5 d (v:=_) O) (Hr (K5 d (v:=_) O) (Hr (K5 d (v:=_) O) Jr))) O (CX.refl S h) ⟨O,(iq (n:=0) O),(iq (n:=0) O),hs⟩
 refine AU ?_;refine AN (λa w=>∃(J:Int) (K:Int),IV B S h (61,[]) a w [(9,vI J),(10,vI K)] (L) λ_ _=>AA J∧AA K∧FM N J K=some r) ?_ ?_
 ·refine BA (λM=>λa w=>∃(j:Int) (k:Int) (o:Int),IV B S h (61,[]) a w [(0,vI g),(1,vI c),(2,vI b),(9,vI j),(10,vI k),(11,vI o)] (L) λ_ _=>AA j∧AA k∧AA o∧Ce N g c b (FM N) M j k o=some r) N ?_ ?_ ?_
  ·intro l m d i;exact⟨0,0,1125899906842624,_,_,d.sub (kp [0,1,2,9,10,11] O),i,hs,(CX.refl S h),(iq (n:=0) O),(iq (n:=0) O),(iq (n:=1125899906842624) O),E⟩
  ·rintro l m ⟨_,_,_,_,_,_,_,_,_,_,_,_,E⟩;rw[Ce] at E;cases E
  rintro M l m ⟨j,k,o,y,z,d,i,p,Q,U,V,af,E⟩;refine AI ?_ d i;clear d i m l;rw[Ce] at E;refine AU ?_;refine AE O E (λW E=>?_) (λW E=>?_)
  ·refine AU ?_;refine BG (AU ?_);refine F2 (λa w=>∃(q:Int),IV B y z (61,[]) a w [(9,vI (BV (2*j))),(0,vI g),(1,vI c),(2,vI b),(11,vI o),(10,vI q)] (L) λ_ _=>AA q∧Gk N b j o (Ce N g c b (FM N) M) q=some r) ?_ ?_
   ·refine AE O E (λX E=>?_) (λX E=>?_)
    ·refine AU ?_;refine WF.nil (λl m d i=>?_);exact⟨(BV ((BV (2*k))+g)),_,_,d.sub (kp [9,0,1,2,11,10] O),i,p,(CX.refl y z),(BY _),E⟩
    refine AU ?_;refine WF.nil (λl m d i=>?_);exact⟨(BV (2*k)),_,_,d.sub (kp [9,0,1,2,11,10] O),i,p,(CX.refl y z),(BY _),E⟩
   rintro l m ⟨q,ag,ah,d,i,s,ai,Y,E⟩;refine AI ?_ d i;clear d i m l;rw[Gk] at E;refine AU ?_;obtain⟨D,t,E⟩:=bd E;have aj:IntKind.has .i64 D:=NY t;refine SG O O O t (AU ?_);obtain⟨F,u,E⟩:=bd E;have Z:IntKind.has .i64 F:=WH (VR.2 Y) u;refine Yq O O O u (AU ?_);refine AE O E (λab E=>?_) (λab E=>?_)
   ·refine AU ?_;refine WF.ret (λl m d i=>?_);cases E;exact Jw d O i (Hr (K5 d (v:=_) O) (Hr (K5 d (v:=_) O) (Hr (K5 d (v:=_) O) Jr))) O EX ⟨O,(iq (n:=0) O),(iq (n:=0) O),s⟩
   refine AU ?_;refine BP (AU ?_);obtain⟨G,x,E⟩:=bd E;have ac:IntKind.has .i64 G:=NY x;refine SG O O O x (AU ?_);refine WF.nil (λl m d i=>?_);exact⟨(BV ((BV (2*j))+D)),F,G,_,_,d.sub (kp [0,1,2,9,10,11] O),i,s,EX,(BY _),(VR.1 Z),(VR.1 ac),E⟩
  refine WF.exit O (λl m d i=>?_);exact⟨j,k,_,_,d.sub (kp [9,10] O),i,p,Q,U,V,E⟩
 rintro l m ⟨J,K,ak,al,d,i,H,ad,r8,ae,E⟩;refine AI ?_ d i;clear d i m l;rw[FM] at E;refine AU ?_;refine WF.ret (λl m d i=>?_);cases E;exact Jw d O i (Hr (K5 d (v:=_) O) (Hr (K5 d (v:=_) O) (Hr (K5 d (v:=_) O) Jr))) O ad ⟨O,r8,ae,H⟩
def MY (W:St S L h) {d:Value}{j:EW}(m:Rd S h B3 d j) {q:Int}(t:AA q) {b:Int}(k:AA b) {r:Int×Int}(E:IH N j q b=some r):
 CA prog 162 #[d,vI q,vI b] S h (λv X h'=>v= .tuple #[vI r.1,vI r.2]∧AA r.1∧AA r.2∧St X (L) h'):=by
 refine A8 51 func162 O ntmps162 O λB=>?_;rw[IH] at E;refine AU ?_;refine A6 O m CE O W λY F h3 G e5 D=>AU ?_;refine WF.rc (.inl O) G ?_;have Z:=D.fl EW.f_Num;have r9:=Z.i;have H:=D.fl EW.f_Den;have I:=H.i;refine AU ?_;obtain⟨g,C,E⟩:=bd E;refine IQ (v:= .tuple #[vI g.1,vI g.2.1,.bool g.2.2]) (Ψ:=AA g.1∧AA g.2.1) O O O Va O (λh' o=>(Ju (St.all h') t r9 I C).mono λ_ _ _ _ p=>⟨p.1,⟨p.2.1,p.2.2.1⟩⟩) λJ=>?_;obtain⟨K,ab⟩:=J;refine AU ?_;refine BB (kp [10,9,8,3,2] O) λy s M=>AU ?_;refine AE O E (λQ E=>?_) (λQ E=>?_)
 ·refine AU ?_;refine WF.ret (λz A c l=>?_);cases E;exact Jw c O l (Hr (K5 c (v:=_) O) (Hr (K5 c (v:=_) O) Jr)) O EX ⟨O,(iq (n:=0) O),(iq (n:=0) O),s⟩
 have ac:=D.mono M;refine AU ?_;refine F2 (λa w=>∃(u:Int),IV B F y (51,[]) a w [(9,vI g.2.1),(8,vI g.1),(3,Y),(11,vI u)] (L) λ_ _=>AA u∧JP N j g u=some r) ?_ ?_
 ·refine AE O E (λU E=>?_) (λU E=>?_)
  ·refine AU ?_;refine WF.nil (λz A c l=>?_);exact⟨0,_,_,c.sub (kp [9,8,3,11] O),l,s,(CX.refl F y),(iq (n:=0) O),E⟩
  refine AU ?_;refine WF.nil (λz A c l=>?_);exact⟨b,_,_,c.sub (kp [9,8,3,11] O),l,s,(CX.refl F y),k,E⟩
 rintro z A ⟨u,ad,ae,c,l,x,af,ag,E⟩;refine AI ?_ c l;clear c l A z;rw[JP] at E;have ah:=D.nw;refine AU ?_;refine AE O E (λV E=>?_) (λV E=>?_)
 ·refine AU ?_;refine WF.ret (λz A c l=>?_);cases E;exact Jw c O l (Hr (K5 c (v:=_) O) (Hr (K5 c (v:=_) O) Jr)) O EX ⟨O,K,(BY _),x⟩
 refine AU ?_;refine JL (.inr ⟨mo,by kernel_rfl⟩) (AU ?_);refine WF.ret (λz A c l=>?_);cases E;exact Jw c O l (Hr (K5 c (v:=_) O) (Hr (K5 c (v:=_) O) Jr)) O EX ⟨O,(BY _),(BY _),x⟩
end Go.Proofs.YtibidnaedddfdaaGreat
