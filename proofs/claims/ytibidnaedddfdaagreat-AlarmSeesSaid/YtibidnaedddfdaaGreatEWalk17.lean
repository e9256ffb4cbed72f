import Derived.Test.YtibidnaedddfdaaGreatEFacts
import Derived.Test.YtibidnaedddfdaaGreatEForms
import Derived.Test.YtibidnaedddfdaaGreatEInsert
import Derived.Test.YtibidnaedddfdaaGreatEWalk16
namespace Go.Proofs.YtibidnaedddfdaaGreat
set_option linter.all false
open Go.RowKit
open Go.Proofs.Tryz
set_option maxRecDepth 10000
set_option maxHeartbeats 2000000
variable {N:Nat}{S:Nat→Prop}{L:List HP}{h:AX}
def OF (m:St S L h) {a:Value}{g:AO}(c:Rd S h BI a g) {b:Value}{i:AB}(d:Rd S h AC b i) {r:Bool}(E:Jp N g i=some r):
 CD prog 159 #[a,b] S h (λv S' h'=>v= .bool r∧St S' (L) h'):=by
 refine A7 22 func159 O ntmps159 O λB=>?_;rw[Jp] at E;refine AU ?_;refine AT O c CE O m λu w x j n o=>?_;have p:=d.mono n;refine AT O p CE O j λy z q l k s=>?_;have t:=o.mono k;refine AU ?_;refine Ku O O O (AU ?_);exact Ka O O O (RT)
def Om (hs:St S L h) {x:Value}{d:AO}(J:Rd S h BI x d) {y:Value}{b:AH}(K:Rd S h AM y b) {z:Value}{g:AB}(M:Rd S h AC z g) {r:AH}(E:H0 N d b g=some r):
 CD prog 130 #[x,y,z] S h (λv S' h'=>v= .agg #[vI r.U.B,vI r.U.A,vI r.W,vI r.R.B,vI r.R.A]∧AH.ok r∧St S' (L) h'):=by
 refine A7 103 func130 O ntmps130 O λB=>?_;rw[H0] at E;refine WF.sl (AT O J CE O hs λq1 S2 h3 bb e5 k6=>?_);have k7:=K.mono e5;obtain⟨rfl,⟨r9,ab,ac,aj,ak⟩⟩:=AM.ex k7;refine NF O O O bb λQ b6 am b7=>?_;have bc:=M.nw;refine AT O bc CE O am λb8 an b9 ao ca ap=>BZ Tw O ao λV cb c aq=>HA (kp [6,5,4,3] O) (ET (Lo ?_));have u:=k6.nw;refine Lb O u AO.f_Kind fa_102_1.1 O λcc be=>GS KP c.1 O be ty_3.1 O λcd=>eS O (C9 O (A6 6 21 (.bool ((decide (d.F≠3))||(decide (g.A<g.B)))) ?_ ?_))
 ·cases ce:(decide (d.F≠3))
  ·refine EC O ?_;have ar:=ap.mono aq;exact Lb O ar AB.f_Lo fa_51_0.1 O λcf bf=>EC O (GS KP c.1 O bf ty_3.1 O λcg=>EC O (Lb O ar AB.f_Hi fa_51_1.1 O λch bg=>EC O (GS KP c.1 O bg ty_3.1 O λci=>EC O (YG O (Ht O (A5 O))))))
  exact BO O O
 refine Jb (kp [21,6,5,4,3] O) (AE O E (λbh E=>?_) (λbh E=>?_))
 ·refine WF.sl (G3 1 (Mb (vs:=[vI b.U.B,vI b.U.A,vI b.W,vI b.R.B,vI b.R.A]) KP c O (mt mh) O O ty_97.1 O O (Dk ?_)));refine AW O O O O ty_97.1 O c .head O λcj au ck=>HA (kp [6] O) (WF.ret (λH I j k=>?_));have Y:=au.drop (.tail .head);have av:=Y.drop .head;cases E;exact IS j O k (GB (K5 j k Y O mh ty_97.1 O) ID) O EX ⟨O,⟨r9,ab,ac,aj,ak⟩,av⟩
 refine Kd (Lo (HJ O fa_97_2.1 O (HJ O fa_51_0.1 O (Kb KP c O (mt mh) O ty_3.1 O (U6 O (C9 O (A6 5 32 (.bool ((decide (b.R.B≤0))&&(decide (0≤b.R.A)))) ?_ ?_)))))))
 ·cases cl:(decide (b.R.B≤0))
  ·exact BO O O
  exact EC O (HJ O fa_97_2.1 O (EC O (HJ O fa_51_1.1 O (EC O (Kb KP c O (mt mh) O ty_3.1 O (EC O (RI O (Ht O (A5 O)))))))))
 refine Md O (kp [7,6,5,4,3] O) (Lo (HJ O fa_97_2.1 O (HJ O fa_51_0.1 O (Kb KP c O (mt mh) O ty_3.1 O (U6 O (C9 O (A6 5 42 (.bool ((decide (b.R.B≤1))&&(decide (1≤b.R.A)))) ?_ ?_)))))))
 ·cases cm:(decide (b.R.B≤1))
  ·exact BO O O
  exact EC O (HJ O fa_97_2.1 O (EC O (HJ O fa_51_1.1 O (EC O (Kb KP c O (mt mh) O ty_3.1 O (EC O (RI O (Ht O (A5 O)))))))))
 refine Md O (kp [8,7,6,5,4,3] O) (ET (Lo (C9 O (Mr O (C9 O (A6 3 48 (.bool ((!((decide (b.R.B≤0))&&(decide (0≤b.R.A))))&&(!((decide (b.R.B≤1))&&(decide (1≤b.R.A)))))) ?_ ?_))))))
 ·cases cn:(!((decide (b.R.B≤0))&&(decide (0≤b.R.A))))
  ·exact BO O O
  exact EC O (C9 O (EC O (Mr O (Ht O (A5 O)))))
 refine Jb (kp [48,8,7,6,5,4,3] O) (AE O E (λbi E=>?_) (λbi E=>?_))
 ·refine WF.sl (G3 1 (Mb (vs:=[vI b.U.B,vI b.U.A,vI b.W,vI b.R.B,vI b.R.A]) KP c O (mt mh) O O ty_97.1 O O (Dk ?_)));refine AW O O O O ty_97.1 O c .head O λco aw cp=>HA (kp [6] O) (WF.ret (λH I j k=>?_));have Z:=aw.drop (.tail .head);have ax:=Z.drop .head;cases E;exact IS j O k (GB (K5 j k Z O mh ty_97.1 O) ID) O EX ⟨O,⟨r9,ab,ac,aj,ak⟩,ax⟩
 refine Kd (Lo ?_);have X:=ap.mono aq;refine Lb O X AB.f_Hi fa_51_1.1 O λcq bj=>GS KP c.1 O bj ty_3.1 O λcr=>Lb O u LI fa_102_12.1 O λct bk=>GS KP c.1 O bk ty_3.1 O λcu=>RI O (Md O (kp [9,8,7,6,5,4,3] O) (Lo (Lb O X AB.f_Lo fa_51_0.1 O λcv bl=>GS KP c.1 O bl ty_3.1 O λcw=>Lb O u Jz fa_102_13.1 O λcx bm=>GS KP c.1 O bm ty_3.1 O λcy=>U6 O (C9 O (A6 6 66 (.bool ((decide (g.B≤d.Aa))&&(decide (g.B<d.Ae)))) ?_ ?_)))))
 ·cases cz:(decide (g.B≤d.Aa))
  ·exact BO O O
  exact EC O (Lb O X AB.f_Lo fa_51_0.1 O λc0 bn=>EC O (GS KP c.1 O bn ty_3.1 O λc1=>EC O (Lb O u LI fa_102_12.1 O λc2 bo=>EC O (GS KP c.1 O bo ty_3.1 O λc3=>EC O (RH O (Ht O (A5 O)))))))
 refine Md O (kp [10,9,8,7,6,5,4,3] O) (ET (WF.rc (.inl O) c (Lb O u LI fa_102_12.1 O λc4 bp=>GS SO c.1 O bp ty_3.1 O λc5=>Lb O u Jz fa_102_13.1 O λc6 bq=>GS SO c.1 O bq ty_3.1 O λc7=>YG O (C9 O ?_))));obtain⟨l,i,E⟩:=bd E;refine A6 4 76 (.bool l) ?_ ?_
 ·cases ay:(decide (d.Aa<d.Ae))
  ·have i:=H8 ay i;cases i;exact BO O O
  have i:=H7 ay i;refine EC O (Il SO c.1 O u ty_102.1 CE O λc8 br=>EC O (Il SO c.1 O X ty_51.1 CE O λc9 bs=>EC O ?_));refine BC i O O O kZ O (λbt az h' o=>OF (St.all h') (br.mono (o.all c.1)) (bs.mono (o.all c.1)) az) λbt i=>Ht O ?_;cases i;exact A5 O
 refine Tb O (BD (kp [11,10,9,8,7,6,4] O) λa0 C da=>Lo (C9 O (C9 O (A6 5 83 (.bool ((decide (d.Ae≤g.A))||(l&&((decide (b.R.B≤1))&&(decide (1≤b.R.A)))))) ?_ ?_))))
 ·cases db:(decide (d.Ae≤g.A))
  ·refine EC O (C9 O (EC O (C9 O (A6 2 82 (.bool (l&&((decide (b.R.B≤1))&&(decide (1≤b.R.A))))) ?_ ?_))))
   ·cases dc:l
    ·exact BO O O
    exact EC O (C9 O (EC O (Ht O (A5 O))))
   exact Ht O (A5 O)
  exact BO O O
 refine Md O (kp [9,11,10,7,6,4] O) (Lo (C9 O (C9 O (A6 5 90 (.bool (((decide (g.B≤d.Aa))&&(decide (g.B<d.Ae)))||(l&&((decide (b.R.B≤0))&&(decide (0≤b.R.A)))))) ?_ ?_))))
 ·cases dd:((decide (g.B≤d.Aa))&&(decide (g.B<d.Ae)))
  ·refine EC O (C9 O (EC O (C9 O (A6 2 89 (.bool (l&&((decide (b.R.B≤0))&&(decide (0≤b.R.A))))) ?_ ?_))))
   ·cases de:l
    ·exact BO O O
    exact EC O (C9 O (EC O (Ht O (A5 O))))
   exact Ht O (A5 O)
  exact BO O O
 refine Md O (kp [10,9,6,4] O) (ET (Lo (C9 O (C9 O (A6 2 94 (.bool (((decide (d.Ae≤g.A))||(l&&((decide (b.R.B≤1))&&(decide (1≤b.R.A)))))&&(((decide (g.B≤d.Aa))&&(decide (g.B<d.Ae)))||(l&&((decide (b.R.B≤0))&&(decide (0≤b.R.A))))))) ?_ ?_)))))
 ·cases bu:((decide (d.Ae≤g.A))||(l&&((decide (b.R.B≤1))&&(decide (1≤b.R.A)))))
  ·exact BO O O
  exact EC O (C9 O (Ht O (A5 O)))
 refine Jb (kp [94,9,6,4] O) (Er (λa w=>∃(m:Int) (p:Int),IV B an a0 (103,[]) a w [(6,vP V 0),(4,vP Q 0)] (Bx V 97 [vI 0,vI 0,vI 0,vI 0,vI 0]::Bx Q 97 [vI b.U.B,vI b.U.A,vI b.W,vI m,vI p]::L) λ_ _=>AA m∧AA p∧FL N b m p=some r) ?_ ?_)
 ·refine AE O E (λa1 E=>?_) (λa1 E=>?_)
  ·refine Ej (G3 2 (B6 (cs:=[vI 0,vI 1]) Fv O O O (HJ O fa_97_2.1 O (Dk ?_))));refine Ic (cs':=[vI b.U.B,vI b.U.A,vI b.W,vI 0,vI 1]) O O O O ty_51.1 O C (.tail .head) O O λbv ad a2=>HA (kp [6,4] O) (WF.nil (λH I j k=>?_));exact⟨0,1,_,_,j.sub (kp [6,4] O),k,ad,a2,(iq (n:=0) O),(iq (n:=1) O),E⟩
  refine Lo (C9 O (Jb (kp [97,6,4] O) (Er (λa w=>∃(s:Int) (t:Int),IV B an a0 (103,[]) a w [(6,vP V 0),(4,vP Q 0)] (Bx V 97 [vI 0,vI 0,vI 0,vI 0,vI 0]::Bx Q 97 [vI b.U.B,vI b.U.A,vI b.W,vI s,vI t]::L) λ_ _=>AA s∧AA t∧Ho N (FL N b) s t=some r) ?_ ?_)))
  ·refine AE O E (λa3 E=>?_) (λa3 E=>?_)
   ·refine Ej (G3 2 (B6 (cs:=[vI 1,vI 1]) Fv O O O (HJ O fa_97_2.1 O (Dk ?_))));refine Ic (cs':=[vI b.U.B,vI b.U.A,vI b.W,vI 1,vI 1]) O O O O ty_51.1 O C (.tail .head) O O λbw ae a4=>HA (kp [6,4] O) (WF.nil (λH I j k=>?_));exact⟨1,1,_,_,j.sub (kp [6,4] O),k,ae,a4,(iq (n:=1) O),(iq (n:=1) O),E⟩
   refine Ej (G3 2 (B6 (cs:=[vI 0,vI 0]) Fv O O O (HJ O fa_97_2.1 O (Dk ?_))));refine Ic (cs':=[vI b.U.B,vI b.U.A,vI b.W,vI 0,vI 0]) O O O O ty_51.1 O C (.tail .head) O O λbx af a5=>HA (kp [6,4] O) (WF.nil (λH I j k=>?_));exact⟨0,0,_,_,j.sub (kp [6,4] O),k,af,a5,(iq (n:=0) O),(iq (n:=0) O),E⟩
  rintro H I ⟨s,t,bz,b0,j,k,ag,a6,a7,a8,E⟩;refine AI ?_ j k;clear j k I H;rw[Ho] at E;refine WF.nil (λH I j k=>?_);exact⟨s,t,_,_,j.sub (kp [6,4] O),k,ag,a6,a7,a8,E⟩
 rintro H I ⟨m,p,b1,b2,j,k,D,b3,a9,ba,E⟩;refine AI ?_ j k;clear j k I H;rw[FL] at E;refine WF.sl (G3 1 (Mb (vs:=[vI b.U.B,vI b.U.A,vI b.W,vI m,vI p]) KP D O (mt mh) O O ty_97.1 O O (Dk ?_)));refine AW O O O O ty_97.1 O D .head O λb4 ah b5=>HA (kp [6] O) (WF.ret (λH I j k=>?_));have G:=ah.drop (.tail .head);have ai:=G.drop .head;cases E;exact IS j O k (GB (K5 j k G O mh ty_97.1 O) ID) O EX ⟨O,⟨r9,ab,ac,a9,ba⟩,ai⟩
def M8 {g:Nat}{p0_w:AJ}{j:Value}{k:Value}{q:Value}{s:Value}{t:Value}{u:Value}{y:Value}{z:Value}{c:Value}{F:Value}{d:Value}{ai:Value}(hs:St S (Bx g 141 [.string p0_w.G.M,j,vI p0_w.G.S,k,q,s,t,u,y,z,vI p0_w.G.T,vI p0_w.J.I,c,F,d,ai]::OS AC 51 c p0_w.J.K::OS AM 97 d p0_w.J.D::OS AC 51 ai p0_w.Aj::L) h) (dm:p0_w.G.M.size≤maxLen) (dn:Sl S h BU.str j p0_w.G.Aq) (dp:AA p0_w.G.S) (bf:Sl S h B4 k p0_w.G.E) (ax:Sl S h BI q p0_w.G.D) (dq:Sl S h Dn s p0_w.G.Ad) (dr:Sl S h De t p0_w.G.Ab) (ds:Sl S h GQ u p0_w.G.Ar) (dt:Sl S h DB y p0_w.G.At) (du:Sl S h AY z p0_w.G.As) (ca:AA p0_w.G.T) (cb:AA p0_w.J.I) (Z:Sl S h BS F p0_w.J.N) {Q:Value}{V:(List AB)}(ab:Sl S h AC Q V) {r:(List AZ)×(List AH)×(List AB)}(E:Ff N p0_w V=some r):
 CD prog 79 #[vP g 0,Q] S h (λv S' h'=>∃a5 a6 a7:Value,v= .tuple #[]∧St S' (Bx g 141 [.string p0_w.G.M,j,vI p0_w.G.S,k,q,s,t,u,y,z,vI p0_w.G.T,vI p0_w.J.I,c,a5,a6,a7]::OS AC 51 c p0_w.J.K::OS BS 93 a5 r.1::OS AM 97 a6 r.2.1::OS AC 51 a7 r.2.2::L) h'):=by
 refine A7 193 func79 O ntmps79 O λB=>?_;rw[Ff] at E;refine AU ?_;refine AQ (λa w=>∃(v1:Value) (l2:List AB),IV B S h (193,[]) a w [(0,vP g 0)] (OS AC 51 v1 l2::Bx g 141 [.string p0_w.G.M,j,vI p0_w.G.S,k,q,s,t,u,y,z,vI p0_w.G.T,vI p0_w.J.I,c,F,d,v1]::OS AC 51 c p0_w.J.K::OS AM 97 d p0_w.J.D::L) λ_ _=>BH N p0_w l2=some r) ?_ ?_
 ·refine BJ (λn1=>λa w=>∃(i7:Int) (v9:Value) (ag:List AB),IV B S h (193,[]) a w [(0,vP g 0),(1,Q),(4,vI i7)] (OS AC 51 v9 ag::Bx g 141 [.string p0_w.G.M,j,vI p0_w.G.S,k,q,s,t,u,y,z,vI p0_w.G.T,vI p0_w.J.I,c,F,d,v9]::OS AC 51 c p0_w.J.K::OS AM 97 d p0_w.J.D::L) λ_ _=>AA i7∧BA N p0_w V (BH N p0_w) n1 i7 ag=some r) N ?_ ?_ ?_
  ·intro X Y H U;have dv:=hs.sel [3,0,0,0] 0 O;exact⟨0,ai,p0_w.Aj,_,_,H.sub (kp [0,1,4] O),U,dv,(Cc.refl S h),(iq (n:=0) O),E⟩
  ·rintro X Y ⟨_,_,_,_,_,_,_,_,_,_,E⟩;rw[BA] at E;cases E
  rintro n1 X Y ⟨i7,v9,ag,b0,kf,H,U,a8,dw,r8,E⟩;refine AI ?_ H U;clear H U Y X;rw[BA] at E;have kg:=bf.mono' dw;refine AU ?_;refine AE O E (λgs E=>?_) (λgs E=>?_)
  ·refine AU ?_;refine BQ (AU ?_);obtain⟨kh,dx,E⟩:=bd E;refine CS a8 (mt (mt mh)) O O sl_32.1 dx O λki dy=>?_;obtain⟨bg,dz,E⟩:=bd E;have gu:=a8.epAt (mt (mt mh)) dz GC.id dy;refine Il KP (λ_ x=>x) O gu ty_51.1 CE O λkj gv=>AU ?_;refine BZ EA O a8 λam kk d0 gw=>?_;have gx:=gv.mono gw;obtain⟨rfl,⟨cc,cd⟩⟩:=AC.ex gx;refine AW O O O O ty_51.1 O d0 .head O λb1 a9 kl=>?_;have km:=ab.nw;refine AU ?_;refine Er (λa w=>∃(bh:Int) (bi:Int),IV B b0 b1 (193,[]) a w [(5,vP am 0),(0,vP g 0),(1,Q),(4,vI i7)] (Bx am 51 [vI bh,vI bi]::OS AC 51 v9 ag::Bx g 141 [.string p0_w.G.M,j,vI p0_w.G.S,k,q,s,t,u,y,z,vI p0_w.G.T,vI p0_w.J.I,c,F,d,v9]::OS AC 51 c p0_w.J.K::OS AM 97 d p0_w.J.D::L) λ_ _=>AA bh∧AA bi∧DM N p0_w i7 ag (BA N p0_w V (BH N p0_w) n1) bh bi=some r) ?_ ?_
   ·refine AE O E (λgy E=>?_) (λgy E=>?_)
    ·refine AU ?_;refine Ix (.inr ⟨mo,by kernel_rfl⟩) (AU ?_);have gz:=ab.nw;refine AN E O O gz sl_32.1 O λg0 E kn ko=>AU ?_;obtain⟨g1,ah,E⟩:=bd E;refine A6 12 52 (.bool g1) ?_ ?_
     ·cases d1:(decide (0≤g0.B))
      ·have ah:=H8 d1 ah;cases ah;exact BO O O
      have ah:=H7 d1 ah;refine AU ?_;have g2:=ab.nw;refine AN ah O O g2 sl_32.1 O λkq ah kr ks=>AU ?_;have g3:=ab.nw;refine AN ah O O g3 sl_32.1 O λkt ah ku kv=>AU ?_;cases ah;exact A5 O
     refine AU ?_;refine Er (λa w=>∃(bj:Int) (bk:Int),IV B b0 b1 (193,[]) a w [(5,vP am 0),(0,vP g 0),(1,Q),(4,vI i7)] (Bx am 51 [vI bj,vI bk]::OS AC 51 v9 ag::Bx g 141 [.string p0_w.G.M,j,vI p0_w.G.S,k,q,s,t,u,y,z,vI p0_w.G.T,vI p0_w.J.I,c,F,d,v9]::OS AC 51 c p0_w.J.K::OS AM 97 d p0_w.J.D::L) λ_ _=>AA bj∧AA bk∧F2 N (DM N p0_w i7 ag (BA N p0_w V (BH N p0_w) n1)) bj bk=some r) ?_ ?_
     ·refine AE O E (λg4 E=>?_) (λg4 E=>?_)
      ·refine Gs 6 mo (by kernel_rfl) O a9 (AU ?_);have g5:=ab.nw;refine AN E O O g5 sl_32.1 O λkw E kx g6=>?_;obtain⟨ky,_,g7⟩:=g6.lv;refine AU ?_;obtain⟨d2,d3,E⟩:=bd E;refine In O O O Wn O (λh' o=>K6 (St.all h') (AC.mk (x:=bg) ⟨cc,cd⟩) (g7.mono (o.all a9.1)) d3) λg8=>?_;obtain⟨g9,ha⟩:=g8;refine Em λkz d4 k0=>?_;refine AW O O O O ty_51.1 O d4 .head O λk1 d5 k2=>AU ?_;refine WF.nil (λX Y H U=>?_);exact⟨d2.B,d2.A,_,_,H.sub (kp [5,0,1,4] O),U,d5,EX,g9,ha,E⟩
      refine AU ?_;refine WF.nil (λX Y H U=>?_);exact⟨bg.B,bg.A,_,_,H.sub (kp [5,0,1,4] O),U,a9,(Cc.refl b0 b1),cc,cd,E⟩
     rintro X Y ⟨bj,bk,k3,k4,H,U,d6,hc,hd,he,E⟩;refine AI ?_ H U;clear H U Y X;rw[F2] at E;refine WF.nil (λX Y H U=>?_);exact⟨bj,bk,_,_,H.sub (kp [5,0,1,4] O),U,d6,hc,hd,he,E⟩
    refine AU ?_;refine WF.nil (λX Y H U=>?_);exact⟨bg.B,bg.A,_,_,H.sub (kp [5,0,1,4] O),U,a9,(Cc.refl b0 b1),cc,cd,E⟩
   rintro X Y ⟨bh,bi,ce,cf,H,U,d7,k5,hg,hi,E⟩;refine AI ?_ H U;clear H U Y X;rw[DM] at E;refine AU ?_;refine AQ (λa w=>∃(an:Int) (ao:Int),IV B ce cf (193,[]) a w [(5,vP am 0),(0,vP g 0),(1,Q),(4,vI i7)] (Bx am 51 [vI an,vI ao]::OS AC 51 v9 ag::Bx g 141 [.string p0_w.G.M,j,vI p0_w.G.S,k,q,s,t,u,y,z,vI p0_w.G.T,vI p0_w.J.I,c,F,d,v9]::OS AC 51 c p0_w.J.K::OS AM 97 d p0_w.J.D::L) λ_ _=>AA an∧AA ao∧C2 N i7 ag (BA N p0_w V (BH N p0_w) n1) an ao=some r) ?_ ?_
   ·refine BJ (λn5=>λa w=>∃(ap:Int) (aq:Int) (ar:Int),IV B ce cf (193,[]) a w [(5,vP am 0),(0,vP g 0),(1,Q),(4,vI i7),(6,vI ap)] (Bx am 51 [vI aq,vI ar]::OS AC 51 v9 ag::Bx g 141 [.string p0_w.G.M,j,vI p0_w.G.S,k,q,s,t,u,y,z,vI p0_w.G.T,vI p0_w.J.I,c,F,d,v9]::OS AC 51 c p0_w.J.K::OS AM 97 d p0_w.J.D::L) λ_ _=>AA ap∧AA aq∧AA ar∧CO N p0_w i7 (C2 N i7 ag (BA N p0_w V (BH N p0_w) n1)) n5 ap aq ar=some r) N ?_ ?_ ?_
    ·intro X Y H U;exact⟨0,bh,bi,_,_,H.sub (kp [5,0,1,4,6] O),U,d7,(Cc.refl ce cf),(iq (n:=0) O),hg,hi,E⟩
    ·rintro X Y ⟨_,_,_,_,_,_,_,_,_,_,_,_,E⟩;rw[CO] at E;cases E
    rintro n5 X Y ⟨ap,aq,ar,d8,d9,H,U,bl,ea,ho,bm,bn,E⟩;refine AI ?_ H U;clear H U Y X;rw[CO] at E;have hp:=Z.nw;refine AU ?_;refine AE O E (λeb E=>?_) (λeb E=>?_)
    ·refine AU ?_;refine AQ (λa w=>∃(a1:Int) (a2:Int),IV B d8 d9 (193,[]) a w [(5,vP am 0),(0,vP g 0),(1,Q),(4,vI i7),(6,vI ap)] (Bx am 51 [vI a1,vI a2]::OS AC 51 v9 ag::Bx g 141 [.string p0_w.G.M,j,vI p0_w.G.S,k,q,s,t,u,y,z,vI p0_w.G.T,vI p0_w.J.I,c,F,d,v9]::OS AC 51 c p0_w.J.K::OS AM 97 d p0_w.J.D::L) λ_ _=>AA a1∧AA a2∧Fy N ap (CO N p0_w i7 (C2 N i7 ag (BA N p0_w V (BH N p0_w) n1)) n5) a1 a2=some r) ?_ ?_
     ·refine AU ?_;have ec:=Z.nw;refine AN E O O ec sl_33.1 O λed E hq ee=>?_;obtain⟨hr,_,ef⟩:=ee.lv;refine AU ?_;refine BZ W4 O bl λht hu cg eg=>?_;have eh:=ef.mono eg;obtain⟨rfl,⟨hv,hx,ei,ej⟩⟩:=BS.ex eh;refine AW O O O O ty_93.1 O cg .head O λhy bo hz=>AU ?_;refine Ix (.inr ⟨mo,by kernel_rfl⟩) (AU ?_);refine AE O E (λek E=>?_) (λek E=>?_)
      ·refine Ej (AU ?_);obtain⟨b3,ch,E⟩:=bd E;refine EQ O O O Wn O bo (K6 (St.all _) (AC.mk (x:=(⟨aq,ar⟩:AB)) ⟨bm,bn⟩) (AC.mk (x:=ed.K) ⟨ei,ej⟩) ch) λh0 h1 h2 ci h3 h4 p=>?_;obtain⟨rfl,⟨el,em⟩,hj⟩:=p;refine AW O O O O ty_51.1 O ci (.tail .head) O λh5 cj h6=>AU ?_;refine WF.nil (λX Y H U=>?_);have ck:=cj.sel [1,1,1,1,1] 1 O;exact⟨b3.B,b3.A,_,_,H.sub (kp [5,0,1,4,6] O),U,ck,EX,el,em,E⟩
      refine AU ?_;refine WF.nil (λX Y H U=>?_);have cl:=bo.sel [1,1,1,1,1] 1 O;exact⟨aq,ar,_,_,H.sub (kp [5,0,1,4,6] O),U,cl,EX,bm,bn,E⟩
     rintro X Y ⟨a1,a2,h7,h8,H,U,cm,h9,en,eo,E⟩;refine AI ?_ H U;clear H U Y X;rw[Fy] at E;refine AU ?_;refine WF.nil (λX Y H U=>?_);exact⟨(BR (ap+1)),a1,a2,_,_,H.sub (kp [5,0,1,4,6] O),U,cm,EX,(B1 _),en,eo,E⟩
    refine WF.exit O (λX Y H U=>?_);exact⟨aq,ar,_,_,H.sub (kp [5,0,1,4] O),U,bl,ea,bm,bn,E⟩
   rintro X Y ⟨an,ao,ep,eq,H,U,a0,ia,er,es,E⟩;refine AI ?_ H U;clear H U Y X;rw[C2] at E;obtain⟨ac,cn,E⟩:=bd E;refine TX (m:=[(5,vP am 0),(0,vP g 0),(1,Q),(4,vI i7)]) 8 [0] (λi v hh=>match i with|0=>v=vP g 0|1=>v=vP g 0|2=>v=vP g 0|3=>v=vP g 15|4=>v=v9|5=>v= .agg #[vI an,vI ao]∧AA an∧AA ao|6=>v= .agg #[vI ac.B,vI ac.A]∧AA ac.B∧AA ac.A|7=>Sl (SN ep eq hh) hh AC v ([ac]:List AB)∧∃ad,v= .slice (some ad) 1 1|_=>False) [[],[],[(1,96)],[(2,97)],[(3,98)],[],[(5,100)],[(6,101)]] [(0,95),(4,99),(7,102)] mo (by kernel_rfl) [5,0,1,4] O (by kernel_rfl) (by kernel_rfl) (by kernel_rfl) (kp [5,0,1,4] O) MO ?_ ?_ ?_
   ·refine Rv.cons [] (by kernel_rfl) O O (by kernel_rfl) ?_ ?_
    ·intro mq hh o;intro a H;exact⟨vP g 0,Kx H O,O⟩
    exact trivial
   ·refine BM.cons O EY (BM.cons O EY (BM.cons O EY (BM.cons O EY (BM.cons O EY (BM.cons O ?_ ?_)))))
    ·intro mq hh o;have b2:=o.st a0;refine AU ?_;exact B0 ⟨O,er,es⟩
    refine BM.cons O ?_ ?_
    ·intro mq hh o;intro ib eu;have b2:=SN.st a0 o;obtain⟨rfl,ev,ew⟩:=eu;refine EQ O O O Uy O b2 (Ik (St.all _) (AC.mk (x:=(⟨an,ao⟩:AB)) ⟨ev,ew⟩) cn) λic ie ig hk ih b4 p=>?_;obtain⟨rfl,⟨ey,ez⟩,hl⟩:=p;exact EB ⟨b4.siz,λb hb=>b4.same b hb⟩ ⟨O,ey,ez⟩
    refine BM.cons O ?_ ?_
    ·intro mq hh o;intro ii e0;have b2:=SN.st a0 o;obtain⟨rfl,e1,e2⟩:=e0;have hm:=b2.fz;refine Io (cs:=[vI ac.B,vI ac.A]) Nw O O O O O O O hm λij ik co il=>?_;have cp:=co.bxos (r:=AC) (l:=([ac]:List AB)) .head ⟨_,_,O,⟨O,⟨e1,e2⟩⟩,O⟩ (by simp [maxLen]);obtain⟨im,cq,io,e3⟩:=cp.pubs .head;have bp:=Fz.done o EX cq;exact EB bp.1 ⟨Sl.mono' e3 bp.2,_,O⟩
    exact trivial
   intro ip e4 ir e5 it e6 iu bq;have cr:=SN.st a0 e4;cases e5;cases e6;obtain⟨bq,hn,rfl⟩:=bq;obtain⟨ct,E⟩:=RM E;refine OL (r:=AC) (l:=ag) (xs:=([ac]:List AB)) O O Nw O (Sl.src bq) O ct O cr (λ_=>(.tail .head)) λiv iw br iy=>AU ?_;obtain⟨bs,ba,rfl,iz⟩:=br.oslen (mt mh);refine Ic (cs':=[.string p0_w.G.M,j,vI p0_w.G.S,k,q,s,t,u,y,z,vI p0_w.G.T,vI p0_w.J.I,c,F,d,(.slice bs (ag++([ac]:List AB)).length ba)]) O O O O ty_32.1 O br (.tail (.tail .head)) O O λi0 cu i1=>AU ?_;refine B3 (AU ?_);refine WF.nil (λX Y H U=>?_);have cv:=cu.sel [1,1,1,1] 1 O;exact⟨(BR (i7+1)),(.slice bs (ag++([ac]:List AB)).length ba),(ag++([ac]:List AB)),_,_,H.sub (kp [0,1,4] O),U,cv,EX,(B1 _),E⟩
  refine WF.exit O (λX Y H U=>?_);exact⟨v9,ag,_,_,H.sub (kp [0] O),U,a8,dw,E⟩
 rintro X Y ⟨v1,l2,bt,bu,H,U,cw,i2,E⟩;refine AI ?_ H U;clear H U Y X;rw[BH] at E;refine AU ?_;refine AQ (λa w=>∃(bv:Value) (af:List AZ),IV B bt bu (193,[]) a w [(0,vP g 0),(8,bv)] (OS BS 93 bv af::OS AC 51 v1 l2::Bx g 141 [.string p0_w.G.M,j,vI p0_w.G.S,k,q,s,t,u,y,z,vI p0_w.G.T,vI p0_w.J.I,c,F,d,v1]::OS AC 51 c p0_w.J.K::OS AM 97 d p0_w.J.D::L) λ_ _=>C1 N p0_w l2 af=some r) ?_ ?_
 ·refine BJ (λn8=>λa w=>∃(a3:Value) (au:List AZ) (av:Int),IV B bt bu (193,[]) a w [(0,vP g 0),(8,a3),(9,vI av)] (OS BS 93 a3 au::OS AC 51 v1 l2::Bx g 141 [.string p0_w.G.M,j,vI p0_w.G.S,k,q,s,t,u,y,z,vI p0_w.G.T,vI p0_w.J.I,c,F,d,v1]::OS AC 51 c p0_w.J.K::OS AM 97 d p0_w.J.D::L) λ_ _=>AA av∧CN N p0_w (C1 N p0_w l2) n8 au av=some r) N ?_ ?_ ?_
  ·intro X Y H U;have cx:=cw.nil BS 93;exact⟨(vN),([]:List AZ),0,_,_,H.sub (kp [0,8,9] O),U,cx,(Cc.refl bt bu),(iq (n:=0) O),E⟩
  ·rintro X Y ⟨_,_,_,_,_,_,_,_,_,_,E⟩;rw[CN] at E;cases E
  rintro n8 X Y ⟨a3,au,av,b5,b6,H,U,a4,e7,i3,E⟩;refine AI ?_ H U;clear H U Y X;rw[CN] at E;have i4:=Z.nw;refine AU ?_;refine AE O E (λe8 E=>?_) (λe8 E=>?_)
  ·refine AU ?_;refine AQ (λa w=>∃(bb:Value) (bc:List AZ),IV B b5 b6 (193,[]) a w [(0,vP g 0),(9,vI av),(8,bb)] (OS BS 93 bb bc::OS AC 51 v1 l2::Bx g 141 [.string p0_w.G.M,j,vI p0_w.G.S,k,q,s,t,u,y,z,vI p0_w.G.T,vI p0_w.J.I,c,F,d,v1]::OS AC 51 c p0_w.J.K::OS AM 97 d p0_w.J.D::L) λ_ _=>Fx N av (CN N p0_w (C1 N p0_w l2) n8) bc=some r) ?_ ?_
   ·refine AU ?_;refine Ix (.inr ⟨mo,by kernel_rfl⟩) (AU ?_);have e9:=Z.nw;refine AN E O O e9 sl_33.1 O λi5 E i6 i8=>AU ?_;refine AE O E (λfa E=>?_) (λfa E=>?_)
    ·refine AU ?_;have fb:=Z.nw;refine AN E O O fb sl_33.1 O λay E i9 fc=>?_;obtain⟨ja,_,fd⟩:=fc.lv;refine AU ?_;obtain⟨rfl,⟨fe,ff,fg,fh⟩⟩:=BS.ex fd;refine Io (cs:=[vI ay.O,vI ay.C,vI ay.K.B,vI ay.K.A]) Nv O O O O O O O a4 λjb jc cy jd=>?_;obtain⟨cz,E⟩:=RM E;refine J2 (r:=BS) (l:=au) (xs:=([ay]:List AZ)) O O Nv O mh ⟨_,_,O,⟨O,⟨fe,ff,fg,fh⟩⟩,O⟩ O O cz O cy (λ_=>(.tail .head)) λfi je c0 jf=>?_;have c1:=c0.drop .head;refine AU ?_;refine WF.nil (λX Y H U=>?_);exact⟨fi,(au++([ay]:List AZ)),_,_,H.sub (kp [0,9,8] O),U,c1,EX,E⟩
    refine AU ?_;refine WF.nil (λX Y H U=>?_);exact⟨a3,au,_,_,H.sub (kp [0,9,8] O),U,a4,(Cc.refl b5 b6),E⟩
   rintro X Y ⟨bb,bc,jg,jh,H,U,c2,ji,E⟩;refine AI ?_ H U;clear H U Y X;rw[Fx] at E;refine AU ?_;refine WF.nil (λX Y H U=>?_);exact⟨bb,bc,(BR (av+1)),_,_,H.sub (kp [0,8,9] O),U,c2,EX,(B1 _),E⟩
  refine WF.exit O (λX Y H U=>?_);exact⟨a3,au,_,_,H.sub (kp [0,8] O),U,a4,e7,E⟩
 rintro X Y ⟨bv,af,b7,jj,H,U,bw,jk,E⟩;refine AI ?_ H U;clear H U Y X;rw[C1] at E;refine AU ?_;obtain⟨aw,aj,rfl,jl⟩:=bw.oslen mh;refine Ic (cs':=[.string p0_w.G.M,j,vI p0_w.G.S,k,q,s,t,u,y,z,vI p0_w.G.T,vI p0_w.J.I,c,(.slice aw af.length aj),d,v1]) O O O O ty_33.1 O bw (.tail (.tail .head)) O O λb8 c3 jm=>AU ?_;refine BQ (BJ (λc4=>λa w=>∃(ak:Int) (az:List AH),IV B b7 b8 (193,[]) a w [(0,vP g 0),(10,vI ak)] (OS BS 93 (.slice aw af.length aj) af::OS AC 51 v1 l2::Bx g 141 [.string p0_w.G.M,j,vI p0_w.G.S,k,q,s,t,u,y,z,vI p0_w.G.T,vI p0_w.J.I,c,(.slice aw af.length aj),d,v1]::OS AC 51 c p0_w.J.K::OS AM 97 d az::L) λ_ _=>AA ak∧CZ N p0_w l2 af c4 ak az=some r) N ?_ ?_ ?_)
 ·intro X Y H U;exact⟨0,p0_w.J.D,_,_,H.sub (kp [0,10] O),U,c3,(Cc.refl b7 b8),(iq (n:=0) O),E⟩
 ·rintro X Y ⟨_,_,_,_,_,_,_,_,_,E⟩;rw[CZ] at E;cases E
 rintro c4 X Y ⟨ak,az,fj,fk,H,U,bx,jn,jo,E⟩;refine AI ?_ H U;clear H U Y X;rw[CZ] at E;have jp:=ax.nw;refine AU ?_;refine AE O E (λfl E=>?_) (λfl E=>?_)
 ·refine AU ?_;refine AQ (λa w=>∃(be:List AH),IV B fj fk (193,[]) a w [(0,vP g 0),(10,vI ak)] (OS BS 93 (.slice aw af.length aj) af::OS AC 51 v1 l2::Bx g 141 [.string p0_w.G.M,j,vI p0_w.G.S,k,q,s,t,u,y,z,vI p0_w.G.T,vI p0_w.J.I,c,(.slice aw af.length aj),d,v1]::OS AC 51 c p0_w.J.K::OS AM 97 d be::L) λ_ _=>Fa N ak (CZ N p0_w l2 af c4) be=some r) ?_ ?_
  ·refine AU ?_;have fm:=ax.nw;refine AN E O O fm sl_24.1 O λfn E jq fo=>?_;obtain⟨jr,_,fp⟩:=fo.lv;refine AU ?_;refine BZ Nb O bx λjs jt c5 fq=>?_;have fr:=fp.mono fq;obtain⟨ju,jv,jw,rfl,fs,ft,fu,fv,fw,fx,fy,f0,f1,f2,f3,f4,f5,f6,f7,f8,f9,ga⟩:=BI.ex fr;refine Hv O O O ON ty_102.1 O c5 .head O λjx W bz=>AU ?_;refine AE O E (λgb E=>?_) (λgb E=>?_)
   ·refine Gs 25 mo (by kernel_rfl) O W (AU ?_);obtain⟨jy,c6,E⟩:=bd E;refine CS W (mt (mt (mt (mt (mt mh))))) O O sl_34.1 c6 O λjz c7=>?_;obtain⟨j0,c8,E⟩:=bd E;have gc:=W.epAt (mt (mt (mt (mt (mt mh))))) c8 GC.id c7;refine Il SO (λ_ x=>x) O gc ty_97.1 CE O λj1 ge=>AU ?_;obtain⟨j2,c9,E⟩:=bd E;refine CS W (mt (mt mh)) O O sl_32.1 c9 O λj3 da=>?_;obtain⟨j4,db,E⟩:=bd E;have gf:=W.epAt (mt (mt mh)) db GC.id da;refine Il SO (λ_ x=>x) O gf ty_51.1 CE O λj5 gg=>?_;have gh:=fw.mono' bz;have gi:=fx.mono' bz;have gj:=fy.mono' bz;obtain⟨b9,dc,E⟩:=bd E;refine In O O O lK O (λh' o=>Om (St.all h') (BI.mk (x:=fn) fs ft fu fv (gh.mono' (o.all W.1)) (gi.mono' (o.all W.1)) (gj.mono' (o.all W.1)) f0 f1 f2 f3 f4 f5 f6 f7 f8 f9 ga) (ge.mono (o.all W.1)) (gg.mono (o.all W.1)) dc) λgk=>?_;obtain⟨gl,gm,gn,gp,gq⟩:=gk;obtain⟨j6,dd,E⟩:=bd E;refine CS W (mt (mt (mt (mt (mt mh))))) O O sl_34.1 dd O λj7 de=>Em λj8 df j9=>?_;obtain⟨gr,dg,E⟩:=bd E;refine JD (r:=AM) (l:=az) (i:=ak) (x:=gr) O O (AM.mk (x:=b9) ⟨gl,gm,gn,gp,gq⟩) de dg QD.id ty_97.1 CE df (.tail (.tail (.tail (.tail (.tail .head))))) λka dh kb=>AU ?_;refine WF.nil (λX Y H U=>?_);have di:=dh.sel [1,1,1,1,1] 1 O;exact⟨(upd az ak b9),_,_,H.sub (kp [0,10] O),U,di,EX,E⟩
   refine AU ?_;refine WF.nil (λX Y H U=>?_);have dj:=W.sel [1,1,1,1,1] 1 O;exact⟨az,_,_,H.sub (kp [0,10] O),U,dj,EX,E⟩
  rintro X Y ⟨be,kc,kd,H,U,dk,ke,E⟩;refine AI ?_ H U;clear H U Y X;rw[Fa] at E;refine AU ?_;refine WF.nil (λX Y H U=>?_);exact⟨(BR (ak+1)),be,_,_,H.sub (kp [0,10] O),U,dk,EX,(B1 _),E⟩
 refine LG O (WF.nil (λX Y H U=>?_));have dl:=bx.sel [2,2,0,1,0] 0 O;cases E;exact IS H O U ID O EX ⟨_,_,_,O,dl⟩
end Go.Proofs.YtibidnaedddfdaaGreat
