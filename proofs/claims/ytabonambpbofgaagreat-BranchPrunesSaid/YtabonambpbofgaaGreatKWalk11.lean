import Derived.Test.YtabonambpbofgaaGreatKInst
import Derived.Test.YtabonambpbofgaaGreatKForms
import Derived.Test.YtabonambpbofgaaGreatKSort5
import Derived.Test.YtabonambpbofgaaGreatKSortD
import Derived.Test.YtabonambpbofgaaGreatKWalk1
import Derived.Test.YtabonambpbofgaaGreatKWalk6
import Derived.Test.YtabonambpbofgaaGreatKWalk9
namespace Go.Proofs.YtabonambpbofgaaGreat
set_option linter.all false
open Go.RowKit
open Go.Proofs.Tryz
set_option maxRecDepth 10000
set_option maxHeartbeats 20000000
variable {N:Nat}{S:Nat→Prop}{L:List HP}{h:AS}
def N6 (hs:St S L h) {j:Value}{b:(List Int)}(s:Sl S h AB j b) {d:Value}{c:(List Int)}(t:Sl S h AB d c) {r:(List Int)}(E:Hq N b c=some r):
 CM prog 119 #[j,d] S h (λv S' h'=>St S' (OS AB 3 v r::L) h'):=by
 refine CM.go 35 func119 O ntmps119 O λB=>?_;rw[Hq] at E;refine AU ?_;refine Rb O O O (AU ?_);obtain⟨X,E⟩:=Lp E;refine K6 (r:=AB) (zx:=0) JU O ⟨O,by unfold AA;omega⟩ O O X O O hs λW h5 Y e7=>AU ?_;have k8:=s.mono' e7;refine VS (r:=AB) (l:=(List.replicate ((max (↑b.length:Int) (↑c.length:Int)):Int).toNat (0:Int))) (xs:=b) O O CY.1 (Sl.src k8) O Y .head λZ D al=>?_;have ab:=t.nw;refine AU ?_;refine AQ (λa w=>∃(y:List Int),IV B S Z (35,[]) a w [(5,W)] (OS AB 3 W y::L) λ_ _=>IY N y=some r) ?_ ?_
 ·refine A8 (λn1=>λa w=>∃(g:Int) (m:List Int),IV B S Z (35,[]) a w [(18,vI (↑c.length:Int)),(17,d),(5,W),(19,vI g)] (OS AB 3 W m::L) λ_ _=>AA g∧Gu N c (IY N) n1 g m=some r) N ?_ ?_ ?_
  ·intro z A o q;exact⟨0,(Pb (List.replicate ((max (↑b.length:Int) (↑c.length:Int)):Int).toNat (0:Int)) b),_,_,o.sub (kp [18,17,5,19] O),q,D,(C2.refl S Z),(iq (n:=0) O),E⟩
  ·rintro z A ⟨_,_,_,_,_,_,_,_,_,E⟩;rw[Gu] at E;cases E
  rintro n1 z A ⟨g,m,am,an,o,q,k,F,ao,E⟩;refine AK ?_ o q;clear o q A z;rw[Gu] at E;refine AU ?_;refine AH O E (λac E=>?_) (λac E=>?_)
  ·refine AU ?_;refine A5 (AU ?_);have ad:=ab.mono' F;refine BI E O O ad CY.1 O λap E aq ae=>?_;have af:=ae.i;refine AU ?_;refine De (AU ?_);obtain⟨ar,G,E⟩:=bd E;refine BR k mh O O CY.1 G O λau H=>?_;obtain⟨av,I,E⟩:=bd E;have ag:=k.epAt mh I Fg.id H;refine Eh Hj (λ_ x=>x) O ag Fi.1 O λah=>AU ?_;refine Dd E O O O Wb O k (λC J=>Kl (St.all _) ah af J) λC E aw ax ay u az a0 p=>?_;obtain⟨rfl,ai,ak⟩:=p;refine AU ?_;obtain⟨a1,K,E⟩:=bd E;refine BR u mh O O CY.1 K O λa2 M=>AU ?_;obtain⟨aj,Q,E⟩:=bd E;refine Ee (r:=AB) (l:=m) (i:=g) (x:=aj) O O (⟨_,O,O,ai⟩:Rd _ _ AB _ C) M Q L4.id Fi.1 (λ_=>rfl) u .head λa3 U a4=>AU ?_;refine BJ (AU ?_);refine WF.nil (λz A o q=>?_);exact⟨(BQ (g+1)),(upd m g C),_,_,o.sub (kp [18,17,5,19] O),q,U,EX,(BW _),E⟩
  refine BL O (λz A o q=>?_);exact⟨m,_,_,o.sub (kp [5] O),q,k,F,E⟩
 rintro z A ⟨y,a5,a6,o,q,V,a7,E⟩;refine AK ?_ o q;clear o q A z;rw[IY] at E;refine AU ?_;cases E;exact GF V O O EX
def Th (hs:St S L h) {d:Value}{u:(List AT)}(ah:Sl S h A0 d u) {b:Int}(a8:AA b) {z:Int}(J:AA z) {A:Int}(K:AA A) {r:(List (List Int))×(List AT)}(E:MH N u b z A=some r):
 CM prog 118 #[d,vI b,vI z,vI A] S h (λv S' h'=>∃b8 b9:Value,v= .tuple #[b8,b9]∧St S' (OS (A7.sl AB) 29 b8 r.1::OS A0 103 b9 r.2::L) h'):=by
 refine CM.go 79 func118 O ntmps118 O λB=>?_;rw[MH] at E;refine AU ?_;refine CV (.inl O) hs (AU ?_);refine DV E O O O YV O (λy1 dr h' o=>Ks (St.all h') J (iq (n:=0) O) (iq (n:=64) O) dr) λy1 E r2=>?_;have r3:=r2;refine AU ?_;refine BZ (kp [2,0,1,3] O) λh4 ds e6=>AU ?_;refine CV (.inl O) ds (AU ?_);refine DV E O O O YV O (λy7 dt h' o=>Ks (St.all h') K (iq (n:=0) O) (iq (n:=16) O) dt) λy7 E r8=>?_;have r9:=r8;refine AU ?_;refine BZ (kp [3,2,0,1] O) λfs ca ft=>AU ?_;obtain⟨cb,E⟩:=Lp E;refine K6 (r:=(A7.sl AB)) (zx:=[]) WV O ⟨_,O,.inl ⟨O,O⟩⟩ O O cb O O ca λt a9 cc fu=>AU ?_;refine AQ (λa w=>∃(aw:List (List Int)),IV B S a9 (79,[]) a w [(8,t),(2,vI y1),(0,d),(1,vI b)] (OS (A7.sl AB) 29 t aw::L) λ_ _=>HT N u b y1 aw=some r) ?_ ?_
 ·refine A8 (λn1=>λa w=>∃(ab:Int) (aj:List (List Int)),IV B S a9 (79,[]) a w [(20,vI (↑(List.replicate (y1:Int).toNat ([]:(List Int))).length:Int)),(8,t),(3,vI y7),(2,vI y1),(0,d),(1,vI b),(21,vI ab)] (OS (A7.sl AB) 29 t aj::L) λ_ _=>AA ab∧HS N y1 y7 (HT N u b y1) n1 ab aj=some r) N ?_ ?_ ?_
  ·intro H I s y;exact⟨0,(List.replicate (y1:Int).toNat ([]:(List Int))),_,_,s.sub (kp [20,8,3,2,0,1,21] O),y,cc,(C2.refl S a9),(iq (n:=0) O),E⟩
  ·rintro H I ⟨_,_,_,_,_,_,_,_,_,E⟩;rw[HS] at E;cases E
  rintro n1 H I ⟨ab,aj,fv,fw,s,y,a2,du,fx,E⟩;refine AK ?_ s y;clear s y I H;rw[HS] at E;refine AU ?_;refine AH O E (λdv E=>?_) (λdv E=>?_)
  ·refine AU ?_;refine A5 (AU ?_);obtain⟨cd,E⟩:=Lp E;refine K6 (r:=AB) (zx:=0) JU O ⟨O,by unfold AA;omega⟩ O O cd O O a2 λfy f0 a3 f1=>AU ?_;obtain⟨f2,ce,E⟩:=bd E;refine BR a3 (mt mh) O O Jh.1 ce O λf3 cf=>AU ?_;obtain⟨dw,cg,E⟩:=bd E;obtain⟨f4,ch,f5,dx⟩:=a3.pubs .head;refine Ee (r:=(A7.sl AB)) (l:=aj) (i:=ab) (x:=dw) O O (KB dx) cf cg L4.id GU.1 (λ_=>rfl) ch .head λf6 ci f7=>AU ?_;refine BJ (AU ?_);refine WF.nil (λH I s y=>?_);exact⟨(BQ (ab+1)),(upd aj ab (List.replicate (y7:Int).toNat (0:Int))),_,_,s.sub (kp [20,8,3,2,0,1,21] O),y,ci,EX,(BW _),E⟩
  refine BL O (λH I s y=>?_);exact⟨aj,_,_,s.sub (kp [8,2,0,1] O),y,a2,du,E⟩
 rintro H I ⟨aw,ba,bb,s,y,cj,f8,E⟩;refine AK ?_ s y;clear s y I H;rw[HT] at E;have dy:=ah.nw;refine AU ?_;refine AJ 1 (lB O O O dy On.1 O λa4=>AU ?_);have ck:=cj.zs A0 103 a4;have dz:=ah.nw;refine AU ?_;refine AQ (λa w=>∃(bc:Value) (be:List AT) (bf:List (List Int)),IV B ba bb (79,[]) a w [(8,t),(9,bc)] (OS A0 103 bc be::OS (A7.sl AB) 29 t bf::L) λ_ _=>In N be bf=some r) ?_ ?_
 ·refine A8 (λn3=>λa w=>∃(Q:Value) (ac:List AT) (M:Int) (af:List (List Int)),IV B ba bb (79,[]) a w [(33,vI (↑u.length:Int)),(32,d),(8,t),(2,vI y1),(1,vI b),(9,Q),(34,vI M)] (OS A0 103 Q ac::OS (A7.sl AB) 29 t af::L) λ_ _=>AA M∧Gt N u b y1 (In N) n3 ac M af=some r) N ?_ ?_ ?_
  ·intro H I s y;exact⟨(.slice a4 0 0),([]:List AT),0,aw,_,_,s.sub (kp [33,32,8,2,1,9,34] O),y,ck,(C2.refl ba bb),(iq (n:=0) O),E⟩
  ·rintro H I ⟨_,_,_,_,_,_,_,_,_,_,_,E⟩;rw[Gt] at E;cases E
  rintro n3 H I ⟨Q,ac,M,af,U,d0,s,y,a5,cl,f9,E⟩;refine AK ?_ s y;clear s y I H;rw[Gt] at E;refine AU ?_;refine AH O E (λd1 E=>?_) (λd1 E=>?_)
  ·refine AU ?_;refine AQ (λa w=>∃(ax:Value) (ay:List AT) (az:List (List Int)),IV B U d0 (79,[]) a w [(33,vI (↑u.length:Int)),(32,d),(8,t),(2,vI y1),(1,vI b),(34,vI M),(9,ax)] (OS A0 103 ax ay::OS (A7.sl AB) 29 t az::L) λ_ _=>KG N M (Gt N u b y1 (In N) n3) ay az=some r) ?_ ?_
   ·refine AU ?_;have d2:=dz.mono' cl;refine BI E O O d2 On.1 O λc E ga d3=>?_;obtain⟨gb,_,d4⟩:=d3.lv;refine AU ?_;refine D0 ST O a5 λW gc cm d5=>?_;have d6:=d4.mono d5;obtain⟨gd,rfl,ge,gf,cn⟩:=A0.ex d6;refine JI O O O ON Sb.1 O cm .head O λag j gg=>AU ?_;refine AH O E (λco E=>?_) (λco E=>?_)
    ·obtain ⟨eb,bg,E⟩:=bd E;obtain⟨a6,bh,E⟩:=bd E;obtain⟨ak,bi,E⟩:=bd E;obtain⟨ec,bj,E⟩:=bd E;refine NS (m:=[(12,vP W 0),(33,vI (↑u.length:Int)),(32,d),(8,t),(2,vI y1),(1,vI b),(9,Q),(34,vI M)]) 12 (λi v G=>match i with|0=>v=t|1=>v=vP W 1|2=>v=vI c.D∧AA c.D|3=>v=t|4=>v=vP W 1|5=>v=vI c.D∧AA c.D|6=>EP t (c.D.toNat*((A7.sl AB)).sz+0) v|7=>Sl U G AB v a6|8=>v=vP W 2|9=>Sl U G AB v c.V|10=>Sl (SN U ag G) G AB v ak|11=>EP t (c.D.toNat*((A7.sl AB)).sz+0) v|_=>False) [[],[],[(1,54)],[],[],[(4,57)],[(3,56),(5,58)],[(6,59)],[],[(8,61)],[(7,60),(9,62)],[(0,53),(2,55)]] [(10,63),(11,64)] mo (by kernel_rfl) [12,33,32,8,2,1,9,34] O (by kernel_rfl) (by kernel_rfl) (by kernel_rfl) (kp [12,33,32,8,2,1,9,34] O) MO ?_ ?_
     ·refine A6.cons O Fx (A6.cons O Fx (A6.cons O Fx (A6.cons O Fx (A6.cons O Fx (A6.cons O Fx (A6.cons O ?_ ?_))))))
      ·intro mq G o;intro ed cp ee cq;have C:=o.st j;cases cp;obtain⟨rfl,ef⟩:=cq;refine AU ?_;refine BR C (mt (mt mh)) O O Jh.1 bg O λeg bk=>AU ?_;exact B1 bk
      refine A6.cons O ?_ ?_
      ·intro mq G o;intro eh cr;have C:=o.st j;refine AU ?_;have ct:=C.epAt (mt (mt mh)) bh Fg.id cr;refine H5 Hj (λ_ x=>x) O ct GU.1 O λei cu=>AU ?_;exact B1 cu
      refine A6.cons O Fx (A6.cons O ?_ ?_)
      ·intro mq G o;intro ej cv;have C:=o.st j;cases cv;refine AU ?_;have cw:=cn.nw;exact B1 cw
      refine A6.cons O ?_ ?_
      ·intro mq G o;intro cx X cy Y;have C:=SN.st j o;have X:=Sl.sn ag X;have X:Sl _ _ AB cx a6:=X;have Y:=Sl.sn ag Y;have Y:Sl _ _ AB cy c.V:=Y;have F:=C.fz;refine Fv O O O XP O F (N6 (St.all _) (X.mono F.ea.1 F.ea.2) (Y.mono F.ea.1 F.ea.2) bi) λek el em d7 en cz p=>?_;have bl:=p;have am:=F.join cz bl ⟨OS.flat (λ{_ _ _ _ _ _} k=>k),trivial⟩;simp only[Abx,Abz] at am;obtain⟨eo,bm,ep,c0⟩:=am.pubs .head;have an:=Fz.done o EX bm;exact BA an.1 (Sl.mono' c0 an.2)
      refine A6.cons O ?_ ?_
      ·intro mq G o;intro eq c1 er c2;have C:=o.st j;cases c1;obtain⟨rfl,es⟩:=c2;refine AU ?_;refine BR C (mt (mt mh)) O O Jh.1 bj O λeu bn=>AU ?_;exact B1 bn
      exact trivial
     intro ev c3 c4 ao ew c5;have bo:=SN.st j c3;have ao:Sl _ _ AB c4 ak:=ao;obtain⟨c6,bp,E⟩:=bd E;refine Ee (r:=(A7.sl AB)) (l:=af) (i:=c.D) (x:=c6) O O (KB ao) c5 bp L4.id GU.1 (λ_=>rfl) bo (.tail (.tail .head)) λey bq ez=>AU ?_;refine WF.nil (λH I s y=>?_);have br:=bq.sel [1,1] 1 O;exact⟨Q,ac,(upd af c.D ak),_,_,s.sub (kp [33,32,8,2,1,34,9] O),y,br,EX,E⟩
    obtain⟨g,bs,E⟩:=bd E;refine NS (m:=[(12,vP W 0),(33,vI (↑u.length:Int)),(32,d),(8,t),(2,vI y1),(1,vI b),(9,Q),(34,vI M)]) 10 (λi v G=>match i with|0=>v=Q|1=>v=vP W 0|2=>v=vI c.At∧AA c.At|3=>v=vP W 1|4=>v=vI c.D∧AA c.D|5=>v=vP W 2|6=>Sl U G AB v c.V|7=>Sl (SN U ag G) G AB v g|8=>Rd (SN U ag G) G A0 v ({ c with V:=g}:AT)|9=>Sl (SN U ag G) G A0 v ([({ c with V:=g}:AT)]:List AT)∧∃ad,v= .slice (some ad) 1 1|_=>False) [[],[],[(1,66)],[],[(3,68)],[],[(5,70)],[(6,71)],[(2,67),(4,69),(7,72)],[(8,73)]] [(0,65),(9,74)] mo (by kernel_rfl) [12,33,32,8,2,1,9,34] O (by kernel_rfl) (by kernel_rfl) (by kernel_rfl) (kp [12,33,32,8,2,1,9,34] O) MO ?_ ?_
    ·refine A6.cons O Fx (A6.cons O Fx (A6.cons O Fx (A6.cons O Fx (A6.cons O Fx (A6.cons O Fx (A6.cons O ?_ ?_))))))
     ·intro mq G o;intro e0 c7;have C:=o.st j;cases c7;refine AU ?_;have c8:=cn.nw;exact B1 c8
     refine A6.cons O ?_ ?_
     ·intro mq G o;intro c9 Z;have C:=SN.st j o;have Z:=Sl.sn ag Z;have Z:Sl _ _ AB c9 c.V:=Z;have F:=C.fz;refine Fv O O O M8 O F (B8 (St.all _) (Z.mono F.ea.1 F.ea.2) bs) λe1 e2 e3 d8 e4 da p=>?_;have bt:=p;have ap:=F.join da bt ⟨OS.flat (λ{_ _ _ _ _ _} k=>k),trivial⟩;simp only[Abx,Abz] at ap;obtain⟨e5,bu,e7,db⟩:=ap.pubs .head;have aq:=Fz.done o EX bu;exact BA aq.1 (Sl.mono' db aq.2)
     refine A6.cons O ?_ ?_
     ·intro mq G o;intro e8 dc e9 dd de ai;have C:=SN.st j o;obtain⟨rfl,df⟩:=dc;obtain⟨rfl,dg⟩:=dd;have ai:Sl _ _ AB de g:=ai;refine AU ?_;obtain⟨bv,a0,rfl,fa⟩:=(ai).len;refine Gz (cs:=[vI c.At,vI c.D,(.slice bv g.length a0)]) bM O O O (AU ?_);exact B1 (A0.mk (x:=({ c with V:=g}:AT)) df dg ai)
     refine A6.cons O ?_ ?_
     ·intro mq G o;intro dh ar;have C:=SN.st j o;have ar:Rd _ _ A0 dh ({ c with V:=g}:AT):=ar;have F:=C.fz;obtain⟨fb,rfl,di,dj,a7⟩:=A0.ex ar;obtain⟨bw,a1,rfl,fc⟩:=(a7).len;refine JJ (cs:=[vI (({ c with V:=g}:AT).At),vI (({ c with V:=g}:AT).D),(.slice bw (({ c with V:=g}:AT).V).length a1)]) Rq O O O O O O O F λfd fe bx dk=>?_;have dl:=a7.mono' dk;have bz:=bx.bxos (r:=A0) (l:=([({ c with V:=g}:AT)]:List AT)) .head ⟨_,_,O,⟨_,O,di,dj,dl⟩,O⟩ (by simp [maxLen]);obtain⟨ff,b0,fg,dm⟩:=bz.pubs .head;have au:=Fz.done o EX b0;exact BA au.1 ⟨Sl.mono' dm au.2,_,O⟩
     exact trivial
    intro fh dn fi dp fj av;have b1:=SN.st j dn;cases dp;obtain⟨av,d9,rfl⟩:=av;obtain⟨b2,E⟩:=Lp E;refine Gl (r:=A0) (l:=ac) (xs:=([({ c with V:=g}:AT)]:List AT)) O O Rq O (Sl.src av) O b2 O b1 (λ_=>(.tail .head)) λdq fk b3 fl=>AU ?_;refine WF.nil (λH I s y=>?_);have b4:=b3.sel [1,1] 1 O;exact⟨dq,(ac++([({ c with V:=g}:AT)]:List AT)),af,_,_,s.sub (kp [33,32,8,2,1,34,9] O),y,b4,EX,E⟩
   rintro H I ⟨ax,ay,az,fm,fn,s,y,b5,fo,E⟩;refine AK ?_ s y;clear s y I H;rw[KG] at E;refine AU ?_;refine WF.nil (λH I s y=>?_);exact⟨ax,ay,(BQ (M+1)),az,_,_,s.sub (kp [33,32,8,2,1,9,34] O),y,b5,EX,(BW _),E⟩
  refine BL O (λH I s y=>?_);exact⟨Q,ac,af,_,_,s.sub (kp [8,9] O),y,a5,cl,E⟩
 rintro H I ⟨bc,be,bf,fp,fq,s,y,b6,fr,E⟩;refine AK ?_ s y;clear s y I H;rw[In] at E;refine AU ?_;refine CO (λH I s y=>?_);have b7:=b6.sel [1,0] 0 O;cases E;exact LC s O y (I4 (J1 s (v:=_) O) (I4 (J1 s (v:=_) O) LB)) O EX ⟨_,_,O,b7⟩
def R4 (hs:St S L h) {c:Value}{n:BB}(l:Rd S h CD c n) {d:Value}{b:A4}(m:Rd S h BT d b) {k:Int}(K:AA k) {r:A4}(E:Hy N n b k=some r):
 CM prog 120 #[c,d,vI k] S h (λv S' h'=>v= .agg #[vI r.Z,vI r.Aa,.bool r.Ay,.bool r.Am]∧A4.ok r∧St S' (L) h'):=by
 refine CM.go 24 func120 O ntmps120 O λB=>?_;rw[Hy] at E;refine AU ?_;refine Cg O l CE O hs λq1 S2 h3 M e5 k6=>?_;have k7:=m.mono e5;obtain⟨rfl,⟨Y,u⟩⟩:=BT.ex k7;refine Nb O O O M λx ab y ac=>D0 SS O y λz A g ad=>?_;have ae:=k6.nw;refine AU ?_;refine AH O E (λQ E=>?_) (λQ E=>?_)
 ·refine AU ?_;refine FL O O O O I6.1 O g .head O λaf C ag=>AU ?_;refine CO (λs t i j=>?_);have o:=C.drop (.tail .head);have D:=o.drop .head;cases E;exact LC i O j (I4 (W4 i j o O mh I6.1 O) LB) O EX ⟨O,⟨Y,u⟩,D⟩
 refine AU ?_;refine AQ (λa w=>∃(q:Bool),IV B S2 A (24,[]) a w [(6,vP z 0),(4,vP x 0)] (Bx z 107 [vI 0,vI 0,.bool false,.bool false]::Bx x 107 [vI b.Z,vI b.Aa,.bool b.Ay,.bool q]::L) λ_ _=>Jm N b q=some r) ?_ ?_
 ·refine AU ?_;refine AH O E (λU E=>?_) (λU E=>?_)
  ·refine AU ?_;refine Ge (cs':=[vI b.Z,vI b.Aa,.bool b.Ay,.bool true]) O O O O Tg.1 O g (.tail .head) O O λah F V=>AU ?_;refine WF.nil (λs t i j=>?_);exact⟨true,_,_,i.sub (kp [6,4] O),j,F,V,E⟩
  refine AU ?_;refine AH O E (λW E=>?_) (λW E=>?_)
  ·refine AU ?_;refine Ge (cs':=[vI b.Z,vI b.Aa,.bool b.Ay,.bool false]) O O O O Tg.1 O g (.tail .head) O O λai G X=>AU ?_;refine WF.nil (λs t i j=>?_);exact⟨false,_,_,i.sub (kp [6,4] O),j,G,X,E⟩
  refine AU ?_;refine WF.nil (λs t i j=>?_);exact⟨b.Am,_,_,i.sub (kp [6,4] O),j,g,(C2.refl S2 A),E⟩
 rintro s t ⟨q,aj,ak,i,j,H,am,E⟩;refine AK ?_ i j;clear i j t s;rw[Jm] at E;refine AU ?_;refine FL O O O O I6.1 O H .head O λan I ao=>AU ?_;refine CO (λs t i j=>?_);have p:=I.drop (.tail .head);have J:=p.drop .head;cases E;exact LC i O j (I4 (W4 i j p O mh I6.1 O) LB) O EX ⟨O,⟨Y,u⟩,J⟩
def N3 {c:Nat}{p0_w:AM}{am:Value}{an:Value}{af:Value}{ao:Value}{ap:Value}{aq:Value}{ar:Value}{au:Value}{ag:Value}{ah:Value}{ai:Value}{aj:Value}{ak:Value}{d:Value}{g:Value}{a2:Value}{ab:Value}{t:Value}{u:Value}{y:Value}{ac:Value}{z:Value}(hs:St S (Bx c 112 [.string p0_w.b.E,am,vI p0_w.b.J,an,af,ao,ap,aq,ar,au,vI p0_w.b.K,ag,ah,ai,aj,ak,vI p0_w.s.B,d,g,a2,ab,t,u,y,ac,z]::OO AB 3 29 d p0_w.s.G::OS AB 3 g p0_w.s.N::OS BT 107 ab p0_w.s.P::OS AB 3 t p0_w.s.L::OS AB 3 u p0_w.s.O::OS CC 116 y p0_w.moves::OS AB 3 ac p0_w.peaks::OS A0 103 z p0_w.sent::L) h) (fm:p0_w.b.E.size≤maxLen) (br:Sl S h A7.str am p0_w.b.H) (fn:AA p0_w.b.J) (a6:Sl S h B4 an p0_w.b.A) (bs:Sl S h CD af p0_w.b.C) (fo:Sl S h HN ao p0_w.b.Af) (fp:Sl S h Ex ap p0_w.b.Ah) (fq:Sl S h G7 aq p0_w.b.Ai) (fr:Sl S h Dc ar p0_w.b.Ak) (fs:Sl S h AB au p0_w.b.Aj) (c5:AA p0_w.b.K) (c6:Sl S h AB ag p0_w.in_.T) (c7:Sl S h C3 ah p0_w.in_.Ab) (c8:Sl S h FX ai p0_w.in_.Ac) (c9:Sl S h DU aj p0_w.in_.U) (da:Sl S h Du ak p0_w.in_.Ae) (bg:AA p0_w.s.B) (bh:Sl S h A0 a2 p0_w.s.I) {r:(List (List Int))×(List AT)×(List A4)×(List Int)}(E:F9 N p0_w=some r):
 CM prog 61 #[vP c 0] S h (λv S' h'=>∃bl bm bn bo:Value,v= .tuple #[]∧St S' (Bx c 112 [.string p0_w.b.E,am,vI p0_w.b.J,an,af,ao,ap,aq,ar,au,vI p0_w.b.K,ag,ah,ai,aj,ak,vI p0_w.s.B,bl,g,bm,bn,t,u,y,bo,z]::OS (A7.sl AB) 29 bl r.1::OS AB 3 g p0_w.s.N::OS A0 103 bm r.2.1::OS BT 107 bn r.2.2.1::OS AB 3 t p0_w.s.L::OS AB 3 u p0_w.s.O::OS CC 116 y p0_w.moves::OS AB 3 bo r.2.2.2::OS A0 103 z p0_w.sent::L) h'):=by
 refine CM.go (l:=[vP c 0]) 123 func61 O ntmps61 O λB=>?_;rw[F9] at E;have hv:=hs.pick (.tail .head);obtain⟨S2,ae,e4⟩:=hv.ooPub;refine AU ?_;obtain⟨ax,ft,E⟩:=bd E;refine VE (m:=[(0,vP c 0)]) [] [] [(23,[22]),(24,[23]),(25,[23]),(26,[24]),(27,[25])] (by kernel_rfl) (λgv X F i v hh=>match i with|0=>v=vP c 0|1=>v=vP c 0|2=>v=vP c 16|3=>v=vP c 19|4=>Sl S2 hh A0 v p0_w.s.I|5=>v=vP c 0|6=>v=vP c 0|7=>v=vP c 16|8=>v=vP c 16|9=>v=vI p0_w.s.B∧AA p0_w.s.B|10=>v=vP c 0|11=>v=vP c 0|12=>v=vP c 0|13=>v=vP c 3|14=>Sl S2 hh B4 v p0_w.b.A|15=>v=vI (↑p0_w.b.A.length:Int)∧AA (↑p0_w.b.A.length:Int)|16=>v=vP c 0|17=>v=vP c 0|18=>v=vP c 0|19=>v=vP c 1|20=>Sl S2 hh A7.str v p0_w.b.H|21=>v=vI (↑p0_w.b.H.length:Int)∧AA (↑p0_w.b.H.length:Int)|22=>∃w0 w1:Value,v= .tuple #[w0,w1]∧OW S2 h X F [OS (A7.sl AB) 29 w0 ax.1,OS A0 103 w1 ax.2] hh|23=>v=gv 22∧∃w0 w1:Value,v= .tuple #[w0,w1]|24=>v=mL (gv 23) 0|25=>v=mL (gv 23) 1|26=>v=gv 24|27=>v=gv 25|_=>False) [[],[(0,8)],[(1,9)],[(2,10)],[(3,11)],[],[(5,13)],[(6,14)],[(7,15)],[(8,16)],[],[(10,18)],[(11,19)],[(12,20)],[(13,21)],[(14,22)],[],[(16,24)],[(17,25)],[(18,26)],[(19,27)],[(20,28)],[(4,12),(9,17),(15,23),(21,29)],[(22,30)],[(23,7)],[(23,7)],[(24,31)],[(25,32)]] [(22,30),(23,7),(24,31),(25,32),(26,2),(27,3)] mo (by kernel_rfl) [0] O (by kernel_rfl) (by kernel_rfl) (by kernel_rfl) O (kp [0] O) (λgv i v h1 h2 X X' F o1 o2 hF u1 u2 V=>?_) (λgv lz X F i v h1 hz V=>?_) ?_ ?_ ?_
 ·match i,V with
   |0,V|1,V|2,V|3,V|5,V|6,V|7,V|8,V|9,V|10,V|11,V|12,V|13,V|15,V|16,V|17,V|18,V|19,V|21,V|23,V|24,V|25,V|26,V|27,V=>exact V
   |4,V|14,V|20,V=>exact Sl.mono' V (o2.ext λb hb=>Ab0 (ae.1 b hb) o1.siz)
   |22,V=>obtain⟨w0,w1,ev,q⟩:=V;exact⟨w0,w1,ev,OW.mono ae.1 o1 o2 hF u1 u2 q⟩
   |_+28,V=>exact V.elim
 ·match i,V with
   |0,V|1,V|2,V|3,V|4,V|5,V|6,V|7,V|8,V|9,V|10,V|11,V|12,V|13,V|14,V|15,V|16,V|17,V|18,V|19,V|20,V|21,V|22,V=>exact V
   |23,V=>rw[hz _ Ab8 O 22 (by decide)] at V;exact V
   |24,V=>rw[hz _ (Acn _ Ab8) O 23 (by decide)] at V;exact V
   |25,V=>rw[hz _ (Acn _ (Acn _ Ab8)) O 23 (by decide)] at V;exact V
   |26,V=>rw[hz _ (Acn _ (Acn _ (Acn _ Ab8))) O 24 (by decide)] at V;exact V
   |27,V=>rw[hz _ (Acn _ (Acn _ (Acn _ (Acn _ Ab8)))) O 25 (by decide)] at V;exact V
   |_+28,V=>exact V.elim
 ·exact trivial
 ·refine DI.cons O O ?_ ?_
  ·intro gv X mq hh o hX;have Q:=o.st ae;refine AU ?_;exact BA (Ed.refl _) O
  refine DI.cons O O ?_ ?_
  ·intro gv X mq hh o hX;have Q:=o.st ae;intro l0 db;obtain⟨ij,_,_,db⟩:=db;cases db;refine AU ?_;exact BA (Ed.refl _) O
  refine DI.cons O O ?_ ?_
  ·intro gv X mq hh o hX;have Q:=o.st ae;intro l1 dc;obtain⟨ik,_,_,dc⟩:=dc;cases dc;refine AU ?_;exact BA (Ed.refl _) O
  refine DI.cons O O ?_ ?_
  ·intro gv X mq hh o hX;have Q:=o.st ae;intro l2 dd;obtain⟨il,_,_,dd⟩:=dd;cases dd;refine AU ?_;exact BA (Ed.refl _) O
  refine DI.cons O O ?_ ?_
  ·intro gv X mq hh o hX;have Q:=o.st ae;intro l3 de;obtain⟨im,_,_,de⟩:=de;cases de;refine AU ?_;have hx:=bh.mono' (e4.trans (o.ext ae.1));exact BA (Ed.refl _) hx
  refine DI.cons O O ?_ ?_
  ·intro gv X mq hh o hX;have Q:=o.st ae;refine AU ?_;exact BA (Ed.refl _) O
  refine DI.cons O O ?_ ?_
  ·intro gv X mq hh o hX;have Q:=o.st ae;intro l4 df;obtain⟨io,_,_,df⟩:=df;cases df;refine AU ?_;exact BA (Ed.refl _) O
  refine DI.cons O O ?_ ?_
  ·intro gv X mq hh o hX;have Q:=o.st ae;intro l5 dg;obtain⟨ip,_,_,dg⟩:=dg;cases dg;refine AU ?_;exact BA (Ed.refl _) O
  refine DI.cons O O ?_ ?_
  ·intro gv X mq hh o hX;have Q:=o.st ae;intro l6 dh;obtain⟨ir,_,_,dh⟩:=dh;cases dh;refine AU ?_;exact BA (Ed.refl _) O
  refine DI.cons O O ?_ ?_
  ·intro gv X mq hh o hX;have Q:=o.st ae;intro l7 di;obtain⟨it,_,_,di⟩:=di;cases di;refine AU ?_;exact BA (Ed.refl _) ⟨O,bg⟩
  refine DI.cons O O ?_ ?_
  ·intro gv X mq hh o hX;have Q:=o.st ae;refine AU ?_;exact BA (Ed.refl _) O
  refine DI.cons O O ?_ ?_
  ·intro gv X mq hh o hX;have Q:=o.st ae;intro l8 dj;obtain⟨iu,_,_,dj⟩:=dj;cases dj;refine AU ?_;exact BA (Ed.refl _) O
  refine DI.cons O O ?_ ?_
  ·intro gv X mq hh o hX;have Q:=o.st ae;intro l9 dk;obtain⟨iv,_,_,dk⟩:=dk;cases dk;refine AU ?_;exact BA (Ed.refl _) O
  refine DI.cons O O ?_ ?_
  ·intro gv X mq hh o hX;have Q:=o.st ae;intro ma dl;obtain⟨iw,_,_,dl⟩:=dl;cases dl;refine AU ?_;exact BA (Ed.refl _) O
  refine DI.cons O O ?_ ?_
  ·intro gv X mq hh o hX;have Q:=o.st ae;intro mb dm;obtain⟨iy,_,_,dm⟩:=dm;cases dm;refine AU ?_;have hy:=a6.mono' (e4.trans (o.ext ae.1));exact BA (Ed.refl _) hy
  refine DI.cons O O ?_ ?_
  ·intro gv X mq hh o hX;have Q:=o.st ae;intro h0 bu;obtain⟨iz,_,_,bu⟩:=bu;have bu:Sl _ _ B4 h0 p0_w.b.A:=bu;have h3:=bu.le;refine AU ?_;exact BA (Ed.refl _) ⟨O,(Lj h3)⟩
  refine DI.cons O O ?_ ?_
  ·intro gv X mq hh o hX;have Q:=o.st ae;refine AU ?_;exact BA (Ed.refl _) O
  refine DI.cons O O ?_ ?_
  ·intro gv X mq hh o hX;have Q:=o.st ae;intro mc dn;obtain⟨i0,_,_,dn⟩:=dn;cases dn;refine AU ?_;exact BA (Ed.refl _) O
  refine DI.cons O O ?_ ?_
  ·intro gv X mq hh o hX;have Q:=o.st ae;intro md dp;obtain⟨i1,_,_,dp⟩:=dp;cases dp;refine AU ?_;exact BA (Ed.refl _) O
  refine DI.cons O O ?_ ?_
  ·intro gv X mq hh o hX;have Q:=o.st ae;intro me dq;obtain⟨i2,_,_,dq⟩:=dq;cases dq;refine AU ?_;exact BA (Ed.refl _) O
  refine DI.cons O O ?_ ?_
  ·intro gv X mq hh o hX;have Q:=o.st ae;intro mf dr;obtain⟨i3,_,_,dr⟩:=dr;cases dr;refine AU ?_;have h4:=br.mono' (e4.trans (o.ext ae.1));exact BA (Ed.refl _) h4
  refine DI.cons O O ?_ ?_
  ·intro gv X mq hh o hX;have Q:=o.st ae;intro h5 bv;obtain⟨i4,_,_,bv⟩:=bv;have bv:Sl _ _ A7.str h5 p0_w.b.H:=bv;have h6:=bv.le;refine AU ?_;exact BA (Ed.refl _) ⟨O,(Lj h6)⟩
  refine PL O O ?_ ?_
  ·intro gv X mq hh o hX;have Q:=SX.fz (X:=X) ae o;intro h7 bi mg ds mi dt mj du;obtain⟨i5,_,_,bi⟩:=bi;have bi:=Sl.mono' (S':=(SX S2 h hh X)) bi ⟨λb hb=>(SX.ext ae.1 o hX).sub b hb,λ_ _=>rfl,Ab1 _⟩;have bi:Sl _ _ A0 h7 p0_w.s.I:=bi;obtain⟨i6,_,_,ds⟩:=ds;obtain⟨rfl,h8⟩:=ds;obtain⟨i7,_,_,dt⟩:=dt;obtain⟨rfl,h9⟩:=dt;obtain⟨i8,_,_,du⟩:=du;obtain⟨rfl,ia⟩:=du;refine CW O O O sZ O (Th Q bi h8 h9 ia ft) λml mm mn ib p=>?_;obtain⟨mp,mr,rfl,dv⟩:=p;have ic:=dv.pick (.tail (.tail .head));obtain⟨fu,dw,fv,i9,fw⟩:=OW.done ae.1 o hX ib ic;exact BA fv ⟨fu,dw,⟨_,_,O,fw⟩⟩
  refine DI.cons O O ?_ ?_
  ·intro gv X mq hh o hX;have Q:=o.st ae;intro ja bw;obtain⟨dx,_,_,bw⟩:=bw;obtain⟨jb,jc,rfl,jd⟩:=bw;refine AU ?_;exact BA (Ed.refl _) ⟨dx,_,_,O⟩
  refine DI.cons O O ?_ ?_
  ·intro gv X mq hh o hX;have Q:=o.st ae;intro je bx;obtain⟨dy,_,_,bx⟩:=bx;obtain⟨_,jf,jg,rfl⟩:=bx;refine AU ?_;exact BA (Ed.refl _) (by rw[←dy];rfl)
  refine DI.cons O O ?_ ?_
  ·intro gv X mq hh o hX;have Q:=o.st ae;intro jh bz;obtain⟨dz,_,_,bz⟩:=bz;obtain⟨_,ji,jj,rfl⟩:=bz;refine AU ?_;exact BA (Ed.refl _) (by rw[←dz];rfl)
  refine DI.cons O O ?_ ?_
  ·intro gv X mq hh o hX;have Q:=o.st ae;intro jk cl;obtain⟨d0,_,_,cl⟩:=cl;refine AU ?_;exact BA (Ed.refl _) d0
  refine DI.cons O O ?_ ?_
  ·intro gv X mq hh o hX;have Q:=o.st ae;intro jl cm;obtain⟨d1,_,_,cm⟩:=cm;refine AU ?_;exact BA (Ed.refl _) d1
  exact trivial
 intro b0 bj ie bp bb d2 jm b1 cn b2 co b3 cp b4 cq b5 cr b6;obtain⟨d3,b1⟩:=b1;obtain⟨b7,b2⟩:=b2;obtain⟨d4,b3⟩:=b3;obtain⟨d5,b4⟩:=b4;obtain⟨ig,b5⟩:=b5;obtain⟨ih,b6⟩:=b6;obtain⟨a0,a7,rfl,fx⟩:=b1;have bk:=(Xe.cons (Xe.nil ae bp bb) d2 (j:=22) O fx).st;simp only[Abx,Abz] at bk;obtain rfl: .tuple #[a0,a7]=cn:=((by rw[b2.1,←d3];try rfl:cn= .tuple #[a0,a7])).symm;obtain rfl:a0=co:=((by rw[b3,←b7];try rfl:co=a0)).symm;obtain rfl:a7=cp:=((by rw[b4,←b7];try rfl:cp=a7)).symm;obtain rfl:a0=cq:=((by rw[b5,←d4];try rfl:cq=a0)).symm;obtain rfl:a7=cr:=((by rw[b6,←d5];try rfl:cr=a7)).symm;refine AU ?_;obtain⟨ay,aw,rfl,jn⟩:=bk.oslen (mt mh);refine Ge (vs:=[(.slice ay ax.2.length aw)]) (cs':=[.string p0_w.b.E,am,vI p0_w.b.J,an,af,ao,ap,aq,ar,au,vI p0_w.b.K,ag,ah,ai,aj,ak,vI p0_w.s.B,d,g,(.slice ay ax.2.length aw),ab,t,u,y,ac,z]) O O O O Xp.1 O bk (.tail (.tail (.tail .head))) O O λb8 d6 b9=>?_;have d7:=e4.trans ((SX.ext ae.1 bp (iH bb)).trans b9);have jo:=a6.mono' d7;refine AU ?_;refine AQ (λa w=>∃(a3:List (List Int)) (a4:List Int),IV B (SX S2 h b0 (UX bj)) b8 (123,[]) a w [(0,vP c 0)] (OS A0 103 (.slice ay ax.2.length aw) ax.2::OS (A7.sl AB) 29 d a3::Bx c 112 [.string p0_w.b.E,am,vI p0_w.b.J,an,af,ao,ap,aq,ar,au,vI p0_w.b.K,ag,ah,ai,aj,ak,vI p0_w.s.B,d,g,(.slice ay ax.2.length aw),ab,t,u,y,ac,z]::OS AB 3 g p0_w.s.N::OS BT 107 ab p0_w.s.P::OS AB 3 t p0_w.s.L::OS AB 3 u p0_w.s.O::OS CC 116 y p0_w.moves::OS AB 3 ac a4::OS A0 103 z p0_w.sent::L) λ_ _=>DX N p0_w ax a3 a4=some r) ?_ ?_
 ·refine A8 (λn1=>λa w=>∃(av:Int) (a8:List (List Int)) (a9:List Int),IV B (SX S2 h b0 (UX bj)) b8 (123,[]) a w [(43,vI (↑p0_w.b.A.length:Int)),(2,a0),(0,vP c 0),(44,vI av)] (OS (A7.sl AB) 29 a0 ax.1::OS A0 103 (.slice ay ax.2.length aw) ax.2::OS (A7.sl AB) 29 d a8::Bx c 112 [.string p0_w.b.E,am,vI p0_w.b.J,an,af,ao,ap,aq,ar,au,vI p0_w.b.K,ag,ah,ai,aj,ak,vI p0_w.s.B,d,g,(.slice ay ax.2.length aw),ab,t,u,y,ac,z]::OS AB 3 g p0_w.s.N::OS BT 107 ab p0_w.s.P::OS AB 3 t p0_w.s.L::OS AB 3 u p0_w.s.O::OS CC 116 y p0_w.moves::OS AB 3 ac a9::OS A0 103 z p0_w.sent::L) λ_ _=>AA av∧DG N p0_w ax (DX N p0_w ax) n1 av a8 a9=some r) N ?_ ?_ ?_
  ·intro aa ww hf hw;exact⟨0,p0_w.s.G,p0_w.peaks,_,_,hf.sub (kp [43,2,0,44] O),hw,d6,(C2.refl (SX S2 h b0 (UX bj)) b8),(iq (n:=0) O),E⟩
  ·rintro aa ww ⟨_,_,_,_,_,_,_,_,_,_,E⟩;rw[DG] at E;cases E
  rintro n1 aa ww ⟨av,a8,a9,bc,ca,hf,hw,Z,cs,cb,E⟩;refine AK ?_ hf hw;clear hf hw ww aa;rw[DG] at E;refine AU ?_;refine AH O E (λfy E=>?_) (λfy E=>?_)
  ·refine AU ?_;refine A5 (AU ?_);refine RW (kp [4,43,2,0,44] O) ?_;obtain⟨jp,d8,E⟩:=bd E;obtain⟨ct,d9,E⟩:=bd E;obtain⟨jq,ea,E⟩:=bd E;obtain⟨cu,eb,E⟩:=bd E;obtain⟨cc,ec,E⟩:=bd E;obtain⟨jr,ed,E⟩:=bd E;refine NS (m:=[(4,vI av),(43,vI (↑p0_w.b.A.length:Int)),(2,a0),(0,vP c 0),(44,vI av)]) 20 (λi v hh=>match i with|0=>v=vP c 0|1=>v=vP c 0|2=>v=vP c 16|3=>v=vP c 17|4=>v=d|5=>v=vI av∧AA av|6=>v=vP c 0|7=>v=vP c 0|8=>v=vP c 16|9=>v=vP c 17|10=>v=d|11=>v=vI av∧AA av|12=>EP d (av.toNat*((A7.sl AB)).sz+0) v|13=>Sl bc hh AB v ct|14=>v=a0|15=>v=vI av∧AA av|16=>EP a0 (av.toNat*((A7.sl AB)).sz+0) v|17=>Sl bc hh AB v cu|18=>Sl (SN bc ca hh) hh AB v cc|19=>EP d (av.toNat*((A7.sl AB)).sz+0) v|_=>False) [[],[(0,47)],[(1,48)],[(2,49)],[(3,50)],[],[],[(6,53)],[(7,54)],[(8,55)],[(9,56)],[],[(10,57),(11,58)],[(12,59)],[],[],[(14,61),(15,62)],[(16,63)],[(13,60),(17,64)],[(4,51),(5,52)]] [(18,65),(19,66)] mo (by kernel_rfl) [4,43,2,0,44] O (by kernel_rfl) (by kernel_rfl) (by kernel_rfl) (kp [4,43,2,0,44] O) (λi v h1 h2 o1 o2 V=>?_) ?_ ?_
   ·match i,V with
     |0,V|1,V|2,V|3,V|4,V|5,V|6,V|7,V|8,V|9,V|10,V|11,V|12,V|14,V|15,V|16,V|19,V=>exact V
     |13,V|17,V=>exact Sl.mono' V (o2.ext λb hb=>Ab0 (Z.1 b hb) o1.siz)
     |18,V=>exact Sl.mono' V (SN.mono Z.1 o1 o2)
     |_+20,V=>exact V.elim
   ·refine A6.cons O ?_ ?_
    ·intro mq hh o;have Q:=o.st Z;refine AU ?_;exact BA (Ed.refl _) O
    refine A6.cons O ?_ ?_
    ·intro mq hh o;intro js f0;have Q:=o.st Z;cases f0;refine AU ?_;exact BA (Ed.refl _) O
    refine A6.cons O ?_ ?_
    ·intro mq hh o;intro jt f1;have Q:=o.st Z;cases f1;refine AU ?_;exact BA (Ed.refl _) O
    refine A6.cons O ?_ ?_
    ·intro mq hh o;intro ju f2;have Q:=o.st Z;cases f2;refine AU ?_;exact BA (Ed.refl _) O
    refine A6.cons O ?_ ?_
    ·intro mq hh o;intro jv f3;have Q:=o.st Z;cases f3;refine AU ?_;exact BA (Ed.refl _) O
    refine A6.cons O ?_ ?_
    ·intro mq hh o;have Q:=o.st Z;refine AU ?_;exact BA (Ed.refl _) ⟨O,cb⟩
    refine A6.cons O ?_ ?_
    ·intro mq hh o;have Q:=o.st Z;refine AU ?_;exact BA (Ed.refl _) O
    refine A6.cons O ?_ ?_
    ·intro mq hh o;intro jw f4;have Q:=o.st Z;cases f4;refine AU ?_;exact BA (Ed.refl _) O
    refine A6.cons O ?_ ?_
    ·intro mq hh o;intro jx f5;have Q:=o.st Z;cases f5;refine AU ?_;exact BA (Ed.refl _) O
    refine A6.cons O ?_ ?_
    ·intro mq hh o;intro jy f6;have Q:=o.st Z;cases f6;refine AU ?_;exact BA (Ed.refl _) O
    refine A6.cons O ?_ ?_
    ·intro mq hh o;intro jz f7;have Q:=o.st Z;cases f7;refine AU ?_;exact BA (Ed.refl _) O
    refine A6.cons O ?_ ?_
    ·intro mq hh o;have Q:=o.st Z;refine AU ?_;exact BA (Ed.refl _) ⟨O,cb⟩
    refine A6.cons O ?_ ?_
    ·intro mq hh o;intro j0 f8 j1 f9;have Q:=o.st Z;cases f8;obtain⟨rfl,j2⟩:=f9;refine AU ?_;refine BR Q (mt (mt mh)) O O Jh.1 d8 O λj3 ee=>AU ?_;exact BA (Ed.refl _) ee
    refine A6.cons O ?_ ?_
    ·intro mq hh o;intro j4 ga;have Q:=o.st Z;refine AU ?_;have gb:=Q.epAt (mt (mt mh)) d9 Fg.id ga;refine H5 Hj (λ_ x=>x) O gb GU.1 O λj5 gc=>AU ?_;exact BA (Ed.refl _) gc
    refine A6.cons O ?_ ?_
    ·intro mq hh o;have Q:=o.st Z;refine AU ?_;exact BA (Ed.refl _) O
    refine A6.cons O ?_ ?_
    ·intro mq hh o;have Q:=o.st Z;refine AU ?_;exact BA (Ed.refl _) ⟨O,cb⟩
    refine A6.cons O ?_ ?_
    ·intro mq hh o;intro j6 gd j7 ge;have Q:=o.st Z;cases gd;obtain⟨rfl,j8⟩:=ge;refine AU ?_;refine BR Q mh O O Jh.1 ea O λj9 ef=>AU ?_;exact BA (Ed.refl _) ef
    refine A6.cons O ?_ ?_
    ·intro mq hh o;intro ka gf;have Q:=o.st Z;refine AU ?_;have gg:=Q.epAt mh eb Fg.id gf;refine H5 Hj (λ_ x=>x) O gg GU.1 O λkb gh=>AU ?_;exact BA (Ed.refl _) gh
    refine A6.cons O ?_ ?_
    ·intro mq hh o;intro gi be gj bf;have Q:=SN.st Z o;have be:=Sl.mono' (S':=(SN bc ca hh)) be ⟨λb hb=> .inl hb,λ_ _=>rfl,Ab1 _⟩;have be:Sl _ _ AB gi ct:=be;have bf:=Sl.mono' (S':=(SN bc ca hh)) bf ⟨λb hb=> .inl hb,λ_ _=>rfl,Ab1 _⟩;have bf:Sl _ _ AB gj cu:=bf;have ck:=Q.fz;refine Fv O O O XP O ck (N6 (St.all _) (be.mono (λb hb=>ck.1 b hb) (λ_ _=>rfl)) (bf.mono (λb hb=>ck.1 b hb) (λ_ _=>rfl)) ec) λkc kd ke ii gl gm p=>?_;have eg:=p;have cd:=ck.join gm eg ⟨OS.flat (λ{_ _ _ _ _ _} k=>k),trivial⟩;simp only[Abx,Abz] at cd;obtain⟨kf,eh,gn,gp⟩:=cd.pubs .head;have ce:=Fz.done o (gl.trans gn) eh;exact BA ce.1 (Sl.mono' gp ce.2)
    refine A6.cons O ?_ ?_
    ·intro mq hh o;intro kg gq kh gr;have Q:=o.st Z;cases gq;obtain⟨rfl,ki⟩:=gr;refine AU ?_;refine BR Q (mt (mt mh)) O O Jh.1 ed O λkj ei=>AU ?_;exact BA (Ed.refl _) ei
    exact trivial
   intro kk cv gs cf kl gt;have ej:=SN.st Z cv;have cf:Sl _ _ AB gs cc:=cf;obtain⟨gu,ek,E⟩:=bd E;refine Ee (r:=(A7.sl AB)) (l:=a8) (i:=av) (x:=gu) O O (KB cf) gt ek L4.id GU.1 (λ_=>rfl) ej (.tail (.tail .head)) λkm a5 gw=>AU ?_;refine OC 15 mo (by kernel_rfl) O a5 (AU ?_);obtain⟨kn,el,E⟩:=bd E;refine BR a5 (mt (mt mh)) O O Jh.1 el O λko em=>?_;obtain⟨kr,en,E⟩:=bd E;have gx:=a5.epAt (mt (mt mh)) en Fg.id em;refine H5 OM (λ_ x=>x) O gx GU.1 O λks gy=>?_;obtain⟨cw,eo,E⟩:=bd E;refine VO O O O Pz O (λh' o=>Gr (St.all h') (gy.mono' (o.all a5.1)) eo) λgz=>?_;have g0:=gz;obtain⟨kt,ep,E⟩:=bd E;refine BR a5 (mt (mt (mt (mt (mt (mt (mt (mt (mt mh))))))))) O O CY.1 ep O λku eq=>Ml λkv er g1=>?_;obtain⟨g2,es,E⟩:=bd E;refine Ee (r:=AB) (l:=a9) (i:=av) (x:=g2) O O (⟨_,O,O,g0⟩:Rd _ _ AB _ cw) eq es L4.id Fi.1 (λ_=>rfl) er (.tail (.tail (.tail (.tail (.tail (.tail (.tail (.tail (.tail .head))))))))) λkw eu g3=>AU ?_;refine BJ (AU ?_);refine WF.nil (λaa ww hf hw=>?_);have ew:=cs.trans ((SN.ext Z.1 cv).trans (gw.trans (g1.trans g3)));exact⟨(BQ (av+1)),(upd a8 av cc),(upd a9 av cw),_,_,hf.sub (kp [43,2,0,44] O),hw,eu,ew,(BW _),E⟩
  refine BL O (λaa ww hf hw=>?_);have ey:=Z.sel [1,1,1,1,1,1,1,1,1,1] 1 O;exact⟨a8,a9,_,_,hf.sub (kp [0] O),hw,ey,cs,E⟩
 rintro aa ww ⟨a3,a4,cx,cy,hf,hw,ez,cz,E⟩;refine AK ?_ hf hw;clear hf hw ww aa;rw[DX] at E;have e0:=e4.trans ((SX.ext ae.1 bp (iH bb)).trans (b9.trans cz));have g4:=bs.mono' e0;refine AU ?_;refine A5 (A8 (λn2=>λa w=>∃(a1:Int) (ba:List A4),IV B cx cy (123,[]) a w [(88,vI (↑p0_w.b.C.length:Int)),(87,af),(0,vP c 0),(89,vI a1)] (OS A0 103 (.slice ay ax.2.length aw) ax.2::OS (A7.sl AB) 29 d a3::Bx c 112 [.string p0_w.b.E,am,vI p0_w.b.J,an,af,ao,ap,aq,ar,au,vI p0_w.b.K,ag,ah,ai,aj,ak,vI p0_w.s.B,d,g,(.slice ay ax.2.length aw),ab,t,u,y,ac,z]::OS AB 3 g p0_w.s.N::OS BT 107 ab ba::OS AB 3 t p0_w.s.L::OS AB 3 u p0_w.s.O::OS CC 116 y p0_w.moves::OS AB 3 ac a4::OS A0 103 z p0_w.sent::L) λ_ _=>AA a1∧Cu N p0_w ax a3 a4 n2 a1 ba=some r) N ?_ ?_ ?_)
 ·intro aa ww hf hw;exact⟨0,p0_w.s.P,_,_,hf.sub (kp [88,87,0,89] O),hw,ez,(C2.refl cx cy),(iq (n:=0) O),E⟩
 ·rintro aa ww ⟨_,_,_,_,_,_,_,_,_,E⟩;rw[Cu] at E;cases E
 rintro n2 aa ww ⟨a1,ba,g5,g6,hf,hw,cg,ch,kx,E⟩;refine AK ?_ hf hw;clear hf hw ww aa;rw[Cu] at E;refine AU ?_;refine AH O E (λg7 E=>?_) (λg7 E=>?_)
 ·refine AU ?_;refine AQ (λa w=>∃(bq:List A4),IV B g5 g6 (123,[]) a w [(88,vI (↑p0_w.b.C.length:Int)),(87,af),(0,vP c 0),(89,vI a1)] (OS A0 103 (.slice ay ax.2.length aw) ax.2::OS (A7.sl AB) 29 d a3::Bx c 112 [.string p0_w.b.E,am,vI p0_w.b.J,an,af,ao,ap,aq,ar,au,vI p0_w.b.K,ag,ah,ai,aj,ak,vI p0_w.s.B,d,g,(.slice ay ax.2.length aw),ab,t,u,y,ac,z]::OS AB 3 g p0_w.s.N::OS BT 107 ab bq::OS AB 3 t p0_w.s.L::OS AB 3 u p0_w.s.O::OS CC 116 y p0_w.moves::OS AB 3 ac a4::OS A0 103 z p0_w.sent::L) λ_ _=>Fy N a1 (Cu N p0_w ax a3 a4 n2) bq=some r) ?_ ?_
  ·refine AU ?_;have g8:=g4.mono' ch;obtain⟨ad,e1,E⟩:=bd E;refine M9 O O g8 OK.1 e1 O λky g9=>?_;obtain⟨kz,_,ha⟩:=g9.lv;refine AU ?_;refine D0 Og O cg λk0 k1 e2 ci=>AU ?_;have c0:=ha.mono ci;obtain⟨c1,c2,c3,rfl,k2,k3,k4,k5,hc,hd,he,k6,k7,k8,k9,la,lb,lc,lf,lg,lh,li⟩:=CD.ex c0;refine LH (vs:=[.string ad.E,vI ad.F,vI ad.M,vI ad.D,c1,c2,c3,vI ad.W,vI ad.Ag,vI ad.Bb,vI ad.Bc,vI ad.Y,vI ad.S,vI ad.Az,vI ad.Ba,vI ad.Aq,vI ad.Al,vI ad.R]) (cs':=[.string ad.E,vI ad.F,vI ad.M,vI ad.D,c1,c2,c3,vI ad.W,vI ad.Ag,vI ad.Bb,vI ad.Bc,vI ad.Y,vI ad.S,vI ad.Az,vI ad.Ba,vI ad.Aq,vI ad.Al,vI ad.R]) O O O (AW O (AW O (AW O (AW O (AW hc.one (AW hd.one (AW he.one (AW O (AW O (AW O (AW O (AW O (AW O (AW O (AW O (AW O (AW O (AW O Ix)))))))))))))))))) Ok.1 O e2 .head O O λlj az cj=>AU ?_;refine AH O E (λhg E=>?_) (λhg E=>?_)
   ·refine OC 25 mo (by kernel_rfl) O az (AU ?_);obtain⟨ll,e3,E⟩:=bd E;refine BR az (mt (mt (mt (mt (mt mh))))) O O OJ.1 e3 O λlm e5=>?_;obtain⟨ln,e6,E⟩:=bd E;have hi:=az.epAt (mt (mt (mt (mt (mt mh))))) e6 Fg.id e5;refine KZ OM (λ_ x=>x) O hi I6.1 (λe=>by cases e) O λlo hj=>AU ?_;obtain⟨lp,e7,E⟩:=bd E;refine BR az (mt (mt (mt (mt (mt (mt (mt (mt (mt mh))))))))) O O CY.1 e7 O λlq e8=>?_;obtain⟨lr,e9,E⟩:=bd E;have hk:=az.epAt (mt (mt (mt (mt (mt (mt (mt (mt (mt mh))))))))) e9 Fg.id e8;refine Eh OM (λ_ x=>x) O hk Fi.1 O λhl=>?_;have bt:=c0.mono cj;obtain⟨c4,fa,E⟩:=bd E;refine VO O O O sY O (λh' o=>R4 (St.all h') (bt.mono (o.all az.1)) (hj.mono (o.all az.1)) hl fa) λhm=>?_;obtain⟨hn,ho⟩:=hm;obtain⟨ls,fb,E⟩:=bd E;refine BR az (mt (mt (mt (mt (mt mh))))) O O OJ.1 fb O λlt fc=>Ml λlu fd hp=>?_;obtain⟨hq,fe,E⟩:=bd E;refine Ee (r:=BT) (l:=ba) (i:=a1) (x:=hq) O O (BT.mk (x:=c4) ⟨hn,ho⟩) fc fe L4.id I6.1 (λe=>by cases e) fd (.tail (.tail (.tail (.tail (.tail .head))))) λlw ff ht=>AU ?_;refine WF.nil (λaa ww hf hw=>?_);have fg:=ff.sel [1,1,1,1,1,1,1,1,1,1] 1 O;have fh:=ci.trans (cj.trans (hp.trans ht));exact⟨(upd ba a1 c4),_,_,hf.sub (kp [88,87,0,89] O),hw,fg,fh,E⟩
   refine AU ?_;refine WF.nil (λaa ww hf hw=>?_);have fi:=az.sel [1,1,1,1,1,1,1,1,1,1] 1 O;exact⟨ba,_,_,hf.sub (kp [88,87,0,89] O),hw,fi,(ci.trans cj),E⟩
  rintro aa ww ⟨bq,lx,ly,hf,hw,fj,hu,E⟩;refine AK ?_ hf hw;clear hf hw ww aa;rw[Fy] at E;refine AU ?_;refine WF.nil (λaa ww hf hw=>?_);exact⟨(BQ (a1+1)),bq,_,_,hf.sub (kp [88,87,0,89] O),hw,fj,(ch.trans hu),(BW _),E⟩
 refine IQ O (WF.nil (λaa ww hf hw=>?_));have fk:=cg.sel [2,1,1,0,0,0,0,0,0,0] 0 O;cases E;have fl:=e4.trans ((SX.ext ae.1 bp (iH bb)).trans (b9.trans (cz.trans ch)));exact LC hf O hw LB O fl ⟨_,_,_,_,O,fk⟩
end Go.Proofs.YtabonambpbofgaaGreat
