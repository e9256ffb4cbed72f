import Derived.Test.YtedgiljmffngoaaGreatFFacts
import Derived.Test.YtedgiljmffngoaaGreatFForms
import Derived.Test.YtedgiljmffngoaaGreatFInst
import Derived.Test.YtedgiljmffngoaaGreatFSort5
import Derived.Test.YtedgiljmffngoaaGreatFWalk0
import Derived.Test.YtedgiljmffngoaaGreatFWalk1
import Derived.Test.YtedgiljmffngoaaGreatFWalk2
namespace Go.Proofs.YtedgiljmffngoaaGreat
set_option linter.all false
open Go.RowKit
open Go.Proofs.Tryz
set_option maxRecDepth 10000
set_option maxHeartbeats 2000000
variable {N:Nat}{S:Nat→Prop}{L:List HP}{h:AT}
def Mc (hs:St S L h) {j:Value}{b:(List Int)}(s:Sl S h AB j b) {d:Value}{c:(List Int)}(t:Sl S h AB d c) {r:(List Int)}(E:LS N b c=some r):
 B0 prog 30 #[j,d] S h (λv S' h'=>St S' (OS AB 3 v r::L) h'):=by
 refine BA 35 func30 O ntmps30 O λB=>?_;rw[LS] at E;refine AU ?_;refine Qk O O O (AU ?_);obtain⟨X,E⟩:=LA E;refine I7 (r:=AB) (zx:=0) GC O ⟨O,by unfold AA;omega⟩ O O X O O hs λW h5 Y e7=>AU ?_;have k8:=s.mono' e7;refine SI (r:=AB) (l:=(List.replicate ((max (↑b.length:Int) (↑c.length:Int)):Int).toNat (0:Int))) (xs:=b) O O sl_29.1 (Sl.src k8) O Y .head λZ D al=>?_;have ab:=t.nw;refine AU ?_;refine AK (λa w=>∃(y:List Int),IV B S Z (35,[]) a w [(5,W)] (OS AB 3 W y::L) λ_ _=>Kg N y=some r) ?_ ?_
 ·refine AY (λn1=>λa w=>∃(g:Int) (m:List Int),IV B S Z (35,[]) a w [(18,vI (↑c.length:Int)),(17,d),(5,W),(19,vI g)] (OS AB 3 W m::L) λ_ _=>AA g∧JG N c (Kg N) n1 g m=some r) N ?_ ?_ ?_
  ·intro z A o q;exact⟨0,(PT (List.replicate ((max (↑b.length:Int) (↑c.length:Int)):Int).toNat (0:Int)) b),_,_,o.sub (kp [18,17,5,19] O),q,D,(B6.refl S Z),(iq (n:=0) O),E⟩
  ·rintro z A ⟨_,_,_,_,_,_,_,_,_,E⟩;rw[JG] at E;cases E
  rintro n1 z A ⟨g,m,am,an,o,q,k,F,ao,E⟩;refine AI ?_ o q;clear o q A z;rw[JG] at E;refine AU ?_;refine AF O E (λac E=>?_) (λac E=>?_)
  ·refine AU ?_;refine AZ (AU ?_);have ad:=ab.mono' F;refine A9 E O O ad sl_29.1 O λap E aq ae=>?_;have af:=ae.i;refine AU ?_;refine B5 (AU ?_);obtain⟨ar,G,E⟩:=bd E;refine BT k mh O O sl_29.1 G O λau H=>?_;obtain⟨av,I,E⟩:=bd E;have ag:=k.epAt mh I Co.id H;refine C8 FC (λ_ x=>x) O ag ty_3.1 O λah=>AU ?_;refine CS E O O O Pm O k (λC J=>GB (St.all _) ah af J) λC E aw ax ay u az a0 p=>?_;obtain⟨rfl,ai,ak⟩:=p;refine AU ?_;obtain⟨a1,K,E⟩:=bd E;refine BT u mh O O sl_29.1 K O λa2 M=>AU ?_;obtain⟨aj,Q,E⟩:=bd E;refine De (r:=AB) (l:=m) (i:=g) (x:=aj) O O (⟨_,O,O,ai⟩:Rd _ _ AB _ C) M Q MT.id ty_3.1 (λ_=>rfl) u .head λa3 U a4=>AU ?_;refine BD (AU ?_);refine WF.nil (λz A o q=>?_);exact⟨(BG (g+1)),(upd m g C),_,_,o.sub (kp [18,17,5,19] O),q,U,EX,(BF _),E⟩
  refine A8 O (λz A o q=>?_);exact⟨m,_,_,o.sub (kp [5] O),q,k,F,E⟩
 rintro z A ⟨y,a5,a6,o,q,V,a7,E⟩;refine AI ?_ o q;clear o q A z;rw[Kg] at E;refine AU ?_;cases E;exact KN V O O EX
def Q3 (hs:St S L h) {j:Value}{C:(List BM)}(ag:Sl S h A3 j C) {c:Int}(be:AA c) {t:Int}(M:AA t) {u:Int}(Q:AA u) {r:(List (List Int))×(List BM)}(E:NP N C c t u=some r):
 B0 prog 162 #[j,vI c,vI t,vI u] S h (λv S' h'=>∃ck cl:Value,v= .tuple #[ck,cl]∧St S' (OS (BB.sl AB) 29 ck r.1::OS A3 121 cl r.2::L) h'):=by
 refine BA (l:=[j,vI c,vI t,vI u]) 79 func162 O ntmps162 O λB=>?_;rw[NP] at E;refine BV (CM O (Bz O (kp [0,1,2,3] O) (BI (BZ (.inl O) hs (AD O ?_)))));obtain⟨y1,ei,E⟩:=bd E;refine Kz O O O R5 O (λh' o=>JV (St.all h') M (iq (n:=0) O) (iq (n:=64) O) ei) λr2=>?_;have r3:=r2;refine CM O (BL (kp [2,0,1,3] O) λh4 ej e6=>BI (BZ (.inl O) ej (AD O ?_)));obtain⟨y7,ek,E⟩:=bd E;refine Kz O O O R5 O (λh' o=>JV (St.all h') Q (iq (n:=0) O) (iq (n:=16) O) ek) λr8=>?_;have r9:=r8;refine CM O (BL (kp [3,2,0,1] O) λgc cm cn=>WF.sl (BO 1 (AD O (BQ ?_))));obtain⟨co,E⟩:=LA E;refine I7 (r:=(BB.sl AB)) (zx:=[]) NW O ⟨_,O,.inl ⟨O,O⟩⟩ O O co O O cm λA bf a3 cp=>BO 1 (CM O (BQ (LF.nil (kp [8,3,2,0,1] O) (BI (BV (AD O (Kk a3 mh O sl_32.1 O λgd=>AD O (B7 (kp [21,20,8,3,2,0,1] O) (AK (λa w=>∃(aw:List (List Int)),IV B S bf (79,[]) a w [(8,A),(2,vI y1),(0,j),(1,vI c)] (OS (BB.sl AB) 29 A aw::L) λ_ _=>J7 N C c y1 aw=some r) ?_ ?_)))))))))
 ·refine AY (λn1=>λa w=>∃(ab:Int) (ai:List (List Int)),IV B S bf (79,[]) a w [(20,vI (↑(List.replicate (y1:Int).toNat ([]:(List Int))).length:Int)),(8,A),(3,vI y7),(2,vI y1),(0,j),(1,vI c),(21,vI ab)] (OS (BB.sl AB) 29 A ai::L) λ_ _=>AA ab∧IW N y1 y7 (J7 N C c y1) n1 ab ai=some r) N ?_ ?_ ?_
  ·intro J K z D;exact⟨0,(List.replicate (y1:Int).toNat ([]:(List Int))),_,_,z.sub (kp [20,8,3,2,0,1,21] O),D,a3,(B6.refl S bf),(iq (n:=0) O),E⟩
  ·rintro J K ⟨_,_,_,_,_,_,_,_,_,E⟩;rw[IW] at E;cases E
  rintro n1 J K ⟨ab,ai,ge,gf,z,D,a4,cq,gg,E⟩;refine AI ?_ z D;clear z D K J;rw[IW] at E;refine BV (DN O (B7 (kp [22,20,8,3,2,0,1,21] O) (BI (AF O E (λel E=>?_) (λel E=>?_)))))
  ·refine CA (BI (AZ (BV (AD O (Bz O (kp [10,20,8,3,2,0,1,21] O) (B5 (BO 3 (AD O (AD O (AD O (BQ ?_)))))))))));obtain⟨cr,E⟩:=LA E;refine I7 (r:=AB) (zx:=0) GC O ⟨O,by unfold AA;omega⟩ O O cr O O a4 λgh gi a5 em=>BO 1 ?_;obtain⟨gj,ct,E⟩:=bd E;refine BT a5 (mt mh) O O sl_32.1 ct O λgk cu=>BQ ?_;obtain⟨en,cv,E⟩:=bd E;obtain⟨gl,cw,eo,ep⟩:=a5.pubs .head;refine De (r:=(BB.sl AB)) (l:=ai) (i:=ab) (x:=en) O O (Nx ep) cu cv MT.id ty_29.1 (λ_=>rfl) cw .head λgm cx eq=>LF.nil (kp [20,8,3,2,0,1,21] O) (BD (EF (.inl O) (DK O (AD O (B7 (kp [21,20,8,3,2,0,1] O) (WF.nil (λJ K z D=>?_)))))));have cy:=cq.trans (em.trans (eo.trans eq));exact⟨(BG (ab+1)),(upd ai ab (List.replicate (y7:Int).toNat (0:Int))),_,_,z.sub (kp [20,8,3,2,0,1,21] O),D,cx,cy,(BF _),E⟩
  refine A8 O (λJ K z D=>?_);exact⟨ai,_,_,z.sub (kp [8,2,0,1] O),D,a4,cq,E⟩
 rintro J K ⟨aw,bg,bh,z,D,cz,c0,E⟩;refine AI ?_ z D;clear z D K J;rw[J7] at E;refine BV (AD O ?_);have a6:=e6.trans (cn.trans (cp.trans c0));have er:=ag.mono' a6;refine XN O O O er sl_33.1 O λa7=>?_;have c1:=cz.zs A3 121 a7;refine Bz O (kp [9,8,2,0,1] O) (BI (BV (AD O ?_)));have c2:=ag.mono' a6;refine E3 O c2 sl_33.1 O λgn=>AD O (B7 (kp [34,33,32,9,8,2,1] O) (AK (λa w=>∃(bi:Value) (bj:List BM) (bk:List (List Int)),IV B bg bh (79,[]) a w [(8,A),(9,bi)] (OS A3 121 bi bj::OS (BB.sl AB) 29 A bk::L) λ_ _=>IX N bj bk=some r) ?_ ?_))
 ·refine AY (λn3=>λa w=>∃(V:Value) (ac:List BM) (U:Int) (ae:List (List Int)),IV B bg bh (79,[]) a w [(33,vI (↑C.length:Int)),(32,j),(8,A),(2,vI y1),(1,vI c),(9,V),(34,vI U)] (OS A3 121 V ac::OS (BB.sl AB) 29 A ae::L) λ_ _=>AA U∧GL N C c y1 (IX N) n3 ac U ae=some r) N ?_ ?_ ?_
  ·intro J K z D;exact⟨(.slice a7 0 0),([]:List BM),0,aw,_,_,z.sub (kp [33,32,8,2,1,9,34] O),D,c1,(B6.refl bg bh),(iq (n:=0) O),E⟩
  ·rintro J K ⟨_,_,_,_,_,_,_,_,_,_,_,E⟩;rw[GL] at E;cases E
  rintro n3 J K ⟨V,ac,U,ae,G,es,z,D,aj,bl,gp,E⟩;refine AI ?_ z D;clear z D K J;rw[GL] at E;refine BV (DN O (B7 (kp [35,33,32,8,2,1,9,34] O) (BI (AF O E (λeu E=>?_) (λeu E=>?_)))))
  ·refine CA (BI (AK (λa w=>∃(ax:Value) (ay:List BM) (az:List (List Int)),IV B G es (79,[]) a w [(33,vI (↑C.length:Int)),(32,j),(8,A),(2,vI y1),(1,vI c),(34,vI U),(9,ax)] (OS A3 121 ax ay::OS (BB.sl AB) 29 A az::L) λ_ _=>J6 N U (GL N C c y1 (IX N) n3) ay az=some r) ?_ ?_))
   ·refine WF.sl (BO 2 ?_);have ev:=c2.mono' bl;obtain⟨g,c3,E⟩:=bd E;refine Hg O O ev sl_33.1 c3 O λgq ew=>JJ FC aj.1 O ew ty_121.1 (λe=>by cases e) O λgr ey=>BQ (CG NB O aj λW gs c4 bm=>?_);have ez:=ey.mono bm;obtain⟨c5,rfl,e0,bn,bo⟩:=A3.ex ez;refine Ld (vs:=[vI g.Aq,vI g.B,c5]) (cs':=[vI g.Aq,vI g.B,c5]) O O O (A4 O (A4 O (A4 bo.one HB))) ty_121.1 O c4 .head O O λaf d a0=>LF.nil (kp [12,33,32,8,2,1,9,34] O) (BV (DJ O fa_121_0.1 O (E4 FC d O mh O ty_3.1 O (AD O (SF O (AD O (AS 4 46 (.bool ((decide (g.Aq≤c))&&(decide (0≤g.B)))) ?_ ?_)))))))
    ·cases gt:(decide (g.Aq≤c))
     ·exact A6 O O
     exact AM O (DJ O fa_121_1.1 O (AM O (E4 FC d O mh O ty_3.1 O (AM O (Ua O (BP O (AQ O)))))))
    refine AD O (AS 5 52 (.bool (((decide (g.Aq≤c))&&(decide (0≤g.B)))&&(decide (g.B<y1)))) ?_ ?_)
    ·cases gu:((decide (g.Aq≤c))&&(decide (0≤g.B)))
     ·exact A6 O O
     exact AM O (DJ O fa_121_1.1 O (AM O (E4 FC d O mh O ty_3.1 O (AM O (AD O (AM O (DN O (BP O (AQ O)))))))))
    refine B7 (kp [52,12,33,32,8,2,1,9,34] O) (AF O E (λc6 E=>?_) (λc6 E=>?_))
    ·obtain ⟨e4,bp,E⟩:=bd E;obtain⟨a8,bq,E⟩:=bd E;obtain⟨ak,br,E⟩:=bd E;obtain⟨e5,bs,E⟩:=bd E;refine My (m:=[(12,vP W 0),(33,vI (↑C.length:Int)),(32,j),(8,A),(2,vI y1),(1,vI c),(9,V),(34,vI U)]) 12 (λi v H=>match i with|0=>v=A|1=>v=vP W 1|2=>v=vI g.B∧AA g.B|3=>v=A|4=>v=vP W 1|5=>v=vI g.B∧AA g.B|6=>EP A (g.B.toNat*((BB.sl AB)).sz+0) v|7=>Sl G H AB v a8|8=>v=vP W 2|9=>Sl G H AB v g.R|10=>Sl (SN G af H) H AB v ak|11=>EP A (g.B.toNat*((BB.sl AB)).sz+0) v|_=>False) [[],[],[(1,54)],[],[],[(4,57)],[(3,56),(5,58)],[(6,59)],[],[(8,61)],[(7,60),(9,62)],[(0,53),(2,55)]] [(10,63),(11,64)] mo (by kernel_rfl) [12,33,32,8,2,1,9,34] O (by kernel_rfl) (by kernel_rfl) (by kernel_rfl) (kp [12,33,32,8,2,1,9,34] O) (λi v h1 h2 o1 o2 y=>?_) ?_ ?_
     ·match i,y with
       |0,y|1,y|2,y|3,y|4,y|5,y|6,y|8,y|11,y=>exact y
       |7,y|9,y=>exact Sl.mono' y (o2.ext λb hb=>gJ (d.1 b hb) o1.siz)
       |10,y=>exact Sl.mono' y (SN.mono d.1 o1 o2)
       |_+12,y=>exact y.elim
     ·refine AW.cons O (λ_ _ _=>BO 1 (AD O (Bv O))) (AW.cons O (λ_ _ _=>BO 1 (DJ O fa_121_1.1 O (Bv O))) (AW.cons O (λ_ _ o _ c7=>by cases c7;exact BO 1 (E4 FC (o.st d) O mh O ty_3.1 O (Bv ⟨O,bn⟩))) (AW.cons O (λ_ _ _=>BO 1 (AD O (Bv O))) (AW.cons O (λ_ _ _=>BO 1 (DJ O fa_121_1.1 O (Bv O))) (AW.cons O (λ_ _ o _ c8=>by cases c8;exact BO 1 (E4 FC (o.st d) O mh O ty_3.1 O (Bv ⟨O,bn⟩))) (AW.cons O (λ_ _ o=>by intro e7 c9 e8 da;cases c9;obtain ⟨rfl,e9⟩:=da;exact BO 1 (BT (o.st d) (mt (mt mh)) O O sl_32.1 bp O λfa bt=>Bv bt)) ?_))))));refine AW.cons O ?_ ?_
      ·intro mq H o;intro fb db;have F:=o.st d;refine BO 1 ?_;have dc:=F.epAt (mt (mt mh)) bq Co.id db;exact GN FC (λ_ x=>x) O dc ty_29.1 O λfc dd=>Bv dd
      refine AW.cons O (λ_ _ _=>BO 1 (DJ O fa_121_2.1 O (Bv O))) ?_;refine AW.cons O ?_ ?_
      ·intro mq H o;intro fd de;have F:=o.st d;cases de;refine BO 1 (E4 FC F O mh O ty_29.1 O (BQ ?_));have df:=bo.mono' (a0.trans (o.ext d.1));exact AL (CF.refl _) df
      refine AW.cons O ?_ ?_
      ·intro mq H o;intro dg X dh Y;have F:=SN.st d o;have X:=Sl.mono' (S':=(SN G af H)) X ⟨λb hb=> .inl hb,λ_ _=>rfl,gN _⟩;have X:Sl _ _ AB dg a8:=X;have Y:=Sl.mono' (S':=(SN G af H)) Y ⟨λb hb=> .inl hb,λ_ _=>rfl,gN _⟩;have Y:Sl _ _ AB dh g.R:=Y;have I:=F.fz;refine Cn O O O Vq O I (Mc (St.all _) (X.mono (λb hb=>I.1 b hb) (λ_ _=>rfl)) (Y.mono (λb hb=>I.1 b hb) (λ_ _=>rfl)) br) λfe ff fg e1 di dj p=>?_;have bu:=p;have am:=I.join dj bu ⟨OS.flat (λ{_ _ _ _ _ _} k=>k),trivial⟩;simp only[gZ,gQ] at am;obtain⟨fh,bv,dk,dl⟩:=am.pubs .head;have an:=Fz.done o (di.trans dk) bv;exact AL an.1 (Sl.mono' dl an.2)
      exact AW.cons O (λ_ _ o=>by intro fi dm fj dn;cases dm;obtain ⟨rfl,fk⟩:=dn;exact BO 1 (BT (o.st d) (mt (mt mh)) O O sl_32.1 bs O λfm bw=>Bv bw)) trivial
     intro fn a9 dp ao fo dq;have bx:=SN.st d a9;have ao:Sl _ _ AB dp ak:=ao;obtain⟨dr,bz,E⟩:=bd E;refine De (r:=(BB.sl AB)) (l:=ae) (i:=g.B) (x:=dr) O O (Nx ao) dq bz MT.id ty_29.1 (λ_=>rfl) bx (.tail (.tail .head)) λfp b0 ds=>LF.nil (kp [33,32,8,2,1,9,34] O) (WF.nil (λJ K z D=>?_));have b1:=b0.sel [1,1] 1 O;have b2:=bm.trans (a0.trans ((SN.ext d.1 a9).trans ds));exact⟨V,ac,(upd ae g.B ak),_,_,z.sub (kp [33,32,8,2,1,34,9] O),D,b1,b2,E⟩
    obtain⟨s,b3,E⟩:=bd E;refine My (m:=[(12,vP W 0),(33,vI (↑C.length:Int)),(32,j),(8,A),(2,vI y1),(1,vI c),(9,V),(34,vI U)]) 10 (λi v H=>match i with|0=>v=V|1=>v=vP W 0|2=>v=vI g.Aq∧AA g.Aq|3=>v=vP W 1|4=>v=vI g.B∧AA g.B|5=>v=vP W 2|6=>Sl G H AB v g.R|7=>Sl (SN G af H) H AB v s|8=>Rd (SN G af H) H A3 v ({ g with R:=s}:BM)|9=>Sl (SN G af H) H A3 v ([({ g with R:=s}:BM)]:List BM)∧∃ad,v= .slice (some ad) 1 1|_=>False) [[],[],[(1,66)],[],[(3,68)],[],[(5,70)],[(6,71)],[(2,67),(4,69),(7,72)],[(8,73)]] [(0,65),(9,74)] mo (by kernel_rfl) [12,33,32,8,2,1,9,34] O (by kernel_rfl) (by kernel_rfl) (by kernel_rfl) (kp [12,33,32,8,2,1,9,34] O) (λi v h1 h2 o1 o2 y=>?_) ?_ ?_
    ·match i,y with
      |0,y|1,y|2,y|3,y|4,y|5,y=>exact y
      |6,y=>exact Sl.mono' y (o2.ext λb hb=>gJ (d.1 b hb) o1.siz)
      |7,y=>exact Sl.mono' y (SN.mono d.1 o1 o2)
      |8,y=>exact Rd.mono y (SN.mono d.1 o1 o2)
      |9,y=>exact⟨Sl.mono' y.1 (SN.mono d.1 o1 o2),y.2⟩
      |_+10,y=>exact y.elim
    ·refine AW.cons O (λ_ _ _=>BO 1 (AD O (Bv O))) (AW.cons O (λ_ _ _=>BO 1 (DJ O fa_121_0.1 O (Bv O))) (AW.cons O (λ_ _ o _ dt=>by cases dt;exact BO 1 (E4 FC (o.st d) O mh O ty_3.1 O (Bv ⟨O,e0⟩))) (AW.cons O (λ_ _ _=>BO 1 (DJ O fa_121_1.1 O (Bv O))) (AW.cons O (λ_ _ o _ du=>by cases du;exact BO 1 (E4 FC (o.st d) O mh O ty_3.1 O (Bv ⟨O,bn⟩))) (AW.cons O (λ_ _ _=>BO 1 (DJ O fa_121_2.1 O (Bv O))) ?_)))));refine AW.cons O ?_ ?_
     ·intro mq H o;intro fq dv;have F:=o.st d;cases dv;refine BO 1 (E4 FC F O mh O ty_29.1 O (BQ ?_));have dw:=bo.mono' (a0.trans (o.ext d.1));exact AL (CF.refl _) dw
     refine AW.cons O ?_ ?_
     ·intro mq H o;intro dx Z;have F:=SN.st d o;have Z:=Sl.mono' (S':=(SN G af H)) Z ⟨λb hb=> .inl hb,λ_ _=>rfl,gN _⟩;have Z:Sl _ _ AB dx g.R:=Z;have I:=F.fz;refine Cn O O O Od O I (Cp (St.all _) (Z.mono (λb hb=>I.1 b hb) (λ_ _=>rfl)) b3) λfr fs ft e2 dy dz p=>?_;have b4:=p;have ap:=I.join dz b4 ⟨OS.flat (λ{_ _ _ _ _ _} k=>k),trivial⟩;simp only[gZ,gQ] at ap;obtain⟨fu,b5,d0,d1⟩:=ap.pubs .head;have aq:=Fz.done o (dy.trans d0) b5;exact AL aq.1 (Sl.mono' d1 aq.2)
     refine AW.cons O ?_ ?_
     ·intro mq H o;intro fv d2 fw d3 d4 ah;have F:=SN.st d o;obtain⟨rfl,d5⟩:=d2;obtain⟨rfl,d6⟩:=d3;have ah:Sl _ _ AB d4 s:=ah;refine BO 1 ?_;obtain⟨b6,a1,rfl,fx⟩:=(ah).len;exact Dd (cs:=[vI g.Aq,vI g.B,(.slice b6 s.length a1)]) TP O O O (Bv (A3.mk (x:=({ g with R:=s}:BM)) d5 d6 ah))
     refine AW.cons O ?_ ?_
     ·intro mq H o;intro d7 ar;have F:=SN.st d o;have ar:Rd _ _ A3 d7 ({ g with R:=s}:BM):=ar;have I:=F.fz;obtain⟨fy,rfl,d8,d9,ba⟩:=A3.ex ar;obtain⟨b7,a2,rfl,f0⟩:=(ba).len;refine Df (cs:=[vI (({ g with R:=s}:BM).Aq),vI (({ g with R:=s}:BM).B),(.slice b7 (({ g with R:=s}:BM).R).length a2)]) Pk O O O O O O O I λf1 f2 b8 bb=>?_;have ea:=ba.mono' bb;have b9:=b8.bxos (r:=A3) (l:=([({ g with R:=s}:BM)]:List BM)) .head ⟨_,_,O,⟨_,O,d8,d9,ea⟩,O⟩ (by simp [maxLen]);obtain⟨f3,ca,eb,ec⟩:=b9.pubs .head;have au:=Fz.done o (bb.trans eb) ca;exact AL au.1 ⟨Sl.mono' ec au.2,_,O⟩
     exact trivial
    intro f4 bc f5 ed f6 av;have cb:=SN.st d bc;cases ed;obtain⟨av,e3,rfl⟩:=av;obtain⟨cc,E⟩:=LA E;refine IJ (r:=A3) (l:=ac) (xs:=([({ g with R:=s}:BM)]:List BM)) O O Pk O (Sl.src av) O cc O cb (λ_=>(.tail .head)) λee f7 cd ef=>BO 1 (CM O (BQ (LF.nil (kp [9,33,32,8,2,1,34] O) (WF.nil (λJ K z D=>?_)))));have ce:=cd.sel [1,1] 1 O;have cf:=bm.trans (a0.trans ((SN.ext d.1 bc).trans ef));exact⟨ee,(ac++([({ g with R:=s}:BM)]:List BM)),ae,_,_,z.sub (kp [33,32,8,2,1,34,9] O),D,ce,cf,E⟩
   rintro J K ⟨ax,ay,az,f8,f9,z,D,cg,eg,E⟩;refine AI ?_ z D;clear z D K J;rw[J6] at E;refine EF (.inl O) (DK O (AD O (B7 (kp [34,33,32,8,2,1,9] O) (WF.nil (λJ K z D=>?_)))));exact⟨ax,ay,(BG (U+1)),az,_,_,z.sub (kp [33,32,8,2,1,9,34] O),D,cg,(bl.trans eg),(BF _),E⟩
  refine A8 O (λJ K z D=>?_);exact⟨V,ac,ae,_,_,z.sub (kp [8,9] O),D,aj,bl,E⟩
 rintro J K ⟨bi,bj,bk,ga,gb,z,D,ch,eh,E⟩;refine AI ?_ z D;clear z D K J;rw[IX] at E;refine BV (AD O (AD O (CM O (Bz O (kp [9,8] O) (BS (λJ K z D=>?_))))));have ci:=ch.sel [1,0] 0 O;cases E;have cj:=e6.trans (cn.trans (cp.trans (c0.trans eh)));exact Hk z O D (Eg (GE z (v:=_) O) (Eg (GE z (v:=_) O) Hj)) O cj ⟨_,_,O,ci⟩
def Px (hs:St S L h) {c:Value}{n:BY}(l:Rd S h Bu c n) {d:Value}{b:BE}(m:Rd S h BK d b) {k:Int}(K:AA k) {r:BE}(E:L0 N n b k=some r):
 B0 prog 163 #[c,d,vI k] S h (λv S' h'=>v= .agg #[vI r.Ah,vI r.V,.bool r.An,.bool r.Ae]∧BE.ok r∧St S' (L) h'):=by
 refine BA 24 func163 O ntmps163 O λB=>?_;rw[L0] at E;refine AU ?_;refine B4 O l CE O hs λq1 S2 h3 M e5 k6=>?_;have k7:=m.mono e5;obtain⟨rfl,⟨Z,u⟩⟩:=BK.ex k7;refine Nn O O O M λx ab y ac=>CG OM O y λz A g ad=>?_;have ae:=k6.nw;refine AU ?_;refine AF O E (λQ E=>?_) (λQ E=>?_)
 ·refine AU ?_;refine CV O O O O ty_106.1 O g .head O λaf C ag=>AU ?_;refine BS (λs t i j=>?_);have o:=C.drop (.tail .head);have D:=o.drop .head;cases E;exact Hk i O j (Eg (Rn i j o O mh ty_106.1 O) Hj) O EX ⟨O,⟨Z,u⟩,D⟩
 refine AU ?_;refine AK (λa w=>∃(q:Bool),IV B S2 A (24,[]) a w [(6,vP z 0),(4,vP x 0)] (Bx z 106 [vI 0,vI 0,.bool false,.bool false]::Bx x 106 [vI b.Ah,vI b.V,.bool b.An,.bool q]::L) λ_ _=>HQ N b q=some r) ?_ ?_
 ·refine AU ?_;refine AF O E (λU E=>?_) (λU E=>?_)
  ·refine AU ?_;refine DY (cs':=[vI b.Ah,vI b.V,.bool b.An,.bool true]) O O O O ty_4.1 O g (.tail .head) O O λah F W=>AU ?_;refine WF.nil (λs t i j=>?_);exact⟨true,_,_,i.sub (kp [6,4] O),j,F,W,E⟩
  refine AU ?_;refine AF O E (λX E=>?_) (λX E=>?_)
  ·refine AU ?_;refine DY (cs':=[vI b.Ah,vI b.V,.bool b.An,.bool false]) O O O O ty_4.1 O g (.tail .head) O O λai G Y=>AU ?_;refine WF.nil (λs t i j=>?_);exact⟨false,_,_,i.sub (kp [6,4] O),j,G,Y,E⟩
  refine AU ?_;refine WF.nil (λs t i j=>?_);exact⟨b.Ae,_,_,i.sub (kp [6,4] O),j,g,(B6.refl S2 A),E⟩
 rintro s t ⟨q,aj,ak,i,j,H,am,E⟩;refine AI ?_ i j;clear i j t s;rw[HQ] at E;refine AU ?_;refine CV O O O O ty_106.1 O H .head O λan I ao=>AU ?_;refine BS (λs t i j=>?_);have p:=I.drop (.tail .head);have J:=p.drop .head;cases E;exact Hk i O j (Eg (Rn i j p O mh ty_106.1 O) Hj) O EX ⟨O,⟨Z,u⟩,J⟩
def MZ {c:Nat}{p0_w:A5}{an:Value}{ao:Value}{ag:Value}{ap:Value}{aq:Value}{ar:Value}{au:Value}{av:Value}{ah:Value}{ai:Value}{aj:Value}{ak:Value}{am:Value}{d:Value}{g:Value}{a3:Value}{ac:Value}{t:Value}{u:Value}{y:Value}{ad:Value}{z:Value}(hs:St S (Bx c 160 [.string p0_w.b.C,an,vI p0_w.b.H,ao,ag,ap,aq,ar,au,av,vI p0_w.b.G,ah,ai,aj,ak,am,vI p0_w.s.A,d,g,a3,ac,t,u,y,ad,z]::OO AB 3 29 d p0_w.s.F::OS AB 3 g p0_w.s.K::OS BK 106 ac p0_w.s.Q::OS AB 3 t p0_w.s.O::OS AB 3 u p0_w.s.N::OS BJ 74 y p0_w.moves::OS AB 3 ad p0_w.peaks::OS A3 121 z p0_w.sent::L) h) (fp:p0_w.b.C.size≤maxLen) (bt:Sl S h BB.str an p0_w.b.I) (fq:AA p0_w.b.H) (a7:Sl S h BX ao p0_w.b.E) (bu:Sl S h Bu ag p0_w.b.J) (fr:Sl S h DL ap p0_w.b.U) (fs:Sl S h Cw aq p0_w.b.W) (ft:Sl S h DM ar p0_w.b.Y) (fu:Sl S h Cd au p0_w.b.Z) (fv:Sl S h AB av p0_w.b.X) (c7:AA p0_w.b.G) (c8:Sl S h AB ah p0_w.in_.Aa) (c9:Sl S h D0 ai p0_w.in_.Ai) (da:Sl S h H2 aj p0_w.in_.Aj) (db:Sl S h D3 ak p0_w.in_.Ak) (dc:Sl S h Ea am p0_w.in_.Ag) (bi:AA p0_w.s.A) (bj:Sl S h A3 a3 p0_w.s.P) {r:(List (List Int))×(List BM)×(List BE)×(List Int)}(E:IR N p0_w=some r):
 B0 prog 82 #[vP c 0] S h (λv S' h'=>∃bn bo bp bq:Value,v= .tuple #[]∧St S' (Bx c 160 [.string p0_w.b.C,an,vI p0_w.b.H,ao,ag,ap,aq,ar,au,av,vI p0_w.b.G,ah,ai,aj,ak,am,vI p0_w.s.A,bn,g,bo,bp,t,u,y,bq,z]::OS (BB.sl AB) 29 bn r.1::OS AB 3 g p0_w.s.K::OS A3 121 bo r.2.1::OS BK 106 bp r.2.2.1::OS AB 3 t p0_w.s.O::OS AB 3 u p0_w.s.N::OS BJ 74 y p0_w.moves::OS AB 3 bq r.2.2.2::OS A3 121 z p0_w.sent::L) h'):=by
 refine BA (l:=[vP c 0]) 123 func82 O ntmps82 O λB=>?_;rw[IR] at E;have ij:=hs.pick (.tail .head);obtain⟨S2,af,e4⟩:=ij.ooPub;refine AU ?_;obtain⟨az,fw,E⟩:=bd E;refine R7 (m:=[(0,vP c 0)]) [] [] [(23,[22]),(24,[23]),(25,[23]),(26,[24]),(27,[25])] (by kernel_rfl) (λgv X F i v hh=>match i with|0=>v=vP c 0|1=>v=vP c 0|2=>v=vP c 16|3=>v=vP c 19|4=>Sl S2 hh A3 v p0_w.s.P|5=>v=vP c 0|6=>v=vP c 0|7=>v=vP c 16|8=>v=vP c 16|9=>v=vI p0_w.s.A∧AA p0_w.s.A|10=>v=vP c 0|11=>v=vP c 0|12=>v=vP c 0|13=>v=vP c 3|14=>Sl S2 hh BX v p0_w.b.E|15=>v=vI (↑p0_w.b.E.length:Int)∧AA (↑p0_w.b.E.length:Int)|16=>v=vP c 0|17=>v=vP c 0|18=>v=vP c 0|19=>v=vP c 1|20=>Sl S2 hh BB.str v p0_w.b.I|21=>v=vI (↑p0_w.b.I.length:Int)∧AA (↑p0_w.b.I.length:Int)|22=>∃w0 w1:Value,v= .tuple #[w0,w1]∧OW S2 h X F [OS (BB.sl AB) 29 w0 az.1,OS A3 121 w1 az.2] hh|23=>v=gv 22∧∃w0 w1:Value,v= .tuple #[w0,w1]|24=>v=Xq (gv 23) 0|25=>v=Xq (gv 23) 1|26=>v=gv 24|27=>v=gv 25|_=>False) [[],[(0,8)],[(1,9)],[(2,10)],[(3,11)],[],[(5,13)],[(6,14)],[(7,15)],[(8,16)],[],[(10,18)],[(11,19)],[(12,20)],[(13,21)],[(14,22)],[],[(16,24)],[(17,25)],[(18,26)],[(19,27)],[(20,28)],[(4,12),(9,17),(15,23),(21,29)],[(22,30)],[(23,7)],[(23,7)],[(24,31)],[(25,32)]] [(22,30),(23,7),(24,31),(25,32),(26,2),(27,3)] mo (by kernel_rfl) [0] O (by kernel_rfl) (by kernel_rfl) (by kernel_rfl) O (kp [0] O) (λgv i v h1 h2 X X' F o1 o2 hF u1 u2 hr=>?_) (λgv l1 X F i v h1 hz hr=>?_) ?_ ?_ ?_
 ·match i,hr with
   |0,hr|1,hr|2,hr|3,hr|5,hr|6,hr|7,hr|8,hr|9,hr|10,hr|11,hr|12,hr|13,hr|15,hr|16,hr|17,hr|18,hr|19,hr|21,hr|23,hr|24,hr|25,hr|26,hr|27,hr=>exact hr
   |4,hr|14,hr|20,hr=>exact Sl.mono' hr (o2.ext λb hb=>gJ (af.1 b hb) o1.siz)
   |22,hr=>obtain⟨w0,w1,ev,q⟩:=hr;exact⟨w0,w1,ev,OW.mono af.1 o1 o2 hF u1 u2 q⟩
   |_+28,hr=>exact hr.elim
 ·match i,hr with
   |0,hr|1,hr|2,hr|3,hr|4,hr|5,hr|6,hr|7,hr|8,hr|9,hr|10,hr|11,hr|12,hr|13,hr|14,hr|15,hr|16,hr|17,hr|18,hr|19,hr|20,hr|21,hr|22,hr=>exact hr
   |23,hr=>rw[hz _ gY O 22 (by decide)] at hr;exact hr
   |24,hr=>rw[hz _ (hE _ gY) O 23 (by decide)] at hr;exact hr
   |25,hr=>rw[hz _ (hE _ (hE _ gY)) O 23 (by decide)] at hr;exact hr
   |26,hr=>rw[hz _ (hE _ (hE _ (hE _ gY))) O 24 (by decide)] at hr;exact hr
   |27,hr=>rw[hz _ (hE _ (hE _ (hE _ (hE _ gY)))) O 25 (by decide)] at hr;exact hr
   |_+28,hr=>exact hr.elim
 ·exact trivial
 ·refine CL.cons O O ?_ ?_
  ·intro gv X mq hh o hX;have V:=o.st af;refine AU ?_;exact AL (CF.refl _) O
  refine CL.cons O O ?_ ?_
  ·intro gv X mq hh o hX;have V:=o.st af;intro l2 dd;obtain⟨i5,_,_,dd⟩:=dd;cases dd;refine AU ?_;exact AL (CF.refl _) O
  refine CL.cons O O ?_ ?_
  ·intro gv X mq hh o hX;have V:=o.st af;intro l3 de;obtain⟨i6,_,_,de⟩:=de;cases de;refine AU ?_;exact AL (CF.refl _) O
  refine CL.cons O O ?_ ?_
  ·intro gv X mq hh o hX;have V:=o.st af;intro l4 df;obtain⟨i7,_,_,df⟩:=df;cases df;refine AU ?_;exact AL (CF.refl _) O
  refine CL.cons O O ?_ ?_
  ·intro gv X mq hh o hX;have V:=o.st af;intro l5 dg;obtain⟨i8,_,_,dg⟩:=dg;cases dg;refine AU ?_;have ik:=bj.mono' (e4.trans (o.ext af.1));exact AL (CF.refl _) ik
  refine CL.cons O O ?_ ?_
  ·intro gv X mq hh o hX;have V:=o.st af;refine AU ?_;exact AL (CF.refl _) O
  refine CL.cons O O ?_ ?_
  ·intro gv X mq hh o hX;have V:=o.st af;intro l6 dh;obtain⟨i9,_,_,dh⟩:=dh;cases dh;refine AU ?_;exact AL (CF.refl _) O
  refine CL.cons O O ?_ ?_
  ·intro gv X mq hh o hX;have V:=o.st af;intro l7 di;obtain⟨ja,_,_,di⟩:=di;cases di;refine AU ?_;exact AL (CF.refl _) O
  refine CL.cons O O ?_ ?_
  ·intro gv X mq hh o hX;have V:=o.st af;intro l8 dj;obtain⟨jb,_,_,dj⟩:=dj;cases dj;refine AU ?_;exact AL (CF.refl _) O
  refine CL.cons O O ?_ ?_
  ·intro gv X mq hh o hX;have V:=o.st af;intro l9 dk;obtain⟨jc,_,_,dk⟩:=dk;cases dk;refine AU ?_;exact AL (CF.refl _) ⟨O,bi⟩
  refine CL.cons O O ?_ ?_
  ·intro gv X mq hh o hX;have V:=o.st af;refine AU ?_;exact AL (CF.refl _) O
  refine CL.cons O O ?_ ?_
  ·intro gv X mq hh o hX;have V:=o.st af;intro ma dl;obtain⟨jd,_,_,dl⟩:=dl;cases dl;refine AU ?_;exact AL (CF.refl _) O
  refine CL.cons O O ?_ ?_
  ·intro gv X mq hh o hX;have V:=o.st af;intro mb dm;obtain⟨je,_,_,dm⟩:=dm;cases dm;refine AU ?_;exact AL (CF.refl _) O
  refine CL.cons O O ?_ ?_
  ·intro gv X mq hh o hX;have V:=o.st af;intro mc dn;obtain⟨jf,_,_,dn⟩:=dn;cases dn;refine AU ?_;exact AL (CF.refl _) O
  refine CL.cons O O ?_ ?_
  ·intro gv X mq hh o hX;have V:=o.st af;intro md dp;obtain⟨jg,_,_,dp⟩:=dp;cases dp;refine AU ?_;have il:=a7.mono' (e4.trans (o.ext af.1));exact AL (CF.refl _) il
  refine CL.cons O O ?_ ?_
  ·intro gv X mq hh o hX;have V:=o.st af;intro im bv;obtain⟨jh,_,_,bv⟩:=bv;have bv:Sl _ _ BX im p0_w.b.E:=bv;have io:=bv.le;refine AU ?_;exact AL (CF.refl _) ⟨O,(Jb io)⟩
  refine CL.cons O O ?_ ?_
  ·intro gv X mq hh o hX;have V:=o.st af;refine AU ?_;exact AL (CF.refl _) O
  refine CL.cons O O ?_ ?_
  ·intro gv X mq hh o hX;have V:=o.st af;intro me dq;obtain⟨ji,_,_,dq⟩:=dq;cases dq;refine AU ?_;exact AL (CF.refl _) O
  refine CL.cons O O ?_ ?_
  ·intro gv X mq hh o hX;have V:=o.st af;intro mf dr;obtain⟨jj,_,_,dr⟩:=dr;cases dr;refine AU ?_;exact AL (CF.refl _) O
  refine CL.cons O O ?_ ?_
  ·intro gv X mq hh o hX;have V:=o.st af;intro mg ds;obtain⟨jk,_,_,ds⟩:=ds;cases ds;refine AU ?_;exact AL (CF.refl _) O
  refine CL.cons O O ?_ ?_
  ·intro gv X mq hh o hX;have V:=o.st af;intro mi dt;obtain⟨jl,_,_,dt⟩:=dt;cases dt;refine AU ?_;have ip:=bt.mono' (e4.trans (o.ext af.1));exact AL (CF.refl _) ip
  refine CL.cons O O ?_ ?_
  ·intro gv X mq hh o hX;have V:=o.st af;intro ir bw;obtain⟨jm,_,_,bw⟩:=bw;have bw:Sl _ _ BB.str ir p0_w.b.I:=bw;have it:=bw.le;refine AU ?_;exact AL (CF.refl _) ⟨O,(Jb it)⟩
  refine Nj O O ?_ ?_
  ·intro gv X mq hh o hX;have V:=SX.fz (X:=X) af o;intro iu bk mj du ml dv mm dw;obtain⟨jn,_,_,bk⟩:=bk;have bk:=Sl.mono' (S':=(SX S2 h hh X)) bk ⟨λb hb=>(SX.ext af.1 o hX).sub b hb,λ_ _=>rfl,gN _⟩;have bk:Sl _ _ A3 iu p0_w.s.P:=bk;obtain⟨jo,_,_,du⟩:=du;obtain⟨rfl,iv⟩:=du;obtain⟨jp,_,_,dv⟩:=dv;obtain⟨rfl,iw⟩:=dv;obtain⟨jq,_,_,dw⟩:=dw;obtain⟨rfl,iy⟩:=dw;refine Cr O O O Zq O (Q3 V bk iv iw iy fw) λmn mp mr iz p=>?_;obtain⟨ms,mu,rfl,dx⟩:=p;have i0:=dx.pick (.tail (.tail .head));obtain⟨fx,dy,fy,jr,f0⟩:=OW.done af.1 o hX iz i0;exact AL fy ⟨fx,dy,⟨_,_,O,f0⟩⟩
  refine CL.cons O O ?_ ?_
  ·intro gv X mq hh o hX;have V:=o.st af;intro js bx;obtain⟨dz,_,_,bx⟩:=bx;obtain⟨jt,ju,rfl,jv⟩:=bx;refine AU ?_;exact AL (CF.refl _) ⟨dz,_,_,O⟩
  refine CL.cons O O ?_ ?_
  ·intro gv X mq hh o hX;have V:=o.st af;intro jw bz;obtain⟨d0,_,_,bz⟩:=bz;obtain⟨_,jx,jy,rfl⟩:=bz;refine AU ?_;exact AL (CF.refl _) (by rw[←d0];rfl)
  refine CL.cons O O ?_ ?_
  ·intro gv X mq hh o hX;have V:=o.st af;intro jz b0;obtain⟨d1,_,_,b0⟩:=b0;obtain⟨_,j0,j1,rfl⟩:=b0;refine AU ?_;exact AL (CF.refl _) (by rw[←d1];rfl)
  refine CL.cons O O ?_ ?_
  ·intro gv X mq hh o hX;have V:=o.st af;intro j2 cl;obtain⟨d2,_,_,cl⟩:=cl;refine AU ?_;exact AL (CF.refl _) d2
  refine CL.cons O O ?_ ?_
  ·intro gv X mq hh o hX;have V:=o.st af;intro j3 cm;obtain⟨d3,_,_,cm⟩:=cm;refine AU ?_;exact AL (CF.refl _) d3
  exact trivial
 intro b1 bl i1 br bc d4 j4 b2 cn b3 co b4 cp b5 cq b6 cr b7;obtain⟨d5,b2⟩:=b2;obtain⟨b8,b3⟩:=b3;obtain⟨d6,b4⟩:=b4;obtain⟨d7,b5⟩:=b5;obtain⟨i2,b6⟩:=b6;obtain⟨i3,b7⟩:=b7;obtain⟨a1,a8,rfl,f1⟩:=b2;have bm:=(Tt.cons (Tt.nil af br bc) d4 (j:=22) O f1).st;simp only[gZ,gQ] at bm;obtain rfl: .tuple #[a1,a8]=cn:=((by rw[b3.1,←d5];try rfl:cn= .tuple #[a1,a8])).symm;obtain rfl:a1=co:=((by rw[b4,←b8];try rfl:co=a1)).symm;obtain rfl:a8=cp:=((by rw[b5,←b8];try rfl:cp=a8)).symm;obtain rfl:a1=cq:=((by rw[b6,←d6];try rfl:cq=a1)).symm;obtain rfl:a8=cr:=((by rw[b7,←d7];try rfl:cr=a8)).symm;refine AU ?_;obtain⟨a0,ax,rfl,j5⟩:=bm.oslen (mt mh);refine DY (vs:=[(.slice a0 az.2.length ax)]) (cs':=[.string p0_w.b.C,an,vI p0_w.b.H,ao,ag,ap,aq,ar,au,av,vI p0_w.b.G,ah,ai,aj,ak,am,vI p0_w.s.A,d,g,(.slice a0 az.2.length ax),ac,t,u,y,ad,z]) O O O O ty_33.1 O bm (.tail (.tail (.tail .head))) O O λb9 d8 ca=>?_;have d9:=e4.trans ((SX.ext af.1 br (Wt bc)).trans ca);have j6:=a7.mono' d9;refine AU ?_;refine AK (λa w=>∃(a4:List (List Int)) (a5:List Int),IV B (SX S2 h b1 (UX bl)) b9 (123,[]) a w [(0,vP c 0)] (OS A3 121 (.slice a0 az.2.length ax) az.2::OS (BB.sl AB) 29 d a4::Bx c 160 [.string p0_w.b.C,an,vI p0_w.b.H,ao,ag,ap,aq,ar,au,av,vI p0_w.b.G,ah,ai,aj,ak,am,vI p0_w.s.A,d,g,(.slice a0 az.2.length ax),ac,t,u,y,ad,z]::OS AB 3 g p0_w.s.K::OS BK 106 ac p0_w.s.Q::OS AB 3 t p0_w.s.O::OS AB 3 u p0_w.s.N::OS BJ 74 y p0_w.moves::OS AB 3 ad a5::OS A3 121 z p0_w.sent::L) λ_ _=>Fd N p0_w az a4 a5=some r) ?_ ?_
 ·refine AY (λn1=>λa w=>∃(aw:Int) (a9:List (List Int)) (ba:List Int),IV B (SX S2 h b1 (UX bl)) b9 (123,[]) a w [(43,vI (↑p0_w.b.E.length:Int)),(2,a1),(0,vP c 0),(44,vI aw)] (OS (BB.sl AB) 29 a1 az.1::OS A3 121 (.slice a0 az.2.length ax) az.2::OS (BB.sl AB) 29 d a9::Bx c 160 [.string p0_w.b.C,an,vI p0_w.b.H,ao,ag,ap,aq,ar,au,av,vI p0_w.b.G,ah,ai,aj,ak,am,vI p0_w.s.A,d,g,(.slice a0 az.2.length ax),ac,t,u,y,ad,z]::OS AB 3 g p0_w.s.K::OS BK 106 ac p0_w.s.Q::OS AB 3 t p0_w.s.O::OS AB 3 u p0_w.s.N::OS BJ 74 y p0_w.moves::OS AB 3 ad ba::OS A3 121 z p0_w.sent::L) λ_ _=>AA aw∧D7 N p0_w az (Fd N p0_w az) n1 aw a9 ba=some r) N ?_ ?_ ?_
  ·intro aa ww hf hw;exact⟨0,p0_w.s.F,p0_w.peaks,_,_,hf.sub (kp [43,2,0,44] O),hw,d8,(B6.refl (SX S2 h b1 (UX bl)) b9),(iq (n:=0) O),E⟩
  ·rintro aa ww ⟨_,_,_,_,_,_,_,_,_,_,E⟩;rw[D7] at E;cases E
  rintro n1 aa ww ⟨aw,a9,ba,be,cb,hf,hw,ab,cs,cc,E⟩;refine AI ?_ hf hw;clear hf hw ww aa;rw[D7] at E;refine AU ?_;refine AF O E (λf2 E=>?_) (λf2 E=>?_)
  ·refine AU ?_;refine AZ (AU ?_);refine R6 (kp [4,43,2,0,44] O) ?_;obtain⟨j7,ea,E⟩:=bd E;obtain⟨ct,eb,E⟩:=bd E;obtain⟨j8,ec,E⟩:=bd E;obtain⟨cu,ed,E⟩:=bd E;obtain⟨cd,ee,E⟩:=bd E;obtain⟨j9,ef,E⟩:=bd E;refine My (m:=[(4,vI aw),(43,vI (↑p0_w.b.E.length:Int)),(2,a1),(0,vP c 0),(44,vI aw)]) 20 (λi v hh=>match i with|0=>v=vP c 0|1=>v=vP c 0|2=>v=vP c 16|3=>v=vP c 17|4=>v=d|5=>v=vI aw∧AA aw|6=>v=vP c 0|7=>v=vP c 0|8=>v=vP c 16|9=>v=vP c 17|10=>v=d|11=>v=vI aw∧AA aw|12=>EP d (aw.toNat*((BB.sl AB)).sz+0) v|13=>Sl be hh AB v ct|14=>v=a1|15=>v=vI aw∧AA aw|16=>EP a1 (aw.toNat*((BB.sl AB)).sz+0) v|17=>Sl be hh AB v cu|18=>Sl (SN be cb hh) hh AB v cd|19=>EP d (aw.toNat*((BB.sl AB)).sz+0) v|_=>False) [[],[(0,47)],[(1,48)],[(2,49)],[(3,50)],[],[],[(6,53)],[(7,54)],[(8,55)],[(9,56)],[],[(10,57),(11,58)],[(12,59)],[],[],[(14,61),(15,62)],[(16,63)],[(13,60),(17,64)],[(4,51),(5,52)]] [(18,65),(19,66)] mo (by kernel_rfl) [4,43,2,0,44] O (by kernel_rfl) (by kernel_rfl) (by kernel_rfl) (kp [4,43,2,0,44] O) (λi v h1 h2 o1 o2 hr=>?_) ?_ ?_
   ·match i,hr with
     |0,hr|1,hr|2,hr|3,hr|4,hr|5,hr|6,hr|7,hr|8,hr|9,hr|10,hr|11,hr|12,hr|14,hr|15,hr|16,hr|19,hr=>exact hr
     |13,hr|17,hr=>exact Sl.mono' hr (o2.ext λb hb=>gJ (ab.1 b hb) o1.siz)
     |18,hr=>exact Sl.mono' hr (SN.mono ab.1 o1 o2)
     |_+20,hr=>exact hr.elim
   ·refine AW.cons O ?_ ?_
    ·intro mq hh o;have V:=o.st ab;refine AU ?_;exact AL (CF.refl _) O
    refine AW.cons O ?_ ?_
    ·intro mq hh o;intro ka f3;have V:=o.st ab;cases f3;refine AU ?_;exact AL (CF.refl _) O
    refine AW.cons O ?_ ?_
    ·intro mq hh o;intro kb f4;have V:=o.st ab;cases f4;refine AU ?_;exact AL (CF.refl _) O
    refine AW.cons O ?_ ?_
    ·intro mq hh o;intro kc f5;have V:=o.st ab;cases f5;refine AU ?_;exact AL (CF.refl _) O
    refine AW.cons O ?_ ?_
    ·intro mq hh o;intro kd f6;have V:=o.st ab;cases f6;refine AU ?_;exact AL (CF.refl _) O
    refine AW.cons O ?_ ?_
    ·intro mq hh o;have V:=o.st ab;refine AU ?_;exact AL (CF.refl _) ⟨O,cc⟩
    refine AW.cons O ?_ ?_
    ·intro mq hh o;have V:=o.st ab;refine AU ?_;exact AL (CF.refl _) O
    refine AW.cons O ?_ ?_
    ·intro mq hh o;intro ke f7;have V:=o.st ab;cases f7;refine AU ?_;exact AL (CF.refl _) O
    refine AW.cons O ?_ ?_
    ·intro mq hh o;intro kf f8;have V:=o.st ab;cases f8;refine AU ?_;exact AL (CF.refl _) O
    refine AW.cons O ?_ ?_
    ·intro mq hh o;intro kg f9;have V:=o.st ab;cases f9;refine AU ?_;exact AL (CF.refl _) O
    refine AW.cons O ?_ ?_
    ·intro mq hh o;intro kh ga;have V:=o.st ab;cases ga;refine AU ?_;exact AL (CF.refl _) O
    refine AW.cons O ?_ ?_
    ·intro mq hh o;have V:=o.st ab;refine AU ?_;exact AL (CF.refl _) ⟨O,cc⟩
    refine AW.cons O ?_ ?_
    ·intro mq hh o;intro ki gb kj gc;have V:=o.st ab;cases gb;obtain⟨rfl,kk⟩:=gc;refine AU ?_;refine BT V (mt (mt mh)) O O sl_32.1 ea O λkl eg=>AU ?_;exact AL (CF.refl _) eg
    refine AW.cons O ?_ ?_
    ·intro mq hh o;intro km gd;have V:=o.st ab;refine AU ?_;have ge:=V.epAt (mt (mt mh)) eb Co.id gd;refine GN FC (λ_ x=>x) O ge ty_29.1 O λkn gf=>AU ?_;exact AL (CF.refl _) gf
    refine AW.cons O ?_ ?_
    ·intro mq hh o;have V:=o.st ab;refine AU ?_;exact AL (CF.refl _) O
    refine AW.cons O ?_ ?_
    ·intro mq hh o;have V:=o.st ab;refine AU ?_;exact AL (CF.refl _) ⟨O,cc⟩
    refine AW.cons O ?_ ?_
    ·intro mq hh o;intro ko gg kq gh;have V:=o.st ab;cases gg;obtain⟨rfl,kr⟩:=gh;refine AU ?_;refine BT V mh O O sl_32.1 ec O λks eh=>AU ?_;exact AL (CF.refl _) eh
    refine AW.cons O ?_ ?_
    ·intro mq hh o;intro kt gi;have V:=o.st ab;refine AU ?_;have gj:=V.epAt mh ed Co.id gi;refine GN FC (λ_ x=>x) O gj ty_29.1 O λku gk=>AU ?_;exact AL (CF.refl _) gk
    refine AW.cons O ?_ ?_
    ·intro mq hh o;intro gl bf gm bg;have V:=SN.st ab o;have bf:=Sl.mono' (S':=(SN be cb hh)) bf ⟨λb hb=> .inl hb,λ_ _=>rfl,gN _⟩;have bf:Sl _ _ AB gl ct:=bf;have bg:=Sl.mono' (S':=(SN be cb hh)) bg ⟨λb hb=> .inl hb,λ_ _=>rfl,gN _⟩;have bg:Sl _ _ AB gm cu:=bg;have ck:=V.fz;refine Cn O O O Vq O ck (Mc (St.all _) (bf.mono (λb hb=>ck.1 b hb) (λ_ _=>rfl)) (bg.mono (λb hb=>ck.1 b hb) (λ_ _=>rfl)) ee) λkv kw kx i4 gn gp p=>?_;have ei:=p;have ce:=ck.join gp ei ⟨OS.flat (λ{_ _ _ _ _ _} k=>k),trivial⟩;simp only[gZ,gQ] at ce;obtain⟨ky,ej,gq,gr⟩:=ce.pubs .head;have cf:=Fz.done o (gn.trans gq) ej;exact AL cf.1 (Sl.mono' gr cf.2)
    refine AW.cons O ?_ ?_
    ·intro mq hh o;intro kz gs k0 gt;have V:=o.st ab;cases gs;obtain⟨rfl,k1⟩:=gt;refine AU ?_;refine BT V (mt (mt mh)) O O sl_32.1 ef O λk2 ek=>AU ?_;exact AL (CF.refl _) ek
    exact trivial
   intro k3 cv gu cg k4 gw;have el:=SN.st ab cv;have cg:Sl _ _ AB gu cd:=cg;obtain⟨gx,em,E⟩:=bd E;refine De (r:=(BB.sl AB)) (l:=a9) (i:=aw) (x:=gx) O O (Nx cg) gw em MT.id ty_29.1 (λ_=>rfl) el (.tail (.tail .head)) λk5 a6 gy=>AU ?_;refine Ky 15 mo (by kernel_rfl) O a6 (AU ?_);obtain⟨k6,en,E⟩:=bd E;refine BT a6 (mt (mt mh)) O O sl_32.1 en O λk7 eo=>?_;obtain⟨k8,ep,E⟩:=bd E;have gz:=a6.epAt (mt (mt mh)) ep Co.id eo;refine GN Lr (λ_ x=>x) O gz ty_29.1 O λk9 g0=>?_;obtain⟨cw,eq,E⟩:=bd E;refine Kz O O O Ls O (λh' o=>Ci (St.all h') (g0.mono' (o.all a6.1)) eq) λg1=>?_;have g2:=g1;obtain⟨la,er,E⟩:=bd E;refine BT a6 (mt (mt (mt (mt (mt (mt (mt (mt (mt mh))))))))) O O sl_29.1 er O λlb es=>JW λlc eu g3=>?_;obtain⟨g4,ew,E⟩:=bd E;refine De (r:=AB) (l:=ba) (i:=aw) (x:=g4) O O (⟨_,O,O,g2⟩:Rd _ _ AB _ cw) es ew MT.id ty_3.1 (λ_=>rfl) eu (.tail (.tail (.tail (.tail (.tail (.tail (.tail (.tail (.tail .head))))))))) λlf ey g5=>AU ?_;refine BD (AU ?_);refine WF.nil (λaa ww hf hw=>?_);have ez:=cs.trans ((SN.ext ab.1 cv).trans (gy.trans (g3.trans g5)));exact⟨(BG (aw+1)),(upd a9 aw cd),(upd ba aw cw),_,_,hf.sub (kp [43,2,0,44] O),hw,ey,ez,(BF _),E⟩
  refine A8 O (λaa ww hf hw=>?_);have e0:=ab.sel [1,1,1,1,1,1,1,1,1,1] 1 O;exact⟨a9,ba,_,_,hf.sub (kp [0] O),hw,e0,cs,E⟩
 rintro aa ww ⟨a4,a5,cx,cy,hf,hw,e1,cz,E⟩;refine AI ?_ hf hw;clear hf hw ww aa;rw[Fd] at E;have e2:=e4.trans ((SX.ext af.1 br (Wt bc)).trans (ca.trans cz));have g6:=bu.mono' e2;refine AU ?_;refine AZ (AY (λn2=>λa w=>∃(a2:Int) (bb:List BE),IV B cx cy (123,[]) a w [(88,vI (↑p0_w.b.J.length:Int)),(87,ag),(0,vP c 0),(89,vI a2)] (OS A3 121 (.slice a0 az.2.length ax) az.2::OS (BB.sl AB) 29 d a4::Bx c 160 [.string p0_w.b.C,an,vI p0_w.b.H,ao,ag,ap,aq,ar,au,av,vI p0_w.b.G,ah,ai,aj,ak,am,vI p0_w.s.A,d,g,(.slice a0 az.2.length ax),ac,t,u,y,ad,z]::OS AB 3 g p0_w.s.K::OS BK 106 ac bb::OS AB 3 t p0_w.s.O::OS AB 3 u p0_w.s.N::OS BJ 74 y p0_w.moves::OS AB 3 ad a5::OS A3 121 z p0_w.sent::L) λ_ _=>AA a2∧Cs N p0_w az a4 a5 n2 a2 bb=some r) N ?_ ?_ ?_)
 ·intro aa ww hf hw;exact⟨0,p0_w.s.Q,_,_,hf.sub (kp [88,87,0,89] O),hw,e1,(B6.refl cx cy),(iq (n:=0) O),E⟩
 ·rintro aa ww ⟨_,_,_,_,_,_,_,_,_,E⟩;rw[Cs] at E;cases E
 rintro n2 aa ww ⟨a2,bb,g7,g8,hf,hw,ch,ci,lg,E⟩;refine AI ?_ hf hw;clear hf hw ww aa;rw[Cs] at E;refine AU ?_;refine AF O E (λg9 E=>?_) (λg9 E=>?_)
 ·refine AU ?_;refine AK (λa w=>∃(bs:List BE),IV B g7 g8 (123,[]) a w [(88,vI (↑p0_w.b.J.length:Int)),(87,ag),(0,vP c 0),(89,vI a2)] (OS A3 121 (.slice a0 az.2.length ax) az.2::OS (BB.sl AB) 29 d a4::Bx c 160 [.string p0_w.b.C,an,vI p0_w.b.H,ao,ag,ap,aq,ar,au,av,vI p0_w.b.G,ah,ai,aj,ak,am,vI p0_w.s.A,d,g,(.slice a0 az.2.length ax),ac,t,u,y,ad,z]::OS AB 3 g p0_w.s.K::OS BK 106 ac bs::OS AB 3 t p0_w.s.O::OS AB 3 u p0_w.s.N::OS BJ 74 y p0_w.moves::OS AB 3 ad a5::OS A3 121 z p0_w.sent::L) λ_ _=>Fb N a2 (Cs N p0_w az a4 a5 n2) bs=some r) ?_ ?_
  ·refine AU ?_;have ha:=g6.mono' ci;obtain⟨ae,e3,E⟩:=bd E;refine Hg O O ha sl_24.1 e3 O λlh hc=>?_;obtain⟨li,_,hd⟩:=hc.lv;refine AU ?_;refine CG NC O ch λlj ll e5 cj=>AU ?_;have he:=hd.mono cj;obtain⟨c0,c1,c2,rfl,hg,hi,hj,hk,c3,c4,c5,hl,hm,hn,ho,hp,hq,ht,hu,hv,hx,hy⟩:=Bu.ex he;refine Ld (vs:=[.string ae.C,vI ae.L,vI ae.D,vI ae.B,c0,c1,c2,vI ae.Ad,vI ae.Ar,vI ae.Au,vI ae.Av,vI ae.T,vI ae.S,vI ae.As,vI ae.At,vI ae.Ap,vI ae.Am,vI ae.M]) (cs':=[.string ae.C,vI ae.L,vI ae.D,vI ae.B,c0,c1,c2,vI ae.Ad,vI ae.Ar,vI ae.Au,vI ae.Av,vI ae.T,vI ae.S,vI ae.As,vI ae.At,vI ae.Ap,vI ae.Am,vI ae.M]) O O O (A4 O (A4 O (A4 O (A4 O (A4 c3.one (A4 c4.one (A4 c5.one (A4 O (A4 O (A4 O (A4 O (A4 O (A4 O (A4 O (A4 O (A4 O (A4 O (A4 O HB)))))))))))))))))) ty_117.1 O e5 .head O O λlm ay bh=>AU ?_;refine AF O E (λh0 E=>?_) (λh0 E=>?_)
   ·refine Ky 25 mo (by kernel_rfl) O ay (AU ?_);obtain⟨ln,e6,E⟩:=bd E;refine BT ay (mt (mt (mt (mt (mt mh))))) O O sl_34.1 e6 O λlo e7=>?_;obtain⟨lp,e8,E⟩:=bd E;have h3:=ay.epAt (mt (mt (mt (mt (mt mh))))) e8 Co.id e7;refine JJ Lr (λ_ x=>x) O h3 ty_106.1 (λe=>by cases e) O λlq h4=>AU ?_;obtain⟨lr,e9,E⟩:=bd E;refine BT ay (mt (mt (mt (mt (mt (mt (mt (mt (mt mh))))))))) O O sl_29.1 e9 O λls fa=>?_;obtain⟨lt,fb,E⟩:=bd E;have h5:=ay.epAt (mt (mt (mt (mt (mt (mt (mt (mt (mt mh))))))))) fb Co.id fa;refine C8 Lr (λ_ x=>x) O h5 ty_3.1 O λh6=>?_;have h7:=c3.mono' bh;have h8:=c4.mono' bh;have h9:=c5.mono' bh;obtain⟨c6,fc,E⟩:=bd E;refine Kz O O O Zp O (λh' o=>Px (St.all h') (Bu.mk (x:=ae) hg hi hj hk (h7.mono' (o.all ay.1)) (h8.mono' (o.all ay.1)) (h9.mono' (o.all ay.1)) hl hm hn ho hp hq ht hu hv hx hy) (h4.mono (o.all ay.1)) h6 fc) λia=>?_;obtain⟨ib,ic⟩:=ia;obtain⟨lu,fd,E⟩:=bd E;refine BT ay (mt (mt (mt (mt (mt mh))))) O O sl_34.1 fd O λlw fe=>JW λlx ff ie=>?_;obtain⟨ig,fg,E⟩:=bd E;refine De (r:=BK) (l:=bb) (i:=a2) (x:=ig) O O (BK.mk (x:=c6) ⟨ib,ic⟩) fe fg MT.id ty_106.1 (λe=>by cases e) ff (.tail (.tail (.tail (.tail (.tail .head))))) λly fh ih=>AU ?_;refine WF.nil (λaa ww hf hw=>?_);have fi:=fh.sel [1,1,1,1,1,1,1,1,1,1] 1 O;have fj:=cj.trans (bh.trans (ie.trans ih));exact⟨(upd bb a2 c6),_,_,hf.sub (kp [88,87,0,89] O),hw,fi,fj,E⟩
   refine AU ?_;refine WF.nil (λaa ww hf hw=>?_);have fk:=ay.sel [1,1,1,1,1,1,1,1,1,1] 1 O;exact⟨bb,_,_,hf.sub (kp [88,87,0,89] O),hw,fk,(cj.trans bh),E⟩
  rintro aa ww ⟨bs,lz,l0,hf,hw,fm,ii,E⟩;refine AI ?_ hf hw;clear hf hw ww aa;rw[Fb] at E;refine AU ?_;refine WF.nil (λaa ww hf hw=>?_);exact⟨(BG (a2+1)),bs,_,_,hf.sub (kp [88,87,0,89] O),hw,fm,(ci.trans ii),(BF _),E⟩
 refine JI O (WF.nil (λaa ww hf hw=>?_));have fn:=ch.sel [2,1,1,0,0,0,0,0,0,0] 0 O;cases E;have fo:=e4.trans ((SX.ext af.1 br (Wt bc)).trans (ca.trans (cz.trans ci)));exact Hk hf O hw Hj O fo ⟨_,_,_,_,O,fn⟩
end Go.Proofs.YtedgiljmffngoaaGreat
