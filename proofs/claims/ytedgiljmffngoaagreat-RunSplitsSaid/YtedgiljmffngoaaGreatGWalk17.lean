import Derived.Test.YtedgiljmffngoaaGreatGInst
import Derived.Test.YtedgiljmffngoaaGreatGForms
import Derived.Test.YtedgiljmffngoaaGreatGWalk1
import Derived.Test.YtedgiljmffngoaaGreatGWalk14
import Derived.Test.YtedgiljmffngoaaGreatGWalk8
import Derived.Test.YtedgiljmffngoaaGreatGWalk11
namespace Go.Proofs.YtedgiljmffngoaaGreat
set_option linter.all false
open Go.RowKit
open Go.Proofs.Tryz
set_option maxRecDepth 10000
set_option maxHeartbeats 2000000
variable {N:Nat}{S:Nat→Prop}{L:List HP}{h:AW}
def N8 (hs:St S L h) {ai:Value}{k:AF}(a3:Rd S h BO ai k) {r:Bool}(E:HY N k=some r):
 B0 prog 180 #[ai] S h (λv S' h'=>v= .bool r∧St S' (L) h'):=by
 refine BA 128 func180 O ntmps180 O λB=>?_;rw[HY] at E;refine AU ?_;refine By O a3 CE O hs λq1 S2 h3 fp e5 k6=>AU ?_;obtain⟨dk,E⟩:=LA E;refine Jt (r:=AB) (zx:=0) IU O ⟨O,by unfold AA;omega⟩ O O dk O O fp λq bo dl fq=>?_;have dm:=k6.mono fq;have fr:=dm.fl B4;obtain⟨fs,_,ft⟩:=fr.ll;refine AU ?_;refine AO (λa w=>∃(a4:List Int),IV B S2 bo (128,[]) a w [(3,q),(1,q1)] (OS AB 3 q a4::L) λ_ _=>Dd N k a4=some r) ?_ ?_
 ·refine A4 (λn1=>λa w=>∃(ah:Int) (an:List Int),IV B S2 bo (128,[]) a w [(16,vI (↑k.A.length:Int)),(15,fs),(3,q),(1,q1),(17,vI ah)] (OS AB 3 q an::L) λ_ _=>AA ah∧Db N k (Dd N k) n1 ah an=some r) N ?_ ?_ ?_
  ·intro t u d g;exact⟨0,(List.replicate ((↑k.A.length:Int):Int).toNat (0:Int)),_,_,d.sub (kp [16,15,3,1,17] O),g,dl,(CB.refl S2 bo),(iq (n:=0) O),E⟩
  ·rintro t u ⟨_,_,_,_,_,_,_,_,_,E⟩;rw[Db] at E;cases E
  rintro n1 t u ⟨ah,an,jq,jr,d,g,a8,dn,js,E⟩;refine AJ ?_ d g;clear d g u t;rw[Db] at E;refine AU ?_;refine AH O E (λfu E=>?_) (λfu E=>?_)
  ·refine AU ?_;refine A5 (AU ?_);have fv:=ft.mono' dn;refine AZ E O O fv sl_23.1 O λjt E ju fw=>?_;obtain⟨jv,_,fx⟩:=fw.lv;refine AU ?_;refine CO Mw O a8 λjw jx dp fy=>AU ?_;have f0:=fx.mono fy;obtain⟨jy,jz,j0,rfl,j1,j2,j3,j4,j5,j6,f1,f2,j7,j8,j9,ka⟩:=B9.ex f0;refine Dk O O O ON ty_101.1 O dp .head O λkb dq kc=>AU ?_;refine Bw (AU ?_);refine Cc E O O O Qn O dq (λbp dr=>IH (St.all _) f1 f2 dr) λbp E kd ke kf a9 kg kh p=>?_;obtain⟨rfl,f3,ge⟩:=p;refine AU ?_;obtain⟨ki,ds,E⟩:=bd E;refine BR a9 (mt mh) O O sl_29.1 ds O λkj dt=>AU ?_;obtain⟨f4,du,E⟩:=bd E;refine FM (r:=AB) (l:=an) (i:=ah) (x:=f4) O O (⟨_,O,O,f3⟩:Rd _ _ AB _ bp) dt du NM.id ty_3.1 (λ_=>rfl) a9 (.tail .head) λkk dv kl=>AU ?_;refine BE (AU ?_);refine WF.nil (λt u d g=>?_);have dw:=dv.sel [1] 1 O;exact⟨(BD (ah+1)),(upd an ah bp),_,_,d.sub (kp [16,15,3,1,17] O),g,dw,EX,(BI _),E⟩
  refine BC O (λt u d g=>?_);exact⟨an,_,_,d.sub (kp [3,1] O),g,a8,dn,E⟩
 rintro t u ⟨a4,bq,br,d,g,dx,f5,E⟩;refine AJ ?_ d g;clear d g u t;rw[Dd] at E;have f6:=dm.mono f5;have f7:=f6.fl Gh;obtain⟨ap,_,f8⟩:=f7.ll;refine AU ?_;refine AO (λa w=>∃(ao:List Int),IV B bq br (128,[]) a w [(3,q)] (OS AB 3 q ao::L) λ_ _=>CZ N ao=some r) ?_ ?_
 ·refine A4 (λn3=>λa w=>∃(V:Int) (y:List Int),IV B bq br (128,[]) a w [(33,vI (↑k.E.length:Int)),(32,ap),(3,q),(34,vI V)] (OS AB 3 q y::L) λ_ _=>AA V∧BU N k (CZ N) n3 V y=some r) N ?_ ?_ ?_
  ·intro t u d g;exact⟨0,a4,_,_,d.sub (kp [33,32,3,34] O),g,dx,(CB.refl bq br),(iq (n:=0) O),E⟩
  ·rintro t u ⟨_,_,_,_,_,_,_,_,_,E⟩;rw[BU] at E;cases E
  rintro n3 t u ⟨V,y,D,dy,d,g,aq,ba,km,E⟩;refine AJ ?_ d g;clear d g u t;rw[BU] at E;refine AU ?_;refine AH O E (λdz E=>?_) (λdz E=>?_)
  ·refine AU ?_;refine AO (λa w=>∃(aj:List Int),IV B D dy (128,[]) a w [(33,vI (↑k.E.length:Int)),(32,ap),(3,q),(34,vI V)] (OS AB 3 q aj::L) λ_ _=>CL N V (BU N k (CZ N) n3) aj=some r) ?_ ?_
   ·refine AU ?_;have d0:=f8.mono' ba;refine AZ E O O d0 sl_24.1 O λc E gf d1=>?_;obtain⟨gg,_,d2⟩:=d1.lv;refine AU ?_;refine CO OD O aq λz gh bs d3=>?_;have d4:=d2.mono d3;obtain⟨bb,bc,be,rfl,gi,gj,gl,gm,d5,d6,d7,gn,gp,gq,gr,bf,bg,gs,gt,bh,bi,gu⟩:=BZ.ex d4;refine Dk O O O ON ty_117.1 O bs .head O λG j gv=>AU ?_;refine A5 (AU ?_);refine AH O E (λd8 E=>?_) (λd8 E=>?_)
    ·refine AU ?_;obtain⟨gw,bt,E⟩:=bd E;obtain⟨K,bu,E⟩:=bd E;obtain⟨M,bv,E⟩:=bd E;obtain⟨gx,bw,E⟩:=bd E;refine Mt (m:=[(7,vP z 0),(33,vI (↑k.E.length:Int)),(32,ap),(3,q),(34,vI V)]) 17 (λi v hh=>match i with|0=>v=q|1=>v=vP z 2|2=>v=vI c.J∧AA c.J|3=>EP q (c.J.toNat*(AB).sz+0) v|4=>v=vI K∧AA K|5=>v=vP z 4|6=>Sl D hh B3 v c.Av|7=>v=vP z 5|8=>v=vP z 5|9=>Sl D hh B3 v c.Af.Ay|10=>v=vP z 5|11=>v=vP z 6|12=>Sl D hh B3 v c.Af.Az|13=>Sl (SN D G hh) hh (A7.sl B3) v ([c.Av,c.Af.Ay,c.Af.Az]:List (List BS))∧∃ad,v= .slice (some ad) 3 3|14=>v=vI M∧AA M|15=>v=vI (BD (K+M))∧AA (BD (K+M))|16=>EP q (c.J.toNat*(AB).sz+0) v|_=>False) [[],[],[(1,43)],[(0,42),(2,44)],[(3,45)],[],[(5,47)],[],[(7,49)],[(8,50)],[],[(10,52)],[(11,53)],[(6,48),(9,51),(12,54)],[(13,55)],[(4,46),(14,56)],[(0,42),(2,44)]] [(15,57),(16,58)] mo (by kernel_rfl) [7,33,32,3,34] O (by kernel_rfl) (by kernel_rfl) (by kernel_rfl) (kp [7,33,32,3,34] O) MO ?_ ?_
     ·refine AQ.cons O EH (AQ.cons O EH (AQ.cons O EH (AQ.cons O ?_ ?_)))
      ·intro mq hh o;intro gy d9 gz eb;have H:=o.st j;cases d9;obtain⟨rfl,g0⟩:=eb;refine AU ?_;refine BR H (mt mh) O O sl_29.1 bt O λg1 bx=>AU ?_;exact AS bx
      refine AQ.cons O ?_ ?_
      ·intro mq hh o;intro g2 ec;have H:=o.st j;refine AU ?_;have ed:=H.epAt (mt mh) bu FW.id ec;refine F8 K9 (λ_ x=>x) O ed ty_3.1 O λee=>AU ?_;exact AS ⟨O,ee⟩
      refine AQ.cons O EH (AQ.cons O ?_ ?_)
      ·intro mq hh o;intro g3 ef;have H:=o.st j;cases ef;refine AU ?_;have eg:=d5.nw;exact AS eg
      refine AQ.cons O EH (AQ.cons O EH (AQ.cons O ?_ ?_))
      ·intro mq hh o;intro g4 eh;have H:=o.st j;cases eh;refine AU ?_;have ei:=d6.nw;exact AS ei
      refine AQ.cons O EH (AQ.cons O EH (AQ.cons O ?_ ?_))
      ·intro mq hh o;intro g5 ej;have H:=o.st j;cases ej;refine AU ?_;have ek:=d7.nw;exact AS ek
      refine AQ.cons O ?_ ?_
      ·intro mq hh o;intro el X em Z en ab;have H:=SN.st j o;have X:=Sl.sn G X;have X:Sl _ _ B3 el c.Av:=X;have Z:=Sl.sn G Z;have Z:Sl _ _ B3 em c.Af.Ay:=Z;have ab:=Sl.sn G ab;have ab:Sl _ _ B3 en c.Af.Az:=ab;have f9:=H.fz;obtain⟨bz,a5,rfl,g6⟩:=(X).len;obtain⟨b0,a6,rfl,g7⟩:=(Z).len;obtain⟨b1,a7,rfl,g8⟩:=(ab).len;refine FO (cs:=[(.slice bz c.Av.length a5),(.slice b0 c.Af.Ay.length a6),(.slice b1 c.Af.Az.length a7)]) jM O O O O O O O f9 λg9 ha b2 ar=>?_;have eo:=ab.mono' ar;have ep:=Z.mono' ar;have eq:=X.mono' ar;have b3:=b2.bxos (r:=(A7.sl B3)) (l:=([c.Av,c.Af.Ay,c.Af.Az]:List (List BS))) .head ⟨_,_,O,⟨_,O,eq⟩,⟨_,_,O,⟨_,O,ep⟩,⟨_,_,O,⟨_,O,eo⟩,O⟩⟩⟩ (by simp [maxLen]);obtain⟨hc,b4,hd,er⟩:=b3.pubs .head;have au:=Fz.done o EX b4;exact A9 au.1 ⟨Sl.mono' er au.2,_,O⟩
      refine AQ.cons O ?_ ?_
      ·intro mq hh o;intro he av;have H:=SN.st j o;obtain⟨av,ga,rfl⟩:=av;refine E6 O O O kI O H (Pn (St.all _) (av.mono H.ea.1 H.ea.2) bv) λhg hi hj gb hk bj p=>?_;obtain⟨rfl,es,gc⟩:=p;exact A9 ⟨bj.siz,λb hb=>bj.same b hb⟩ ⟨O,es⟩
      refine AQ.cons O EH (AQ.cons O ?_ ?_)
      ·intro mq hh o;intro hl eu hm ev;have H:=o.st j;cases eu;obtain⟨rfl,hn⟩:=ev;refine AU ?_;refine BR H (mt mh) O O sl_29.1 bw O λho b5=>AU ?_;exact AS b5
      exact trivial
     intro hp ew hq ey hr ez;have b6:=SN.st j ew;obtain⟨rfl,e0⟩:=ey;obtain⟨e1,b7,E⟩:=bd E;refine FM (r:=AB) (l:=y) (i:=c.J) (x:=e1) O O (⟨_,O,O,e0⟩:Rd _ _ AB _ (BD (K+M))) ez b7 NM.id ty_3.1 (λ_=>rfl) b6 (.tail .head) λht W hu=>AU ?_;refine AH O E (λe2 E=>?_) (λe2 E=>?_)
     ·refine Lo 12 mo (by kernel_rfl) O W (AU ?_);obtain⟨hv,b8,E⟩:=bd E;refine BR W (mt mh) O O sl_29.1 b8 O λhx b9=>?_;obtain⟨bk,ca,E⟩:=bd E;have e3:=W.epAt (mt mh) ca FW.id b9;refine F8 NI (λ_ x=>x) O e3 ty_3.1 O λhy=>AU ?_;refine CA E O O O Qn O (λaw cb h' o=>IH (St.all h') bh bi cb) λaw E e4=>?_;have hz:=e4;refine AU ?_;obtain⟨h0,cc,E⟩:=bd E;refine BR W (mt mh) O O sl_29.1 cc O λh1 cd=>KD λh2 ce h4=>?_;obtain⟨e6,cf,E⟩:=bd E;refine FM (r:=AB) (l:=(upd y c.J (BD (K+M)))) (i:=c.C) (x:=e6) O O (⟨_,O,O,(BI _)⟩:Rd _ _ AB _ (BD (bk+aw))) cd cf NM.id ty_3.1 (λ_=>rfl) ce (.tail .head) λh5 cg h6=>AU ?_;refine BE (WF.nil (λt u d g=>?_));have ch:=cg.sel [1] 1 O;exact⟨(upd (upd y c.J (BD (K+M))) c.C (BD (bk+aw))),_,_,d.sub (kp [33,32,3,34] O),g,ch,EX,E⟩
     refine AU ?_;refine BE (WF.nil (λt u d g=>?_));have ci:=W.sel [1] 1 O;exact⟨(upd y c.J (BD (K+M))),_,_,d.sub (kp [33,32,3,34] O),g,ci,EX,E⟩
    refine AU ?_;refine Gq (λa w=>∃(ax:Bool),IV B D G (128,[]) a w [(39,vI c.F),(7,vP z 0),(33,vI (↑k.E.length:Int)),(32,ap),(3,q),(34,vI V),(74,.bool ax)] (Bx z 117 [.string c.I,vI c.F,vI c.J,vI c.C,bb,bc,be,vI c.U,vI c.Ac,vI c.Bb,vI c.Bc,vI c.Y,vI c.S,vI c.Aw,vI c.Ax,vI c.Ar,vI c.Al,vI c.Q]::OS AB 3 q y::L) λ_ _=>Dc N y c (CL N V (BU N k (CZ N) n3)) ax=some r) ?_ ?_
    ·refine AH O E (λe7 E=>?_) (λe7 E=>?_)
     ·refine AU ?_;refine WF.nil (λt u d g=>?_);exact⟨(decide (c.F=1)),_,_,d.sub (kp [39,7,33,32,3,34,74] O),g,j,(CB.refl D G),E⟩
     refine AU ?_;refine Gq (λa w=>∃(ak:Bool),IV B D G (128,[]) a w [(39,vI c.F),(7,vP z 0),(33,vI (↑k.E.length:Int)),(32,ap),(3,q),(34,vI V),(74,.bool ak)] (Bx z 117 [.string c.I,vI c.F,vI c.J,vI c.C,bb,bc,be,vI c.U,vI c.Ac,vI c.Bb,vI c.Bc,vI c.Y,vI c.S,vI c.Aw,vI c.Ax,vI c.Ar,vI c.Al,vI c.Q]::OS AB 3 q y::L) λ_ _=>Hf N (Dc N y c (CL N V (BU N k (CZ N) n3))) ak=some r) ?_ ?_
     ·refine AH O E (λe8 E=>?_) (λe8 E=>?_)
      ·refine AU ?_;refine WF.nil (λt u d g=>?_);exact⟨(decide (c.F=5)),_,_,d.sub (kp [39,7,33,32,3,34,74] O),g,j,(CB.refl D G),E⟩
      refine AU ?_;refine WF.nil (λt u d g=>?_);exact⟨(decide (c.F=3)),_,_,d.sub (kp [39,7,33,32,3,34,74] O),g,j,(CB.refl D G),E⟩
     rintro t u ⟨ak,h7,h8,d,g,cj,e9,E⟩;refine AJ ?_ d g;clear d g u t;rw[Hf] at E;refine WF.nil (λt u d g=>?_);exact⟨ak,_,_,d.sub (kp [39,7,33,32,3,34,74] O),g,cj,e9,E⟩
    rintro t u ⟨ax,h9,ia,d,g,s,ib,E⟩;refine AJ ?_ d g;clear d g u t;rw[Dc] at E;refine AH O E (λfa E=>?_) (λfa E=>?_)
    ·refine Lo 12 mo (by kernel_rfl) O s (AU ?_);obtain⟨ic,ck,E⟩:=bd E;refine BR s (mt mh) O O sl_29.1 ck O λie cl=>?_;obtain⟨bl,cm,E⟩:=bd E;have fb:=s.epAt (mt mh) cm FW.id cl;refine F8 NI (λ_ x=>x) O fb ty_3.1 O λig=>AU ?_;refine CA E O O O Qn O (λay cn h' o=>IH (St.all h') bf bg cn) λay E fc=>?_;have ih:=fc;refine AU ?_;obtain⟨ii,co,E⟩:=bd E;refine BR s (mt mh) O O sl_29.1 co O λij cp=>KD λik cq il=>?_;obtain⟨fd,cr,E⟩:=bd E;refine FM (r:=AB) (l:=y) (i:=c.J) (x:=fd) O O (⟨_,O,O,(BI _)⟩:Rd _ _ AB _ (BD (bl+ay))) cp cr NM.id ty_3.1 (λ_=>rfl) cq (.tail .head) λim ct io=>AU ?_;refine BE (WF.nil (λt u d g=>?_));have cu:=ct.sel [1] 1 O;exact⟨(upd y c.J (BD (bl+ay))),_,_,d.sub (kp [33,32,3,34] O),g,cu,EX,E⟩
    refine AU ?_;refine AH O E (λfe E=>?_) (λfe E=>?_)
    ·refine AU ?_;refine Lo 13 mo (by kernel_rfl) O s (AU ?_);obtain⟨ip,cv,E⟩:=bd E;refine BR s (mt mh) O O sl_29.1 cv O λir cw=>?_;obtain⟨az,cx,E⟩:=bd E;have ff:=s.epAt (mt mh) cx FW.id cw;refine F8 NI (λ_ x=>x) O ff ty_3.1 O λit=>AU ?_;refine CA E O O O Qn O (λam cy h' o=>IH (St.all h') bf bg cy) λam E fg=>?_;have iu:=fg;refine AU ?_;obtain⟨iv,cz,E⟩:=bd E;refine BR s (mt mh) O O sl_29.1 cz O λiw c0=>KD λiy c1 iz=>?_;obtain⟨fh,c2,E⟩:=bd E;refine FM (r:=AB) (l:=y) (i:=c.J) (x:=fh) O O (⟨_,O,O,(BI _)⟩:Rd _ _ AB _ (BD (az+(BD (2*am))))) c0 c2 NM.id ty_3.1 (λ_=>rfl) c1 (.tail .head) λi0 ac i1=>AU ?_;refine Lo 13 mo (by kernel_rfl) O ac (AU ?_);obtain⟨i2,c3,E⟩:=bd E;refine BR ac (mt mh) O O sl_29.1 c3 O λi3 c4=>?_;obtain⟨bm,c5,E⟩:=bd E;have fi:=ac.epAt (mt mh) c5 FW.id c4;refine F8 NI (λ_ x=>x) O fi ty_3.1 O λi4=>AU ?_;refine CA E O O O Qn O (λa0 c6 h' o=>IH (St.all h') bh bi c6) λa0 E fj=>?_;have i5:=fj;refine AU ?_;obtain⟨i6,c7,E⟩:=bd E;refine BR ac (mt mh) O O sl_29.1 c7 O λi7 c8=>KD λi8 c9 i9=>?_;obtain⟨fk,da,E⟩:=bd E;refine FM (r:=AB) (l:=(upd y c.J (BD (az+(BD (2*am)))))) (i:=c.C) (x:=fk) O O (⟨_,O,O,(BI _)⟩:Rd _ _ AB _ (BD (bm+(BD (2*a0))))) c8 da NM.id ty_3.1 (λ_=>rfl) c9 (.tail .head) λja db jb=>AU ?_;refine BE (WF.nil (λt u d g=>?_));have dc:=db.sel [1] 1 O;exact⟨(upd (upd y c.J (BD (az+(BD (2*am))))) c.C (BD (bm+(BD (2*a0))))),_,_,d.sub (kp [33,32,3,34] O),g,dc,EX,E⟩
    refine AU ?_;refine BE (WF.nil (λt u d g=>?_));have dd:=s.sel [1] 1 O;exact⟨y,_,_,d.sub (kp [33,32,3,34] O),g,dd,EX,E⟩
   rintro t u ⟨aj,jc,jd,d,g,de,je,E⟩;refine AJ ?_ d g;clear d g u t;rw[CL] at E;refine AU ?_;refine WF.nil (λt u d g=>?_);exact⟨(BD (V+1)),aj,_,_,d.sub (kp [33,32,3,34] O),g,de,EX,(BI _),E⟩
  refine BC O (λt u d g=>?_);exact⟨y,_,_,d.sub (kp [3] O),g,aq,ba,E⟩
 rintro t u ⟨ao,a1,a2,d,g,df,jf,E⟩;refine AJ ?_ d g;clear d g u t;rw[CZ] at E;refine AU ?_;refine AO (λa w=>IV B a1 a2 (128,[]) a w [] (L) λ_ _=>FJ N=some r) ?_ ?_
 ·refine A4 (λn8=>λa w=>∃(ag:Int),IV B a1 a2 (128,[]) a w [(120,vI (↑ao.length:Int)),(119,q),(121,vI ag)] (OS AB 3 q ao::L) λ_ _=>AA ag∧Da N ao (FJ N) n8 ag=some r) N ?_ ?_ ?_
  ·intro t u d g;exact⟨0,_,_,d.sub (kp [120,119,121] O),g,df,(CB.refl a1 a2),(iq (n:=0) O),E⟩
  ·rintro t u ⟨_,_,_,_,_,_,_,_,E⟩;rw[Da] at E;cases E
  rintro n8 t u ⟨ag,jg,jh,d,g,af,bn,ji,E⟩;refine AJ ?_ d g;clear d g u t;rw[Da] at E;refine AU ?_;refine AH O E (λfm E=>?_) (λfm E=>?_)
  ·refine AU ?_;refine A5 (AU ?_);obtain⟨jj,dg,E⟩:=bd E;refine BR af mh O O sl_29.1 dg O λjk dh=>?_;obtain⟨jl,di,E⟩:=bd E;have fn:=af.epAt mh di FW.id dh;refine F8 K9 (λ_ x=>x) O fn ty_3.1 O λjm=>AU ?_;refine AH O E (λfo E=>?_) (λfo E=>?_)
   ·exact RT
   refine AU ?_;refine BE (AU ?_);refine WF.nil (λt u d g=>?_);exact⟨(BD (ag+1)),_,_,d.sub (kp [120,119,121] O),g,af,bn,(BI _),E⟩
  refine BC O (λt u d g=>?_);have dj:=af.drop .head;exact⟨_,_,d.sub NA,g,dj,bn,E⟩
 rintro t u ⟨jn,jo,d,g,gd,jp,E⟩;refine AJ ?_ d g;clear d g u t;rw[FJ] at E;exact RT
def Od (hs:St S L h) {q:Value}{b:AF}(u:Rd S h BO q b) {r:Bool}(E:Hz N b=some r):
 B0 prog 181 #[q] S h (λv S' h'=>v= .bool r∧St S' (L) h'):=by
 refine BA 64 func181 O ntmps181 O λB=>?_;rw[Hz] at E;refine AU ?_;refine By O u CE O hs λq1 S2 h3 ax e5 k6=>?_;have k8:=k6.fl Jc;obtain⟨v9,_,ay⟩:=k8.ll;refine AU ?_;refine AO (λa w=>IV B S2 h3 (64,[]) a w [(1,q1)] (L) λ_ _=>Dt N b=some r) ?_ ?_
 ·refine A4 (λn1=>λa w=>∃(s:Int),IV B S2 h3 (64,[]) a w [(9,vI (↑b.Ab.length:Int)),(8,v9),(1,q1),(10,vI s)] (L) λ_ _=>AA s∧Dr N b (Dt N b) n1 s=some r) N ?_ ?_ ?_
  ·intro m p k l;exact⟨0,_,_,k.sub (kp [9,8,1,10] O),l,ax,(CB.refl S2 h3),(iq (n:=0) O),E⟩
  ·rintro m p ⟨_,_,_,_,_,_,_,_,E⟩;rw[Dr] at E;cases E
  rintro n1 m p ⟨s,b9,ca,k,l,x,I,cb,E⟩;refine AJ ?_ k l;clear k l p m;rw[Dr] at E;refine AU ?_;refine AH O E (λaz E=>?_) (λaz E=>?_)
  ·refine AU ?_;refine A5 (AU ?_);have a0:=ay.mono' I;refine AZ E O O a0 sl_25.1 O λcc E cd a1=>?_;obtain⟨ce,_,a2⟩:=a1.lv;refine AU ?_;refine CO Yf O x λcf cg J a3=>?_;have a4:=a2.mono a3;obtain⟨rfl,⟨ch,a5,a6,a7,a8,a9,ba⟩⟩:=HL.ex a4;refine Cu O O O O ty_139.1 O J .head O λci K cj=>AU ?_;refine BX (.inl O) K ?_;have bb:=k6.nw;have bc:=bb.fl B4;obtain⟨ck,_,be⟩:=bc.ll;have bf:=be.le;refine AU ?_;refine A8 E O O O Ph O (λM Q h' o=>HT (St.all h') a5 (Je bf) Q) λM E=>AU ?_;obtain⟨U,c,E⟩:=bd E;refine AY 5 26 (.bool U) ?_ ?_
   ·cases V:(!M)
    ·have c:=GW V c;refine AU ?_;refine A8 c O O O JN O (λbg W h' o=>CH (St.all h') a6 W) λbg c=>AU ?_;cases c;exact A0 O
    have c:=GV V c;cases c;exact BF O O
   refine AU ?_;obtain⟨X,d,E⟩:=bd E;refine AY 5 32 (.bool X) ?_ ?_
   ·cases Y:U
    ·have d:=GW Y d;refine AU ?_;refine A8 d O O O G3 O (λbh Z h' o=>B8 (St.all h') a7 (iq (n:=0) O) (iq (n:=24) O) Z) λbh d=>AU ?_;cases d;exact A0 O
    have d:=GV Y d;cases d;exact BF O O
   refine AU ?_;obtain⟨ab,g,E⟩:=bd E;refine AY 5 38 (.bool ab) ?_ ?_
   ·cases ac:X
    ·have g:=GW ac g;refine AU ?_;refine A8 g O O O G3 O (λbi ad h' o=>B8 (St.all h') a8 (iq (n:=0) O) (iq (n:=1073741824) O) ad) λbi g=>AU ?_;cases g;exact A0 O
    have g:=GV ac g;cases g;exact BF O O
   refine AU ?_;obtain⟨ae,i,E⟩:=bd E;refine AY 5 44 (.bool ae) ?_ ?_
   ·cases af:ab
    ·have i:=GW af i;refine AU ?_;refine A8 i O O O JN O (λbj ag h' o=>CH (St.all h') a9 ag) λbj i=>AU ?_;cases i;exact A0 O
    have i:=GV af i;cases i;exact BF O O
   refine AU ?_;obtain⟨bk,j,E⟩:=bd E;refine AY 5 50 (.bool bk) ?_ ?_
   ·cases ah:ae
    ·have j:=GW ah j;refine AU ?_;refine A8 j O O O G3 O (λbl ai h' o=>B8 (St.all h') ba (iq (n:=0) O) (iq (n:=128) O) ai) λbl j=>AU ?_;cases j;exact A0 O
    have j:=GV ah j;cases j;exact BF O O
   refine BK (kp [50,9,8,1,10] O) λcl aj cm=>AH O E (λbm E=>?_) (λbm E=>?_)
   ·exact RT
   refine AU ?_;refine BE (AU ?_);refine WF.nil (λm p k l=>?_);have ak:=aj.drop .head;exact⟨(BD (s+1)),_,_,k.sub (kp [9,8,1,10] O),l,ak,EX,(BI _),E⟩
  refine BC O (λm p k l=>?_);exact⟨_,_,k.sub (kp [1] O),l,x,I,E⟩
 rintro m p ⟨z,A,k,l,am,bn,E⟩;refine AJ ?_ k l;clear k l p m;rw[Dt] at E;have bo:=k6.mono bn;have bp:=bo.fl JR;obtain⟨bq,_,br⟩:=bp.ll;refine AU ?_;refine AO (λa w=>IV B z A (64,[]) a w [] (L) λ_ _=>Fg N=some r) ?_ ?_
 ·refine A4 (λn3=>λa w=>∃(t:Int),IV B z A (64,[]) a w [(54,vI (↑b.Ag.length:Int)),(53,bq),(55,vI t)] (L) λ_ _=>AA t∧Dq N b (Fg N) n3 t=some r) N ?_ ?_ ?_
  ·intro m p k l;exact⟨0,_,_,k.sub (kp [54,53,55] O),l,am,(CB.refl z A),(iq (n:=0) O),E⟩
  ·rintro m p ⟨_,_,_,_,_,_,_,_,E⟩;rw[Dq] at E;cases E
  rintro n3 m p ⟨t,cn,co,k,l,y,an,cp,E⟩;refine AJ ?_ k l;clear k l p m;rw[Dq] at E;refine AU ?_;refine AH O E (λbs E=>?_) (λbs E=>?_)
  ·refine AU ?_;refine A5 (AU ?_);have bt:=br.mono' an;refine AZ E O O bt sl_28.1 O λbv E bw ao=>?_;obtain⟨bx,_,ap⟩:=ao.lv;refine AU ?_;refine CO Yd O y λbz b0 C aq=>?_;have ar:=ap.mono aq;obtain⟨rfl,⟨b1,au⟩⟩:=DB.ex ar;refine Cu O O O O ty_215.1 O C .head O λb2 D b3=>AU ?_;refine BX (.inl O) D (AU ?_);refine A8 E O O O G3 O (λav F h' o=>B8 (St.all h') au (iq (n:=0) O) (iq (n:=1073741824) O) F) λav E=>AU ?_;refine BK (kp [62,54,53,55] O) λb4 G b5=>AH O E (λaw E=>?_) (λaw E=>?_)
   ·exact RT
   refine AU ?_;refine BE (AU ?_);refine WF.nil (λm p k l=>?_);have H:=G.drop .head;exact⟨(BD (t+1)),_,_,k.sub (kp [54,53,55] O),l,H,EX,(BI _),E⟩
  refine BC O (λm p k l=>?_);exact⟨_,_,k.sub NA,l,y,an,E⟩
 rintro m p ⟨b6,b7,k,l,bu,b8,E⟩;refine AJ ?_ k l;clear k l p m;rw[Fg] at E;exact RT
def OA (hs:St S L h) {g:Value}{b:AF}(s:Rd S h BO g b) {r:Bool}(E:Ha N b=some r):
 B0 prog 182 #[g] S h (λv S' h'=>v= .bool r∧St S' (L) h'):=by
 refine BA 47 func182 O ntmps182 O λB=>?_;rw[Ha] at E;refine AU ?_;refine By O s CE O hs λq1 S2 h3 ac e5 k6=>?_;have k8:=k6.fl KF;obtain⟨v9,_,ad⟩:=k8.ll;refine AU ?_;refine AO (λa w=>IV B S2 h3 (47,[]) a w [] (L) λ_ _=>FK N=some r) ?_ ?_
 ·refine A4 (λn1=>λa w=>∃(j:Int),IV B S2 h3 (47,[]) a w [(8,vI (↑b.Ad.length:Int)),(7,v9),(1,q1),(9,vI j)] (L) λ_ _=>AA j∧De N b (FK N) n1 j=some r) N ?_ ?_ ?_
  ·intro x y k m;exact⟨0,_,_,k.sub (kp [8,7,1,9] O),m,ac,(CB.refl S2 h3),(iq (n:=0) O),E⟩
  ·rintro x y ⟨_,_,_,_,_,_,_,_,E⟩;rw[De] at E;cases E
  rintro n1 x y ⟨j,a8,a9,k,m,t,D,ba,E⟩;refine AJ ?_ k m;clear k m y x;rw[De] at E;refine AU ?_;refine AH O E (λae E=>?_) (λae E=>?_)
  ·refine AU ?_;refine A5 (AU ?_);have af:=ad.mono' D;refine AZ E O O af sl_26.1 O λbb E bc ag=>?_;obtain⟨be,_,ah⟩:=ag.lv;refine AU ?_;refine CO Yc O t λbf bg F ai=>?_;have aj:=ah.mono ai;obtain⟨rfl,⟨bh,ak,am,an,ao⟩⟩:=Eu.ex aj;refine Cu O O O O ty_217.1 O F .head O λbi G bj=>AU ?_;refine BX (.inl O) G (AU ?_);refine A8 E O O O G3 O (λH I h' o=>B8 (St.all h') ak (iq (n:=0) O) (iq (n:=2) O) I) λH E=>AU ?_;obtain⟨J,c,E⟩:=bd E;refine AY 5 22 (.bool J) ?_ ?_
   ·cases K:(!H)
    ·have c:=GW K c;refine AU ?_;refine A8 c O O O G3 O (λap M h' o=>B8 (St.all h') an (iq (n:=0) O) (iq (n:=1099511627776) O) M) λap c=>AU ?_;cases c;exact A0 O
    have c:=GV K c;cases c;exact BF O O
   refine AU ?_;obtain⟨aq,d,E⟩:=bd E;refine AY 5 28 (.bool aq) ?_ ?_
   ·cases Q:J
    ·have d:=GW Q d;refine AU ?_;refine A8 d O O O G3 O (λar U h' o=>B8 (St.all h') ao (iq (n:=0) O) (iq (n:=1440) O) U) λar d=>AU ?_;cases d;exact A0 O
    have d:=GV Q d;cases d;exact BF O O
   refine BK (kp [28,4,8,7,1,9] O) λbk V bl=>AH O E (λau E=>?_) (λau E=>?_)
   ·exact RT
   have C:=k6.nw;have av:=C.fl B4;obtain⟨bm,_,aw⟩:=av.ll;have ax:=aw.le;have ay:=C.fl Mf;have az:=ay.i;have a0:=C.fl Gh;obtain⟨bn,_,a1⟩:=a0.ll;have a2:=a1.le;refine AU ?_;refine eJ (cs:=[vI (↑b.A.length:Int),vI b.O,vI (↑b.E.length:Int)]) mG O O O (AU ?_);refine CO gK O V λbo bp W bq=>?_;refine Cu O O O O ty_323.1 O W .head O λbr u bs=>AU ?_;refine BX (.inr ⟨mo,by kernel_rfl⟩) u (AU ?_);obtain⟨a3,q,E⟩:=bd E;have X:=oW q;refine mR O O mE X.1 X.2 O (eG (l:=([(↑b.A.length:Int),b.O,(↑b.E.length:Int)]:List Int)) (Value.int .i64) NI u O mh O q ty_3.1 O ?_);have a4:AA a3:=oV (p:=λz=>AA z) (all_cons (Je ax) (all_cons az (all_cons (Je a2) dL))) q;refine A8 E O O O Ph O (λa5 Y h' o=>HT (St.all h') am a4 Y) λa5 E=>AU ?_;refine BK (kp [45,8,7,1,9] O) λbt Z bu=>AH O E (λa6 E=>?_) (λa6 E=>?_)
   ·exact RT
   refine AU ?_;refine BE (AU ?_);refine WF.nil (λx y k m=>?_);have ab:=Z.sel [] 2 O;exact⟨(BD (j+1)),_,_,k.sub (kp [8,7,1,9] O),m,ab,EX,(BI _),E⟩
  refine BC O (λx y k m=>?_);exact⟨_,_,k.sub NA,m,t,D,E⟩
 rintro x y ⟨bv,bw,k,m,a7,bx,E⟩;refine AJ ?_ k m;clear k m y x;rw[FK] at E;exact RT
def Oe (hs:St S L h) {k:Value}{l:AF}(t:Rd S h BO k l) {r:Bool}(E:H0 N l=some r):
 B0 prog 183 #[k] S h (λv S' h'=>v= .bool r∧St S' (L) h'):=by
 refine BA 80 func183 O ntmps183 O λB=>?_;rw[H0] at E;refine AU ?_;refine By O t CE O hs λq1 S2 h3 aj e5 k6=>?_;have k8:=k6.fl Kx;obtain⟨v9,_,ak⟩:=k8.ll;refine AU ?_;refine AO (λa w=>IV B S2 h3 (80,[]) a w [] (L) λ_ _=>Fh N=some r) ?_ ?_
 ·refine A4 (λn1=>λa w=>∃(m:Int),IV B S2 h3 (80,[]) a w [(7,vI (↑l.Ae.length:Int)),(6,v9),(1,q1),(8,vI m)] (L) λ_ _=>AA m∧Du N l (Fh N) n1 m=some r) N ?_ ?_ ?_
  ·intro x y p q;exact⟨0,_,_,p.sub (kp [7,6,1,8] O),q,aj,(CB.refl S2 h3),(iq (n:=0) O),E⟩
  ·rintro x y ⟨_,_,_,_,_,_,_,_,E⟩;rw[Du] at E;cases E
  rintro n1 x y ⟨m,bn,bo,p,q,u,A,bp,E⟩;refine AJ ?_ p q;clear p q y x;rw[Du] at E;refine AU ?_;refine AH O E (λam E=>?_) (λam E=>?_)
  ·refine AU ?_;refine A5 (AU ?_);have an:=ak.mono' A;refine AZ E O O an sl_27.1 O λs E bq ao=>?_;obtain⟨br,_,ap⟩:=ao.lv;refine AU ?_;refine CO Yb O u λbs bt D aq=>?_;have ar:=ap.mono aq;obtain⟨rfl,⟨bu,au,av,aw,ax,ay,az⟩⟩:=Gr.ex ar;refine Cu O O O O ty_219.1 O D .head O λbv F bw=>AU ?_;refine BX (.inl O) F ?_;have G:=k6.nw;have a0:=G.fl Jc;obtain⟨bx,_,a1⟩:=a0.ll;have a2:=a1.le;refine AU ?_;refine A8 E O O O Ph O (λH I h' o=>HT (St.all h') au (Je a2) I) λH E=>AU ?_;obtain⟨K,b,E⟩:=bd E;refine AY 12 31 (.bool K) ?_ ?_
   ·cases M:(!H)
    ·have b:=GW M b;refine AU ?_;refine A8 b O O O Ph O (λa3 Q h' o=>HT (St.all h') av (BI _) Q) λa3 b=>AU ?_;cases b;exact A0 O
    have b:=GV M b;cases b;exact BF O O
   refine AU ?_;obtain⟨U,c,E⟩:=bd E;refine AY 5 44 (.bool U) ?_ ?_
   ·cases V:(K||(decide (s.J=s.C)))
    ·have c:=GW V c;refine AU ?_;refine A8 c O O O G3 O (λa4 W h' o=>B8 (St.all h') aw (iq (n:=1) O) (iq (n:=24) O) W) λa4 c=>AU ?_;cases c;exact A0 O
    have c:=GV V c;cases c;exact BF O O
   refine AU ?_;obtain⟨X,d,E⟩:=bd E;refine AY 5 50 (.bool X) ?_ ?_
   ·cases Y:U
    ·have d:=GW Y d;refine AU ?_;refine A8 d O O O G3 O (λa5 Z h' o=>B8 (St.all h') ax (iq (n:=0) O) (iq (n:=1073741824) O) Z) λa5 d=>AU ?_;cases d;exact A0 O
    have d:=GV Y d;cases d;exact BF O O
   refine AU ?_;obtain⟨a6,g,E⟩:=bd E;refine AY 5 56 (.bool a6) ?_ ?_
   ·cases ab:X
    ·have g:=GW ab g;refine AU ?_;refine A8 g O O O JN O (λa7 ac h' o=>CH (St.all h') az ac) λa7 g=>AU ?_;cases g;exact A0 O
    have g:=GV ab g;cases g;exact BF O O
   refine BK (kp [56,4,7,6,1,8] O) λbz ad a8=>AH O E (λa9 E=>?_) (λa9 E=>?_)
   ·exact RT
   refine AU ?_;refine BX (.inl O) ad (AU ?_);obtain⟨ba,i,E⟩:=bd E;refine AY 13 78 (.bool ba) ?_ ?_
   ·cases ae:((decide (s.Bi=(-1)))&&(decide (s.Bj≠0)))
    ·have i:=GW ae i;refine AU ?_;obtain⟨bb,j,i⟩:=bd i;refine AY 8 77 (.bool bb) ?_ ?_
     ·cases af:(decide (s.Bi≠(-1)))
      ·have j:=GW af j;cases j;exact BF O O
      have j:=GV af j;have bc:=G.mono a8;have be:=bc.fl B4;obtain⟨b0,_,bf⟩:=be.ll;have bg:=bf.le;refine AU ?_;refine A8 j O O O Ph O (λbh ag h' o=>HT (St.all h') ay (Je bg) ag) λbh j=>AU ?_;cases j;exact A0 O
     refine AU ?_;cases i;exact A0 O
    have i:=GV ae i;cases i;exact BF O O
   refine BK (kp [78,7,6,1,8] O) λb1 ah bj=>AH O E (λai E=>?_) (λai E=>?_)
   ·exact RT
   refine AU ?_;refine BE (AU ?_);refine WF.nil (λx y p q=>?_);have z:=ah.drop .head;exact⟨(BD (m+1)),_,_,p.sub (kp [7,6,1,8] O),q,z,EX,(BI _),E⟩
  refine BC O (λx y p q=>?_);exact⟨_,_,p.sub NA,q,u,A,E⟩
 rintro x y ⟨bk,bl,p,q,bi,bm,E⟩;refine AJ ?_ p q;clear p q y x;rw[Fh] at E;exact RT
def Nu (hs:St S L h) {m:Value}{q:AF}(n:Rd S h BO m q) {r:Bool}(E:Hn N q=some r):
 B0 prog 98 #[m] S h (λv S' h'=>v= .bool r∧St S' (L) h'):=by
 refine BA 37 func98 O ntmps98 O λB=>?_;rw[Hn] at E;refine AU ?_;refine By O n CE O hs λq1 S2 h3 l e5 p=>AU ?_;refine BX (.inl O) l ?_;obtain⟨v7,_,k8⟩:=p.lv;refine AU ?_;refine A8 E O O O lG O (λy9 Z h' o=>PH (St.all h') (k8.mono (o.all l.1)) Z) λy9 E=>AU ?_;obtain⟨s,a,E⟩:=bd E;refine AY 3 8 (.bool s) ?_ ?_
 ·cases t:y9
  ·have a:=GW t a;cases a;exact BF O O
  have a:=GV t a;obtain⟨au,_,aa⟩:=p.lv;refine AU ?_;refine A8 a O O O lF O (λab u h' o=>Of (St.all h') (aa.mono (o.all l.1)) u) λab a=>AU ?_;cases a;exact A0 O
 refine AU ?_;obtain⟨w,b,E⟩:=bd E;refine AY 3 12 (.bool w) ?_ ?_
 ·cases x:s
  ·have b:=GW x b;cases b;exact BF O O
  have b:=GV x b;obtain⟨av,_,ac⟩:=p.lv;refine AU ?_;refine A8 b O O O lE O (λad y h' o=>N9 (St.all h') (ac.mono (o.all l.1)) y) λad b=>AU ?_;cases b;exact A0 O
 refine AU ?_;obtain⟨z,c,E⟩:=bd E;refine AY 3 16 (.bool z) ?_ ?_
 ·cases A:w
  ·have c:=GW A c;cases c;exact BF O O
  have c:=GV A c;obtain⟨aw,_,ae⟩:=p.lv;refine AU ?_;refine A8 c O O O lD O (λaf C h' o=>Og (St.all h') (ae.mono (o.all l.1)) C) λaf c=>AU ?_;cases c;exact A0 O
 refine AU ?_;obtain⟨D,d,E⟩:=bd E;refine AY 3 20 (.bool D) ?_ ?_
 ·cases F:z
  ·have d:=GW F d;cases d;exact BF O O
  have d:=GV F d;obtain⟨ax,_,ag⟩:=p.lv;refine AU ?_;refine A8 d O O O lC O (λah G h' o=>Ni (St.all h') (ag.mono (o.all l.1)) G) λah d=>AU ?_;cases d;exact A0 O
 refine AU ?_;obtain⟨H,g,E⟩:=bd E;refine AY 3 24 (.bool H) ?_ ?_
 ·cases I:D
  ·have g:=GW I g;cases g;exact BF O O
  have g:=GV I g;obtain⟨ay,_,ai⟩:=p.lv;refine AU ?_;refine A8 g O O O lB O (λaj J h' o=>N8 (St.all h') (ai.mono (o.all l.1)) J) λaj g=>AU ?_;cases g;exact A0 O
 refine AU ?_;obtain⟨K,i,E⟩:=bd E;refine AY 3 28 (.bool K) ?_ ?_
 ·cases M:H
  ·have i:=GW M i;cases i;exact BF O O
  have i:=GV M i;obtain⟨az,_,ak⟩:=p.lv;refine AU ?_;refine A8 i O O O lA O (λal Q h' o=>Od (St.all h') (ak.mono (o.all l.1)) Q) λal i=>AU ?_;cases i;exact A0 O
 refine AU ?_;obtain⟨U,j,E⟩:=bd E;refine AY 3 32 (.bool U) ?_ ?_
 ·cases V:K
  ·have j:=GW V j;cases j;exact BF O O
  have j:=GV V j;obtain⟨a0,_,am⟩:=p.lv;refine AU ?_;refine A8 j O O O kZ O (λan W h' o=>OA (St.all h') (am.mono (o.all l.1)) W) λan j=>AU ?_;cases j;exact A0 O
 refine AU ?_;obtain⟨ao,k,E⟩:=bd E;refine AY 3 36 (.bool ao) ?_ ?_
 ·cases X:U
  ·have k:=GW X k;cases k;exact BF O O
  have k:=GV X k;obtain⟨a1,_,ap⟩:=p.lv;refine AU ?_;refine A8 k O O O kY O (λaq Y h' o=>Oe (St.all h') (ap.mono (o.all l.1)) Y) λaq k=>AU ?_;cases k;exact A0 O
 refine AU ?_;exact BK (kp [2] O) λa2 ar a3=>RT
def Ec (C:St S L h) {b:Value}{g:(List Int)}(d:Sl S h AB b g) {c:Value}{i:(List Int)}(m:Sl S h AB c i) {r:Bool}(E:Cg N g i=some r):
 B0 prog 105 #[b,c] S h (λv S' h'=>v= .bool r∧St S' (L) h'):=by
 refine BA 26 func105 O ntmps105 O λB=>?_;rw[Cg] at E;refine AU ?_;refine AH O E (λD E=>?_) (λD E=>?_)
 ·exact RT
 refine AU ?_;refine AO (λa w=>IV B S h (26,[]) a w [] (L) λ_ _=>EG N=some r) ?_ ?_
 ·refine A4 (λz=>λa w=>∃(s:Int),IV B S h (26,[]) a w [(0,b),(1,c),(5,vI s)] (L) λ_ _=>AA s∧Cw N g i (EG N) z s=some r) N ?_ ?_ ?_
  ·intro p q j k;exact⟨0,_,_,j.sub (kp [0,1,5] O),k,C,(CB.refl S h),(iq (n:=0) O),E⟩
  ·rintro p q ⟨_,_,_,_,_,_,_,_,E⟩;rw[Cw] at E;cases E
  rintro z p q ⟨s,W,X,j,k,o,l,Y,E⟩;refine AJ ?_ j k;clear j k q p;rw[Cw] at E;have F:=d.mono' l;refine AU ?_;refine AH O E (λt E=>?_) (λt E=>?_)
  ·refine AU ?_;refine A5 (AU ?_);refine Iy (.inr ⟨mo,by kernel_rfl⟩) (AU ?_);have u:=d.mono' l;refine AZ E O O u sl_29.1 O λG E H I=>AU ?_;have x:=m.mono' l;refine AZ E O O x sl_29.1 O λJ E K M=>AU ?_;refine AH O E (λy E=>?_) (λy E=>?_)
   ·exact RT
   refine AU ?_;refine BE (AU ?_);refine WF.nil (λp q j k=>?_);exact⟨(BD (s+1)),_,_,j.sub (kp [0,1,5] O),k,o,l,(BI _),E⟩
  refine BC O (λp q j k=>?_);exact⟨_,_,j.sub NA,k,o,l,E⟩
 rintro p q ⟨Q,U,j,k,A,V,E⟩;refine AJ ?_ j k;clear j k q p;rw[EG] at E;exact RT
def Mj (M:St S L h) {b:Value}{i:(List (List Int))}(d:Sl S h (A7.sl AB) b i) {c:Value}{j:(List (List Int))}(m:Sl S h (A7.sl AB) c j) {r:Bool}(E:GR N i j=some r):
 B0 prog 106 #[b,c] S h (λv S' h'=>v= .bool r∧St S' (L) h'):=by
 refine BA 27 func106 O ntmps106 O λB=>?_;rw[GR] at E;refine AU ?_;refine AH O E (λQ E=>?_) (λQ E=>?_)
 ·exact RT
 refine AU ?_;refine AO (λa w=>IV B S h (27,[]) a w [] (L) λ_ _=>D5 N=some r) ?_ ?_
 ·refine A4 (λJ=>λa w=>∃(t:Int),IV B S h (27,[]) a w [(0,b),(1,c),(5,vI t)] (L) λ_ _=>AA t∧Cq N i j (D5 N) J t=some r) N ?_ ?_ ?_
  ·intro q s k l;exact⟨0,_,_,k.sub (kp [0,1,5] O),l,M,(CB.refl S h),(iq (n:=0) O),E⟩
  ·rintro q s ⟨_,_,_,_,_,_,_,_,E⟩;rw[Cq] at E;cases E
  rintro J q s ⟨t,S8,h9,k,l,g,p,r7,E⟩;refine AJ ?_ k l;clear k l s q;rw[Cq] at E;have U:=d.mono' p;refine AU ?_;refine AH O E (λy E=>?_) (λy E=>?_)
  ·refine AU ?_;refine A5 (AU ?_);refine BX (.inr ⟨mo,by kernel_rfl⟩) g (AU ?_);have z:=d.mono' p;refine AZ E O O z sl_32.1 O λV E W A=>?_;obtain⟨X,_,C⟩:=A.ll;refine AU ?_;have D:=m.mono' p;refine AZ E O O D sl_32.1 O λY E Z F=>?_;obtain⟨ab,_,G⟩:=F.ll;refine AU ?_;refine A8 E O O O Qq O (λH u h' o=>Ec (St.all h') (C.mono' (o.all g.1)) (G.mono' (o.all g.1)) u) λH E=>AU ?_;refine BK (kp [26,0,1,5] O) λac x ad=>AH O E (λI E=>?_) (λI E=>?_)
   ·exact RT
   refine AU ?_;refine BE (AU ?_);refine WF.nil (λq s k l=>?_);exact⟨(BD (t+1)),_,_,k.sub (kp [0,1,5] O),l,x,EX,(BI _),E⟩
  refine BC O (λq s k l=>?_);exact⟨_,_,k.sub NA,l,g,p,E⟩
 rintro q s ⟨ae,af,k,l,K,ag,E⟩;refine AJ ?_ k l;clear k l s q;rw[D5] at E;exact RT
def Mi (hs:St S L h) {g:Value}{m:(List AV)}(d:Sl S h A3 g m) {i:Value}{p:(List AV)}(j:Sl S h A3 i p) {r:Bool}(E:GQ N m p=some r):
 B0 prog 107 #[g,i] S h (λv S' h'=>v= .bool r∧St S' (L) h'):=by
 refine BA 55 func107 O ntmps107 O λB=>?_;rw[GQ] at E;refine AU ?_;refine AH O E (λc3 E=>?_) (λc3 E=>?_)
 ·exact RT
 refine AU ?_;refine AO (λa w=>IV B S h (55,[]) a w [] (L) λ_ _=>D4 N=some r) ?_ ?_
 ·refine A4 (λn1=>λa w=>∃(x:Int),IV B S h (55,[]) a w [(0,g),(1,i),(5,vI x)] (L) λ_ _=>AA x∧Cp N m p (D4 N) n1 x=some r) N ?_ ?_ ?_
  ·intro t u q s;exact⟨0,_,_,q.sub (kp [0,1,5] O),s,hs,(CB.refl S h),(iq (n:=0) O),E⟩
  ·rintro t u ⟨_,_,_,_,_,_,_,_,E⟩;rw[Cp] at E;cases E
  rintro n1 t u ⟨x,S8,h9,q,s,l,k,r7,E⟩;refine AJ ?_ q s;clear q s u t;rw[Cp] at E;have ag:=d.mono' k;refine AU ?_;refine AH O E (λF E=>?_) (λF E=>?_)
  ·refine AU ?_;refine A5 (AU ?_);refine BX (.inr ⟨mo,by kernel_rfl⟩) l (AU ?_);have G:=d.mono' k;refine AZ E O O G sl_33.1 O λH E ah ai=>AU ?_;have I:=j.mono' k;refine AZ E O O I sl_33.1 O λJ E aj ak=>AU ?_;obtain⟨y,c,E⟩:=bd E;refine AY 12 40 (.bool y) ?_ ?_
   ·cases z:(decide (H.Am≠J.Am))
    ·have c:=GW z c;refine AU ?_;have K:=d.mono' k;refine AZ c O O K sl_33.1 O λal c am an=>AU ?_;have M:=j.mono' k;refine AZ c O O M sl_33.1 O λao c ap aq=>AU ?_;cases c;exact A0 O
    have c:=GV z c;cases c;exact BF O O
   refine AU ?_;obtain⟨Q,b,E⟩:=bd E;refine AY 13 54 (.bool Q) ?_ ?_
   ·cases A:y
    ·have b:=GW A b;refine AU ?_;have U:=d.mono' k;refine AZ b O O U sl_33.1 O λar b au V=>?_;have W:=V.fl AV.f_Part;obtain⟨av,_,X⟩:=W.ll;refine AU ?_;have Y:=j.mono' k;refine AZ b O O Y sl_33.1 O λaw b ax Z=>?_;have ab:=Z.fl AV.f_Part;obtain⟨ay,_,ac⟩:=ab.ll;refine AU ?_;refine A8 b O O O Qq O (λad C h' o=>Ec (St.all h') (X.mono' (o.all l.1)) (ac.mono' (o.all l.1)) C) λad b=>AU ?_;cases b;exact A0 O
    have b:=GV A b;cases b;exact BF O O
   refine BK (kp [54,0,1,5] O) λaz D a0=>AH O E (λae E=>?_) (λae E=>?_)
   ·exact RT
   refine AU ?_;refine BE (AU ?_);refine WF.nil (λt u q s=>?_);exact⟨(BD (x+1)),_,_,q.sub (kp [0,1,5] O),s,D,EX,(BI _),E⟩
  refine BC O (λt u q s=>?_);exact⟨_,_,q.sub NA,s,l,k,E⟩
 rintro t u ⟨a1,a2,q,s,af,a3,E⟩;refine AJ ?_ q s;clear q s u t;rw[D4] at E;exact RT
def Mh (H:St S L h) {b:Value}{g:(List AT)}(d:Sl S h BL b g) {c:Value}{i:(List AT)}(m:Sl S h BL c i) {r:Bool}(E:GP N g i=some r):
 B0 prog 108 #[b,c] S h (λv S' h'=>v= .bool r∧St S' (L) h'):=by
 refine BA 26 func108 O ntmps108 O λB=>?_;rw[GP] at E;refine AU ?_;refine AH O E (λI E=>?_) (λI E=>?_)
 ·exact RT
 refine AU ?_;refine AO (λa w=>IV B S h (26,[]) a w [] (L) λ_ _=>D3 N=some r) ?_ ?_
 ·refine A4 (λF=>λa w=>∃(s:Int),IV B S h (26,[]) a w [(0,b),(1,c),(5,vI s)] (L) λ_ _=>AA s∧Co N g i (D3 N) F s=some r) N ?_ ?_ ?_
  ·intro p q j k;exact⟨0,_,_,j.sub (kp [0,1,5] O),k,H,(CB.refl S h),(iq (n:=0) O),E⟩
  ·rintro p q ⟨_,_,_,_,_,_,_,_,E⟩;rw[Co] at E;cases E
  rintro F p q ⟨s,S8,h9,j,k,o,l,r7,E⟩;refine AJ ?_ j k;clear j k q p;rw[Co] at E;have J:=d.mono' l;refine AU ?_;refine AH O E (λt E=>?_) (λt E=>?_)
  ·refine AU ?_;refine A5 (AU ?_);refine Iy (.inr ⟨mo,by kernel_rfl⟩) (AU ?_);have u:=d.mono' l;refine AZ E O O u sl_34.1 O λK E M x=>?_;obtain⟨Q,_,y⟩:=x.lv;refine AU ?_;have z:=m.mono' l;refine AZ E O O z sl_34.1 O λU E V A=>?_;obtain⟨W,_,C⟩:=A.lv;refine AU ?_;obtain⟨rfl,⟨X,Y⟩⟩:=BL.ex y;obtain⟨rfl,⟨Z,ab⟩⟩:=BL.ex C;refine aY O O jK O O O O (AU ?_);refine AH O E (λD E=>?_) (λD E=>?_)
   ·exact RT
   refine AU ?_;refine BE (AU ?_);refine WF.nil (λp q j k=>?_);exact⟨(BD (s+1)),_,_,j.sub (kp [0,1,5] O),k,o,l,(BI _),E⟩
  refine BC O (λp q j k=>?_);exact⟨_,_,j.sub NA,k,o,l,E⟩
 rintro p q ⟨ac,ad,j,k,G,ae,E⟩;refine AJ ?_ j k;clear j k q p;rw[D3] at E;exact RT
def GU (hs:St S L h) {b:Value}{d:AE}(p:Rd S h AM b d) {c:Value}{g:AE}(q:Rd S h AM c g) {r:Bool}(E:EJ N d g=some r):
 B0 prog 32 #[b,c] S h (λv S' h'=>v= .bool r∧St S' (L) h'):=by
 refine BA 62 func32 O ntmps32 O λB=>?_;rw[EJ] at E;refine AU ?_;refine By O p CE O hs λq1 S2 h3 aj e5 k6=>?_;have k7:=q.mono e5;refine By O k7 CE O aj λq8 S9 bf i ak u=>AU ?_;refine BX (.inl O) i ?_;have w:=k6.mono ak;have al:=w.fl F5;obtain⟨bg,_,am⟩:=al.ll;have an:=u.fl F5;obtain⟨bh,_,ao⟩:=an.ll;refine AU ?_;refine A8 E O O O lX O (λx y h' o=>Mj (St.all h') (am.mono' (o.all i.1)) (ao.mono' (o.all i.1)) y) λx E=>AU ?_;refine BK (kp [5,3,2] O) λbi j z=>AU ?_;refine BX (.inl O) j ?_;have A:=w.mono z;have ap:=A.fl Jo;obtain⟨bj,_,aq⟩:=ap.ll;have C:=u.mono z;have ar:=C.fl Jo;obtain⟨bk,_,au⟩:=ar.ll;refine AU ?_;refine A8 E O O O Qq O (λD F h' o=>Ec (St.all h') (aq.mono' (o.all j.1)) (au.mono' (o.all j.1)) F) λD E=>AU ?_;refine BK (kp [6,5,3,2] O) λbl k G=>AU ?_;refine BX (.inl O) k ?_;have H:=A.mono G;have av:=H.fl Gg;obtain⟨bm,_,aw⟩:=av.ll;have I:=C.mono G;have ax:=I.fl Gg;obtain⟨bn,_,ay⟩:=ax.ll;refine AU ?_;refine A8 E O O O lW O (λJ K h' o=>Mi (St.all h') (aw.mono' (o.all k.1)) (ay.mono' (o.all k.1)) K) λJ E=>AU ?_;refine BK (kp [7,6,5,3,2] O) λbo l M=>AU ?_;refine BX (.inl O) l ?_;have Q:=H.mono M;have az:=Q.fl I2;obtain⟨bp,_,a0⟩:=az.ll;have U:=I.mono M;have a1:=U.fl I2;obtain⟨bq,_,a2⟩:=a1.ll;refine AU ?_;refine A8 E O O O Qq O (λV W h' o=>Ec (St.all h') (a0.mono' (o.all l.1)) (a2.mono' (o.all l.1)) W) λV E=>AU ?_;refine BK (kp [8,7,6,5,3,2] O) λbr m X=>AU ?_;refine BX (.inl O) m ?_;have Y:=Q.mono X;have a3:=Y.fl HB;obtain⟨bs,_,a4⟩:=a3.ll;have Z:=U.mono X;have a5:=Z.fl HB;obtain⟨bt,_,a6⟩:=a5.ll;refine AU ?_;refine A8 E O O O Qq O (λaa ab h' o=>Ec (St.all h') (a4.mono' (o.all m.1)) (a6.mono' (o.all m.1)) ab) λaa E=>AU ?_;refine BK (kp [9,8,7,6,5,3,2] O) λbu n ac=>AU ?_;refine BX (.inl O) n ?_;have a7:=Y.mono ac;have a8:=Z.mono ac;refine AU ?_;obtain⟨ad,a,E⟩:=bd E;refine AY 6 61 (.bool ad) ?_ ?_
 ·cases s:((((((decide (d.B=g.B))&&x)&&D)&&J)&&V)&&aa)
  ·have a:=GW s a;cases a;exact BF O O
  have a:=GV s a;have ae:=a7.fl Iz;obtain⟨ba,_,af⟩:=ae.ll;have ag:=a8.fl Iz;obtain⟨bb,_,ah⟩:=ag.ll;refine AU ?_;refine A8 a O O O lV O (λai t h' o=>Mh (St.all h') (af.mono' (o.all n.1)) (ah.mono' (o.all n.1)) t) λai a=>AU ?_;cases a;exact A0 O
 refine AU ?_;exact BK (kp [4] O) λbc a9 be=>RT
def KY (hs:St S L h) {l:Value}{u:AF}(V:Rd S h BO l u) {m:Value}{b:AE}(W:Rd S h AM m b) {c:Value}{d:(List Ch)}(s:Sl S h CN c d) {r:AE}(E:JU N u b d=some r):
 B0 prog 27 #[l,m,c] S h (λv S' h'=>Rd S' h' AM v r∧St S' (L) h'):=by
 refine BA 25 func27 O ntmps27 O λB=>?_;rw[JU] at E;refine AU ?_;refine By O V CE O hs λq1 S2 h3 cz e5 k6=>?_;have k7:=W.mono e5;obtain⟨c0,c1,c2,c3,c4,c5,rfl,r9,c6,c7,c8,c9,da,db⟩:=AM.ex k7;refine Oq O O O cz λX ed a6 ee=>CO L8 O a6 λY ao a7 ef=>?_;have dc:=s.nw;refine AU ?_;refine AO (λa w=>∃(y:Int) (ap:Value) (Z:List (List Int)) (aq:Value) (ab:List Int) (ar:Value) (ac:List AV) (au:Value) (ad:List AT) (av:Value) (ae:List Int) (aw:Value) (af:List Int),IV B S2 ao (25,[]) a w [(6,vP Y 0),(4,vP X 0)] (Bx Y 36 [vI 0,vN,vN,vN,vN,vN,vN]::Bx X 36 [vI y,ap,aq,ar,au,av,aw]::L) λS' h'=>AA y∧Sl S' h' (A7.sl AB) ap Z∧Sl S' h' AB aq ab∧Sl S' h' A3 ar ac∧Sl S' h' BL au ad∧Sl S' h' AB av ae∧Sl S' h' AB aw af∧J2 N y Z ab ac ad ae af=some r) ?_ ?_
 ·refine A4 (λn1=>λa w=>∃(z:Int) (t:Int) (ag:Value) (A:List (List Int)) (ah:Value) (C:List Int) (ai:Value) (F:List AV) (aj:Value) (H:List AT) (ak:Value) (I:List Int) (am:Value) (J:List Int),IV B S2 ao (25,[]) a w [(10,vI (↑d.length:Int)),(9,c),(6,vP Y 0),(4,vP X 0),(3,q1),(11,vI z)] (Bx Y 36 [vI 0,vN,vN,vN,vN,vN,vN]::Bx X 36 [vI t,ag,ah,ai,aj,ak,am]::L) λS' h'=>AA z∧AA t∧Sl S' h' (A7.sl AB) ag A∧Sl S' h' AB ah C∧Sl S' h' A3 ai F∧Sl S' h' BL aj H∧Sl S' h' AB ak I∧Sl S' h' AB am J∧Hh N u d (J2 N) n1 z t A C F H I J=some r) N ?_ ?_ ?_
  ·intro aa ww o q;have dd:=c6.nw;have de:=c7.nw;have df:=c8.nw;have a8:=c9.nw;have a9:=da.nw;have ba:=db.nw;exact⟨0,b.B,c0,b.D,c1,b.L,c2,b.G,c3,b.M,c4,b.N,c5,b.K,_,_,o.sub (kp [10,9,6,4,3,11] O),q,a7,(CB.refl S2 ao),(iq (n:=0) O),r9,dd,de,df,a8,a9,ba,E⟩
  ·rintro aa ww ⟨_,_,_,_,_,_,_,_,_,_,_,_,_,_,_,_,_,_,_,_,_,_,_,_,_,_,_,_,E⟩;rw[Hh] at E;cases E
  rintro n1 aa ww ⟨z,t,ag,A,ah,C,ai,F,aj,H,ak,I,am,J,dn,dp,o,q,Q,an,eg,bb,bc,be,bf,bg,bh,bi,E⟩;refine AJ ?_ o q;clear o q ww aa;rw[Hh] at E;refine AU ?_;refine AH O E (λbj E=>?_) (λbj E=>?_)
  ·refine AU ?_;refine A5 (AU ?_);have bk:=dc.mono' an;refine AZ E O O bk sl_78.1 O λbl E dq bm=>?_;obtain⟨dr,_,bn⟩:=bm.lv;refine AU ?_;refine CO YZ O Q λds dt ax bo=>?_;have bp:=bn.mono bo;obtain⟨du,dv,dw,dx,dy,rfl,bq,br,bs,bt,bu⟩:=CN.ex bp;refine Dk O O O ON ty_60.1 O ax .head O λdz ay k=>AU ?_;refine Bw ?_;have bv:=k6.nw;obtain⟨d0,_,bw⟩:=bv.lv;refine AU ?_;have bx:=bc.nw;have bz:=be.nw;have b0:=bf.nw;have b1:=bg.nw;have b2:=bh.nw;have b3:=bi.nw;have b4:=bq.mono' k;have b5:=br.mono' k;have b6:=bs.mono' k;have b7:=bt.mono' k;have b8:=bu.mono' k;obtain⟨g,az,E⟩:=bd E;refine Dh O O O gB O (PK ay bw (AM.mk (x:=(⟨t,A,C,F,H,I,J⟩:AE)) bb bx bz b0 b1 b2 b3) (CN.mk (x:=bl) b4 b5 b6 b7 b8) az) λd1 d2 d3 d4 p=>?_;obtain⟨d5,d6,d7,rfl,b9,a0⟩:=p;refine AU ?_;obtain⟨ca,cb,cc,cd,ce,cf,rfl,cg,ch,ci,cj,ck,cl,cm⟩:=AM.ex b9;refine Dk O O O ON ty_36.1 O a0 (.tail (.tail (.tail (.tail .head)))) O λd8 a1 i=>AU ?_;refine BE (AU ?_);refine WF.nil (λaa ww o q=>?_);have a2:=a1.sel [3,3] 3 O;have cn:=ch.mono' i;have co:=ci.mono' i;have cp:=cj.mono' i;have cq:=ck.mono' i;have cr:=cl.mono' i;have cs:=cm.mono' i;exact⟨(BD (z+1)),g.1.B,ca,g.1.D,cb,g.1.L,cc,g.1.G,cd,g.1.M,ce,g.1.N,cf,g.1.K,_,_,o.sub (kp [10,9,6,4,3,11] O),q,a2,EX,(BI _),cg,cn,co,cp,cq,cr,cs,E⟩
  refine BC O (λaa ww o q=>?_);exact⟨t,ag,A,ah,C,ai,F,aj,H,ak,I,am,J,_,_,o.sub (kp [6,4] O),q,Q,an,bb,bc,be,bf,bg,bh,bi,E⟩
 rintro aa ww ⟨y,ap,Z,aq,ab,ar,ac,au,ad,av,ae,aw,af,d9,ea,o,q,a3,eb,dg,dh,di,dj,dk,dl,dm,E⟩;refine AJ ?_ o q;clear o q ww aa;rw[J2] at E;refine AU ?_;refine Dk O O O ON ty_36.1 O a3 .head O λec a4 j=>AU ?_;refine Bu (λaa ww o q=>?_);have U:=a4.drop (.tail .head);have ct:=dh.mono' j;have cu:=di.mono' j;have cv:=dj.mono' j;have cw:=dk.mono' j;have cx:=dl.mono' j;have cy:=dm.mono' j;have a5:=U.drop .head;cases E;exact JC o O q (Gw (Tj o q U O mh ty_36.1 O) JB) O EX ⟨(AM.mk (x:=(⟨y,Z,ab,ac,ad,ae,af⟩:AE)) dg ct cu cv cw cx cy),a5⟩
def KX (H:St S L h) {c:Value}{m:AF}(l:Rd S h BO c m) {b:Value}{d:(List Int)}(g:Sl S h AB b d) {r:Bool}(E:KK N m d=some r):
 B0 prog 184 #[c,b] S h (λv S' h'=>v= .bool r∧St S' (L) h'):=by
 refine BA 26 func184 O ntmps184 O λB=>?_;rw[KK] at E;refine AU ?_;refine By O l CE O H λY S2 t u D Z=>?_;have k7:=g.mono' D;refine AU ?_;refine AH O E (λx E=>?_) (λx E=>?_)
 ·exact RT
 have y:=g.mono' D;refine AU ?_;refine AO (λa w=>IV B S2 t (26,[]) a w [] (L) λ_ _=>LP N=some r) ?_ ?_
 ·refine A4 (λF=>λa w=>∃(i:Int),IV B S2 t (26,[]) a w [(14,vI (↑d.length:Int)),(13,b),(15,vI i)] (L) λ_ _=>AA i∧J1 N d (LP N) F i=some r) N ?_ ?_ ?_
  ·intro p q j k;exact⟨0,_,_,j.sub (kp [14,13,15] O),k,u,(CB.refl S2 t),(iq (n:=0) O),E⟩
  ·rintro p q ⟨_,_,_,_,_,_,_,_,E⟩;rw[J1] at E;cases E
  rintro F p q ⟨i,I,J,j,k,o,s,K,E⟩;refine AJ ?_ j k;clear j k q p;rw[J1] at E;refine AU ?_;refine AH O E (λz E=>?_) (λz E=>?_)
  ·refine AU ?_;refine A5 (AU ?_);have A:=y.mono' s;refine AZ E O O A sl_29.1 O λM E Q U=>AU ?_;refine AH O E (λC E=>?_) (λC E=>?_)
   ·exact RT
   refine AU ?_;refine BE (AU ?_);refine WF.nil (λp q j k=>?_);exact⟨(BD (i+1)),_,_,j.sub (kp [14,13,15] O),k,o,s,(BI _),E⟩
  refine BC O (λp q j k=>?_);exact⟨_,_,j.sub NA,k,o,s,E⟩
 rintro p q ⟨V,W,j,k,G,X,E⟩;refine AJ ?_ j k;clear j k q p;rw[LP] at E;exact RT
def Mm (hs:St S L h) {s:Value}{i:AF}(z:Rd S h BO s i) {t:Value}{c:AE}(C:Rd S h AM t c) {r:Bool}(E:KA N i c=some r):
 B0 prog 99 #[s,t] S h (λv S' h'=>v= .bool r∧St S' (L) h'):=by
 refine BA 62 func99 O ntmps99 O λB=>?_;rw[KA] at E;refine AU ?_;refine By O z CE O hs λq1 S2 h3 a5 e5 k6=>?_;have k7:=C.mono e5;refine By O k7 CE O a5 λq8 S9 ch m a6 M=>AU ?_;refine BX (.inl O) m ?_;have F:=k6.mono a6;refine AU ?_;obtain⟨ac,d,E⟩:=bd E;refine AY 6 22 (.bool ac) ?_ ?_
 ·cases ad:(decide ((↑c.D.length:Int)≠(↑i.A.length:Int)))
  ·have d:=GW ad d;obtain⟨ci,_,a7⟩:=F.lv;have a8:=M.fl I2;obtain⟨cj,_,a9⟩:=a8.ll;refine AU ?_;refine A8 d O O O SI O (λba ae h' o=>KX (St.all h') (a7.mono (o.all m.1)) (a9.mono' (o.all m.1)) ae) λba d=>AU ?_;cases d;exact A0 O
  have d:=GV ad d;cases d;exact BF O O
 refine AU ?_;obtain⟨bb,g,E⟩:=bd E;refine AY 6 29 (.bool bb) ?_ ?_
 ·cases af:ac
  ·have g:=GW af g;obtain⟨ck,_,bc⟩:=F.lv;have be:=M.fl HB;obtain⟨cl,_,bf⟩:=be.ll;refine AU ?_;refine A8 g O O O SI O (λbg ag h' o=>KX (St.all h') (bc.mono (o.all m.1)) (bf.mono' (o.all m.1)) ag) λbg g=>AU ?_;cases g;exact A0 O
  have g:=GV af g;cases g;exact BF O O
 refine BK (kp [29,3,2] O) λQ ah bh=>AH O E (λbi E=>?_) (λbi E=>?_)
 ·exact RT
 have ai:=M.mono bh;have bj:=ai.fl F5;obtain⟨bk,_,bl⟩:=bj.ll;refine AU ?_;refine AO (λa w=>IV B S9 Q (62,[]) a w [(3,q8),(2,q1)] (L) λ_ _=>I6 N i c=some r) ?_ ?_
 ·refine A4 (λn1=>λa w=>∃(x:Int),IV B S9 Q (62,[]) a w [(32,vI (↑c.D.length:Int)),(31,bk),(3,q8),(2,q1),(33,vI x)] (L) λ_ _=>AA x∧Hu N i c (I6 N i c) n1 x=some r) N ?_ ?_ ?_
  ·intro p q j k;exact⟨0,_,_,j.sub (kp [32,31,3,2,33] O),k,ah,(CB.refl S9 Q),(iq (n:=0) O),E⟩
  ·rintro p q ⟨_,_,_,_,_,_,_,_,E⟩;rw[Hu] at E;cases E
  rintro n1 p q ⟨x,cm,cn,j,k,u,aj,co,E⟩;refine AJ ?_ j k;clear j k q p;rw[Hu] at E;refine AU ?_;refine AH O E (λbm E=>?_) (λbm E=>?_)
  ·refine AU ?_;refine A5 (AU ?_);have bn:=bl.mono' aj;refine AZ E O O bn sl_32.1 O λcp E cq bo=>?_;obtain⟨cr,_,bp⟩:=bo.ll;refine AU ?_;refine BX (.inl O) u ?_;have bq:=F.nw;obtain⟨cs,_,br⟩:=bq.lv;refine AU ?_;refine A8 E O O O SI O (λbs ak h' o=>KX (St.all h') (br.mono (o.all u.1)) (bp.mono' (o.all u.1)) ak) λbs E=>AU ?_;refine BK (kp [40,32,31,3,2,33] O) λct am cu=>AH O E (λbt E=>?_) (λbt E=>?_)
   ·exact RT
   refine AU ?_;refine BE (AU ?_);refine WF.nil (λp q j k=>?_);exact⟨(BD (x+1)),_,_,j.sub (kp [32,31,3,2,33] O),k,am,EX,(BI _),E⟩
  refine BC O (λp q j k=>?_);exact⟨_,_,j.sub (kp [3,2] O),k,u,aj,E⟩
 rintro p q ⟨U,V,j,k,an,bu,E⟩;refine AJ ?_ j k;clear j k q p;rw[I6] at E;have bv:=ai.mono bu;have bw:=bv.fl Gg;obtain⟨bx,_,bz⟩:=bw.ll;refine AU ?_;refine AO (λa w=>IV B U V (62,[]) a w [] (L) λ_ _=>I5 N=some r) ?_ ?_
 ·refine A4 (λn3=>λa w=>∃(y:Int),IV B U V (62,[]) a w [(44,vI (↑c.G.length:Int)),(43,bx),(2,q1),(45,vI y)] (L) λ_ _=>AA y∧Ht N i c (I5 N) n3 y=some r) N ?_ ?_ ?_
  ·intro p q j k;exact⟨0,_,_,j.sub (kp [44,43,2,45] O),k,an,(CB.refl U V),(iq (n:=0) O),E⟩
  ·rintro p q ⟨_,_,_,_,_,_,_,_,E⟩;rw[Ht] at E;cases E
  rintro n3 p q ⟨y,cv,cw,j,k,H,ao,cx,E⟩;refine AJ ?_ j k;clear j k q p;rw[Ht] at E;refine AU ?_;refine AH O E (λb0 E=>?_) (λb0 E=>?_)
  ·refine AU ?_;refine A5 (AU ?_);have ap:=bz.mono' ao;refine AZ E O O ap sl_33.1 O λb2 E b3 aq=>?_;obtain⟨b4,_,ar⟩:=aq.lv;refine AU ?_;refine CO OC O H λb5 b6 W au=>?_;have av:=ar.mono au;obtain⟨b7,rfl,b8,aw,ax⟩:=A3.ex av;refine Dk O O O ON ty_121.1 O W .head O λb9 l ay=>AU ?_;refine BX (.inl O) l ?_;have I:=F.nw;obtain⟨ca,_,az⟩:=I.lv;refine AU ?_;refine A8 E O O O SL O (λJ X h' o=>JD (St.all h') (az.mono (o.all l.1)) aw X) λJ E=>AU ?_;obtain⟨a0,b,E⟩:=bd E;refine AY 6 60 (.bool a0) ?_ ?_
   ·cases K:(!J)
    ·have b:=GW K b;obtain⟨cb,_,a1⟩:=I.lv;refine AU ?_;have a2:=ax.mono' ay;refine A8 b O O O SI O (λa3 Y h' o=>KX (St.all h') (a1.mono (o.all l.1)) (a2.mono' (o.all l.1)) Y) λa3 b=>AU ?_;cases b;exact A0 O
    have b:=GV K b;cases b;exact BF O O
   refine BK (kp [60,44,43,2,45] O) λcc Z cd=>AH O E (λa4 E=>?_) (λa4 E=>?_)
   ·exact RT
   refine AU ?_;refine BE (AU ?_);refine WF.nil (λp q j k=>?_);have ab:=Z.drop .head;exact⟨(BD (y+1)),_,_,j.sub (kp [44,43,2,45] O),k,ab,EX,(BI _),E⟩
  refine BC O (λp q j k=>?_);exact⟨_,_,j.sub NA,k,H,ao,E⟩
 rintro p q ⟨ce,cf,j,k,b1,cg,E⟩;refine AJ ?_ j k;clear j k q p;rw[I5] at E;exact RT
def Qd (hs:St S L h) {j:Value}{p:AF}(m:Rd S h BO j p) {k:Value}{l:AK}(n:Rd S h BB k l) {r:Bool}(E:MR N p l=some r):
 B0 prog 100 #[j,k] S h (λv S' h'=>v= .bool r∧St S' (L) h'):=by
 refine BA 31 func100 O ntmps100 O λB=>?_;rw[MR] at E;refine AU ?_;refine By O m CE O hs λq1 S2 h3 G e5 k6=>?_;have k7:=n.mono e5;refine By O k7 CE O G λq8 S9 af g H q=>AU ?_;refine BX (.inl O) g ?_;have s:=k6.mono H;obtain⟨ag,_,I⟩:=s.lv;have K:=q.fl AK.f_Part;obtain⟨ah,_,M⟩:=K.ll;refine AU ?_;refine A8 E O O O SI O (λt u h' o=>KX (St.all h') (I.mono (o.all g.1)) (M.mono' (o.all g.1)) u) λt E=>AU ?_;obtain⟨w,a,E⟩:=bd E;refine AY 10 19 (.bool w) ?_ ?_
 ·cases x:t
  ·have a:=GW x a;cases a;exact BF O O
  have a:=GV x a;refine AU ?_;obtain⟨Q,b,a⟩:=bd a;refine AY 5 18 (.bool Q) ?_ ?_
  ·cases y:(decide (l.J=(-1)))
   ·have b:=GW y b;obtain⟨ai,_,U⟩:=s.lv;have V:=q.fl AK.f_From;have W:=V.i;refine AU ?_;refine A8 b O O O SL O (λX z h' o=>JD (St.all h') (U.mono (o.all g.1)) W z) λX b=>AU ?_;cases b;exact A0 O
   have b:=GV y b;cases b;exact BF O O
  refine AU ?_;cases a;exact A0 O
 refine AU ?_;obtain⟨Y,c,E⟩:=bd E;refine AY 10 30 (.bool Y) ?_ ?_
 ·cases A:w
  ·have c:=GW A c;cases c;exact BF O O
  have c:=GV A c;refine AU ?_;obtain⟨Z,d,c⟩:=bd c;refine AY 5 29 (.bool Z) ?_ ?_
  ·cases D:(decide (l.C=(-1)))
   ·have d:=GW D d;obtain⟨aj,_,aa⟩:=s.lv;have ab:=q.fl AK.f_To;have ac:=ab.i;refine AU ?_;refine A8 d O O O SL O (λad F h' o=>JD (St.all h') (aa.mono (o.all g.1)) ac F) λad d=>AU ?_;cases d;exact A0 O
   have d:=GV D d;cases d;exact BF O O
  refine AU ?_;cases c;exact A0 O
 refine AU ?_;exact BK (kp [4] O) λak ae al=>RT
def Qb (D:St S L h) {b:Value}{p0_w:AI}(g:Rd S h HU b p0_w) {a:Int}(p:AA a) {r:AI}(E:MQ N p0_w a=some r):
 B0 prog 185 #[b,vI a] S h (λv S' h'=>v= .agg #[vI r.hi,.int .u64 r.lo]∧AI.ok r∧St S' (L) h'):=by
 refine BA 22 func185 O ntmps185 O λB=>?_;rw[MQ] at E;refine AU ?_;refine By O g CE O D λK S2 M q Q F=>CO VY O q λU V j s=>AU ?_;refine BX (.inl O) j ?_;have k:=F.mono s;have t:=k.fl Me;refine AU ?_;refine UN NI j.1 O t ty_176.1 O λl=>AU ?_;refine D7 O Lw Ij O ?_;have u:=Yh (x:=p0_w.lo) (y:=(IntKind.wrap .u64 a)) (c:=0) l (Cf _ _) qS;refine aT O O (gW _ _ _ l (Cf _ _) qS) O (AU ?_);refine BK (kp [6,5,4,2] O) λG m w=>?_;have H:=k.mono w;refine AU ?_;refine D7 O Ij Lw O ?_;obtain⟨n,d,E⟩:=bd E;have d:=tN d;have z:AA n:=d▸BI _;refine eM O O O d (AU ?_);refine FV (cs:=[vI n,.int .u64 ((K1 p0_w.lo (IntKind.wrap .u64 a) 0).1)]) Vh O O O (AU ?_);refine Cu O O O O ty_178.1 O m .head O λI i J=>AU ?_;refine Bu (λW X A C=>?_);have o:=i.drop .head;cases E;exact JC A O C (Gw (Tj A C i O mh ty_178.1 O) JB) O EX ⟨O,⟨z,u.1⟩,o⟩
def HE {g:Nat}{m:(List (AC×AI))}(hs:St S (MP (λk:AC=>Value.agg (AC.v k).toArray) (λk:AI=>Value.agg #[vI (BD k.hi),.int .u64 (IntKind.wrap .u64 k.lo)]) g m::L) h) {c:Int}(A:AA c) {b:Int}(q:AA b) {d:Value}{j:(List Int)}(l:Sl S h AB d j) {r:(List (AC×AI))}(E:F7 N m c b j=some r):
 B0 prog 102 #[.map (some g),vI c,vI b,d] S h (λv S' h'=>v= .tuple #[]∧St S' (MP (λk:AC=>Value.agg (AC.v k).toArray) (λk:AI=>Value.agg #[vI (BD k.hi),.int .u64 (IntKind.wrap .u64 k.lo)]) g r::L) h'):=by
 refine BA 30 func102 O ntmps102 O λB=>?_;rw[F7] at E;refine AU ?_;refine A5 (A4 (λn0=>λa w=>∃(p:Int) (D:(List (AC×AI))),IV B S h (30,[]) a w [(12,vI (↑j.length:Int)),(11,d),(0,.map (some g)),(1,vI c),(2,vI b),(13,vI p)] (MP (λk:AC=>Value.agg (AC.v k).toArray) (λk:AI=>Value.agg #[vI (BD k.hi),.int .u64 (IntKind.wrap .u64 k.lo)]) g D::L) λ_ _=>AA p∧Gu N c b j n0 p D=some r) N ?_ ?_ ?_)
 ·intro F G s t;exact⟨0,m,_,_,s.sub (kp [12,11,0,1,2,13] O),t,hs,(CB.refl S h),(iq (n:=0) O),E⟩
 ·rintro F G ⟨_,_,_,_,_,_,_,_,_,E⟩;rw[Gu] at E;cases E
 rintro n0 F G ⟨p,D,S8,h9,s,t,u,H,r6,E⟩;refine AJ ?_ s t;clear s t G F;rw[Gu] at E;refine AU ?_;refine AH O E (λU E=>?_) (λU E=>?_)
 ·refine AU ?_;refine A5 (AU ?_);have V:=l.mono' H;refine AZ E O O V sl_29.1 O λac E ad W=>?_;have X:=W.i;refine AU ?_;refine FV (cs:=[vI c,vI b,vI p]) Y0 O O O (AU ?_);refine CO Ye O u λae af I ag=>?_;refine Cu O O O O ty_175.1 O I .head O λah y ai=>AU ?_;refine Lo 7 mo (by kernel_rfl) O y (AU ?_);refine WE (k0:=(⟨c,b,p⟩:AC)) (z:=(⟨0,0⟩:AI)) NI y (mt mh) O O Rm Rc YY O O (AU ?_);obtain⟨C,J,E⟩:=bd E;refine Pq O O O kX O (λh' o=>Qb (St.all h') (HU.mk (x:=(⟨(BD (((NC (λk:AC=>Value.agg (AC.v k).toArray) D (⟨c,b,p⟩:AC)).getD (⟨0,0⟩:AI)).hi)),(IntKind.wrap .u64 (((NC (λk:AC=>Value.agg (AC.v k).toArray) D (⟨c,b,p⟩:AC)).getD (⟨0,0⟩:AI)).lo))⟩:AI)) ⟨(BI _),(Cf _ _)⟩) X J) λY=>?_;obtain⟨Z,ab⟩:=Y;refine KD λaj K ak=>WG (k0:=(⟨c,b,p⟩:AC)) (x:=C) K (.tail .head) O O (tK some (ZM C ⟨Z,ab⟩)).symm Rm Rc λam M an=>AU ?_;refine BE (AU ?_);refine WF.nil (λF G s t=>?_);have Q:=M.sel [1] 1 O;exact⟨(BD (p+1)),(Qg (λk:AC=>Value.agg (AC.v k).toArray) D (⟨c,b,p⟩:AC) C),_,_,s.sub (kp [12,11,0,1,2,13] O),t,Q,EX,(BI _),E⟩
 refine J6 O (WF.nil (λF G s t=>?_));cases E;exact JC s O t JB O H ⟨O,u⟩
def Ly {b:Nat}{o:(List (AC×AI))}(hs:St S (MP (λk:AC=>Value.agg (AC.v k).toArray) (λk:AI=>Value.agg #[vI (BD k.hi),.int .u64 (IntKind.wrap .u64 k.lo)]) b o::L) h) {i:Value}{c:AE}(t:Rd S h AM i c) {r:(List (AC×AI))}(E:IB N o c=some r):
 B0 prog 101 #[.map (some b),i,.func (.func 102) #[.map (some b)] #[]] S h (λv S' h'=>v= .tuple #[]∧St S' (MP (λk:AC=>Value.agg (AC.v k).toArray) (λk:AI=>Value.agg #[vI (BD k.hi),.int .u64 (IntKind.wrap .u64 k.lo)]) b r::L) h'):=by
 refine BA (l:=[.map (some b),i,.func (.func 102) #[.map (some b)] #[]]) 45 func101 O ntmps101 O λB=>?_;rw[IB] at E;refine AU ?_;refine By O t CE O hs λq1 S2 h3 aq e5 k6=>?_;have k8:=k6.fl F5;obtain⟨v9,_,ar⟩:=k8.ll;refine AU ?_;refine AO (λa w=>∃(u:(List (AC×AI))),IV B S2 h3 (45,[]) a w [(4,q1),(2,.func (.func 102) #[.map (some b)] #[])] (MP (λk:AC=>Value.agg (AC.v k).toArray) (λk:AI=>Value.agg #[vI (BD k.hi),.int .u64 (IntKind.wrap .u64 k.lo)]) b u::L) λ_ _=>Fv N c u=some r) ?_ ?_
 ·refine A4 (λn1=>λa w=>∃(q:Int) (x:(List (AC×AI))),IV B S2 h3 (45,[]) a w [(12,vI (↑c.D.length:Int)),(11,v9),(4,q1),(2,.func (.func 102) #[.map (some b)] #[]),(13,vI q)] (MP (λk:AC=>Value.agg (AC.v k).toArray) (λk:AI=>Value.agg #[vI (BD k.hi),.int .u64 (IntKind.wrap .u64 k.lo)]) b x::L) λ_ _=>AA q∧EV N c (Fv N c) n1 q x=some r) N ?_ ?_ ?_
  ·intro j m d g;exact⟨0,o,_,_,d.sub (kp [12,11,4,2,13] O),g,aq,(CB.refl S2 h3),(iq (n:=0) O),E⟩
  ·rintro j m ⟨_,_,_,_,_,_,_,_,_,E⟩;rw[EV] at E;cases E
  rintro n1 j m ⟨q,x,bn,bo,d,g,z,M,au,E⟩;refine AJ ?_ d g;clear d g m j;rw[EV] at E;refine AU ?_;refine AH O E (λav E=>?_) (λav E=>?_)
  ·refine AU ?_;refine A5 (AU ?_);have aw:=ar.mono' M;refine AZ E O O aw sl_32.1 O λbp E bq ax=>?_;obtain⟨br,_,ay⟩:=ax.ll;refine AU ?_;refine Bw (AU ?_);refine BQ E O O O SO O (λQ U=>HE z (iq (n:=0) O) au ay U) λQ E bs bt bu bv p=>?_;obtain⟨rfl,V⟩:=p;refine AU ?_;refine BE (AU ?_);refine WF.nil (λj m d g=>?_);exact⟨(BD (q+1)),Q,_,_,d.sub (kp [12,11,4,2,13] O),g,V,EX,(BI _),E⟩
  refine BC O (λj m d g=>?_);exact⟨x,_,_,d.sub (kp [4,2] O),g,z,M,E⟩
 rintro j m ⟨u,C,F,d,g,W,az,E⟩;refine AJ ?_ d g;clear d g m j;rw[Fv] at E;have X:=k6.mono az;have a0:=X.fl Gg;obtain⟨a1,_,a2⟩:=a0.ll;refine AU ?_;refine AO (λa w=>∃(H:(List (AC×AI))),IV B C F (45,[]) a w [(4,q1),(2,.func (.func 102) #[.map (some b)] #[])] (MP (λk:AC=>Value.agg (AC.v k).toArray) (λk:AI=>Value.agg #[vI (BD k.hi),.int .u64 (IntKind.wrap .u64 k.lo)]) b H::L) λ_ _=>Fu N c H=some r) ?_ ?_
 ·refine A4 (λn3=>λa w=>∃(s:Int) (y:(List (AC×AI))),IV B C F (45,[]) a w [(25,vI (↑c.G.length:Int)),(24,a1),(4,q1),(2,.func (.func 102) #[.map (some b)] #[]),(26,vI s)] (MP (λk:AC=>Value.agg (AC.v k).toArray) (λk:AI=>Value.agg #[vI (BD k.hi),.int .u64 (IntKind.wrap .u64 k.lo)]) b y::L) λ_ _=>AA s∧EU N c (Fu N c) n3 s y=some r) N ?_ ?_ ?_
  ·intro j m d g;exact⟨0,u,_,_,d.sub (kp [25,24,4,2,26] O),g,W,(CB.refl C F),(iq (n:=0) O),E⟩
  ·rintro j m ⟨_,_,_,_,_,_,_,_,_,E⟩;rw[EU] at E;cases E
  rintro n3 j m ⟨s,y,bw,bx,d,g,A,Y,bz,E⟩;refine AJ ?_ d g;clear d g m j;rw[EU] at E;refine AU ?_;refine AH O E (λa3 E=>?_) (λa3 E=>?_)
  ·refine AU ?_;refine A5 (AU ?_);have a4:=a2.mono' Y;refine AZ E O O a4 sl_33.1 O λb0 E b1 a5=>?_;obtain⟨b2,_,a6⟩:=a5.lv;refine AU ?_;refine CO OC O A λb3 b4 Z a7=>?_;have a8:=a6.mono a7;obtain⟨b5,rfl,b6,a9,ba⟩:=A3.ex a8;refine Dk O O O ON ty_121.1 O Z .head O λb7 ab bb=>AU ?_;refine Bw (AU ?_);have ac:=ab.pick (.tail .head);have bc:=ba.mono' bb;refine BQ E O O O SO O (λad ae=>HE ac (iq (n:=0) O) a9 bc ae) λad E b8 b9 ca cb p=>?_;obtain⟨rfl,af⟩:=p;refine AU ?_;refine BE (AU ?_);refine WF.nil (λj m d g=>?_);have ag:=af.drop (.tail .head);exact⟨(BD (s+1)),ad,_,_,d.sub (kp [25,24,4,2,26] O),g,ag,EX,(BI _),E⟩
  refine BC O (λj m d g=>?_);exact⟨y,_,_,d.sub (kp [4,2] O),g,A,Y,E⟩
 rintro j m ⟨H,cc,cd,d,g,ah,be,E⟩;refine AJ ?_ d g;clear d g m j;rw[Fu] at E;refine AU ?_;refine Bw ?_;have ai:=X.mono be;have bf:=ai.fl I2;obtain⟨ce,_,bg⟩:=bf.ll;refine AU ?_;refine BQ E O O O SO O (λbh aj=>HE ah (iq (n:=1) O) (iq (n:=(-1)) O) bg aj) λbh E cf cg ch ak p=>?_;obtain⟨rfl,I⟩:=p;refine AU ?_;refine Bw ?_;have am:=ai.mono ak;have an:=am.fl HB;obtain⟨bi,_,ao⟩:=an.ll;refine AU ?_;refine BQ E O O O SO O (λap J=>HE I (iq (n:=2) O) (iq (n:=(-1)) O) ao J) λap E bj bk bl bm p=>?_;obtain⟨rfl,K⟩:=p;refine AU ?_;refine WF.nil (λj m d g=>?_);cases E;exact JC d O g JB O EX ⟨O,K⟩
def Qa (D:St S L h) {b:Value}{p0_w:AI}(g:Rd S h HU b p0_w) {a:Int}(p:AA a) {r:AI}(E:MN N p0_w a=some r):
 B0 prog 186 #[b,vI a] S h (λv S' h'=>v= .agg #[vI r.hi,.int .u64 r.lo]∧AI.ok r∧St S' (L) h'):=by
 refine BA 22 func186 O ntmps186 O λB=>?_;rw[MN] at E;refine AU ?_;refine By O g CE O D λK S2 M q Q F=>CO VY O q λU V j s=>AU ?_;refine BX (.inl O) j ?_;have k:=F.mono s;have t:=k.fl Me;refine AU ?_;refine UN NI j.1 O t ty_176.1 O λl=>AU ?_;refine D7 O Lw Ij O ?_;have u:=Yg (x:=p0_w.lo) (y:=(IntKind.wrap .u64 a)) (c:=0) l (Cf _ _) qS;refine aT O O (gV _ _ _ l (Cf _ _) qS) O (AU ?_);refine BK (kp [6,5,4,2] O) λG m w=>?_;have H:=k.mono w;refine AU ?_;refine D7 O Ij Lw O ?_;obtain⟨n,d,E⟩:=bd E;have d:=tN d;have z:AA n:=d▸BI _;refine dT O O O d (AU ?_);refine FV (cs:=[vI n,.int .u64 ((K0 p0_w.lo (IntKind.wrap .u64 a) 0).1)]) Vh O O O (AU ?_);refine Cu O O O O ty_178.1 O m .head O λI i J=>AU ?_;refine Bu (λW X A C=>?_);have o:=i.drop .head;cases E;exact JC A O C (Gw (Tj A C i O mh ty_178.1 O) JB) O EX ⟨O,⟨z,u.1⟩,o⟩
def Ev {g:Nat}{m:(List (AC×AI))}(hs:St S (MP (λk:AC=>Value.agg (AC.v k).toArray) (λk:AI=>Value.agg #[vI (BD k.hi),.int .u64 (IntKind.wrap .u64 k.lo)]) g m::L) h) {c:Int}(A:AA c) {b:Int}(q:AA b) {d:Value}{j:(List Int)}(l:Sl S h AB d j) {r:(List (AC×AI))}(E:EI N m c b j=some r):
 B0 prog 103 #[.map (some g),vI c,vI b,d] S h (λv S' h'=>v= .tuple #[]∧St S' (MP (λk:AC=>Value.agg (AC.v k).toArray) (λk:AI=>Value.agg #[vI (BD k.hi),.int .u64 (IntKind.wrap .u64 k.lo)]) g r::L) h'):=by
 refine BA 30 func103 O ntmps103 O λB=>?_;rw[EI] at E;refine AU ?_;refine A5 (A4 (λn0=>λa w=>∃(p:Int) (D:(List (AC×AI))),IV B S h (30,[]) a w [(12,vI (↑j.length:Int)),(11,d),(0,.map (some g)),(1,vI c),(2,vI b),(13,vI p)] (MP (λk:AC=>Value.agg (AC.v k).toArray) (λk:AI=>Value.agg #[vI (BD k.hi),.int .u64 (IntKind.wrap .u64 k.lo)]) g D::L) λ_ _=>AA p∧Gv N c b j n0 p D=some r) N ?_ ?_ ?_)
 ·intro F G s t;exact⟨0,m,_,_,s.sub (kp [12,11,0,1,2,13] O),t,hs,(CB.refl S h),(iq (n:=0) O),E⟩
 ·rintro F G ⟨_,_,_,_,_,_,_,_,_,E⟩;rw[Gv] at E;cases E
 rintro n0 F G ⟨p,D,S8,h9,s,t,u,H,r6,E⟩;refine AJ ?_ s t;clear s t G F;rw[Gv] at E;refine AU ?_;refine AH O E (λU E=>?_) (λU E=>?_)
 ·refine AU ?_;refine A5 (AU ?_);have V:=l.mono' H;refine AZ E O O V sl_29.1 O λac E ad W=>?_;have X:=W.i;refine AU ?_;refine FV (cs:=[vI c,vI b,vI p]) Y0 O O O (AU ?_);refine CO Ye O u λae af I ag=>?_;refine Cu O O O O ty_175.1 O I .head O λah y ai=>AU ?_;refine Lo 7 mo (by kernel_rfl) O y (AU ?_);refine WE (k0:=(⟨c,b,p⟩:AC)) (z:=(⟨0,0⟩:AI)) NI y (mt mh) O O Rm Rc YY O O (AU ?_);obtain⟨C,J,E⟩:=bd E;refine Pq O O O kW O (λh' o=>Qa (St.all h') (HU.mk (x:=(⟨(BD (((NC (λk:AC=>Value.agg (AC.v k).toArray) D (⟨c,b,p⟩:AC)).getD (⟨0,0⟩:AI)).hi)),(IntKind.wrap .u64 (((NC (λk:AC=>Value.agg (AC.v k).toArray) D (⟨c,b,p⟩:AC)).getD (⟨0,0⟩:AI)).lo))⟩:AI)) ⟨(BI _),(Cf _ _)⟩) X J) λY=>?_;obtain⟨Z,ab⟩:=Y;refine KD λaj K ak=>WG (k0:=(⟨c,b,p⟩:AC)) (x:=C) K (.tail .head) O O (tK some (ZM C ⟨Z,ab⟩)).symm Rm Rc λam M an=>AU ?_;refine BE (AU ?_);refine WF.nil (λF G s t=>?_);have Q:=M.sel [1] 1 O;exact⟨(BD (p+1)),(Qg (λk:AC=>Value.agg (AC.v k).toArray) D (⟨c,b,p⟩:AC) C),_,_,s.sub (kp [12,11,0,1,2,13] O),t,Q,EX,(BI _),E⟩
 refine J6 O (WF.nil (λF G s t=>?_));cases E;exact JC s O t JB O H ⟨O,u⟩
def Lx {b:Nat}{o:(List (AC×AI))}(hs:St S (MP (λk:AC=>Value.agg (AC.v k).toArray) (λk:AI=>Value.agg #[vI (BD k.hi),.int .u64 (IntKind.wrap .u64 k.lo)]) b o::L) h) {i:Value}{c:AE}(t:Rd S h AM i c) {r:(List (AC×AI))}(E:IA N o c=some r):
 B0 prog 101 #[.map (some b),i,.func (.func 103) #[.map (some b)] #[]] S h (λv S' h'=>v= .tuple #[]∧St S' (MP (λk:AC=>Value.agg (AC.v k).toArray) (λk:AI=>Value.agg #[vI (BD k.hi),.int .u64 (IntKind.wrap .u64 k.lo)]) b r::L) h'):=by
 refine BA (l:=[.map (some b),i,.func (.func 103) #[.map (some b)] #[]]) 45 func101 O ntmps101 O λB=>?_;rw[IA] at E;refine AU ?_;refine By O t CE O hs λq1 S2 h3 aq e5 k6=>?_;have k8:=k6.fl F5;obtain⟨v9,_,ar⟩:=k8.ll;refine AU ?_;refine AO (λa w=>∃(u:(List (AC×AI))),IV B S2 h3 (45,[]) a w [(4,q1),(2,.func (.func 103) #[.map (some b)] #[])] (MP (λk:AC=>Value.agg (AC.v k).toArray) (λk:AI=>Value.agg #[vI (BD k.hi),.int .u64 (IntKind.wrap .u64 k.lo)]) b u::L) λ_ _=>Ft N c u=some r) ?_ ?_
 ·refine A4 (λn1=>λa w=>∃(q:Int) (x:(List (AC×AI))),IV B S2 h3 (45,[]) a w [(12,vI (↑c.D.length:Int)),(11,v9),(4,q1),(2,.func (.func 103) #[.map (some b)] #[]),(13,vI q)] (MP (λk:AC=>Value.agg (AC.v k).toArray) (λk:AI=>Value.agg #[vI (BD k.hi),.int .u64 (IntKind.wrap .u64 k.lo)]) b x::L) λ_ _=>AA q∧ET N c (Ft N c) n1 q x=some r) N ?_ ?_ ?_
  ·intro j m d g;exact⟨0,o,_,_,d.sub (kp [12,11,4,2,13] O),g,aq,(CB.refl S2 h3),(iq (n:=0) O),E⟩
  ·rintro j m ⟨_,_,_,_,_,_,_,_,_,E⟩;rw[ET] at E;cases E
  rintro n1 j m ⟨q,x,bn,bo,d,g,z,M,au,E⟩;refine AJ ?_ d g;clear d g m j;rw[ET] at E;refine AU ?_;refine AH O E (λav E=>?_) (λav E=>?_)
  ·refine AU ?_;refine A5 (AU ?_);have aw:=ar.mono' M;refine AZ E O O aw sl_32.1 O λbp E bq ax=>?_;obtain⟨br,_,ay⟩:=ax.ll;refine AU ?_;refine Bw (AU ?_);refine BQ E O O O Pm O (λQ U=>Ev z (iq (n:=0) O) au ay U) λQ E bs bt bu bv p=>?_;obtain⟨rfl,V⟩:=p;refine AU ?_;refine BE (AU ?_);refine WF.nil (λj m d g=>?_);exact⟨(BD (q+1)),Q,_,_,d.sub (kp [12,11,4,2,13] O),g,V,EX,(BI _),E⟩
  refine BC O (λj m d g=>?_);exact⟨x,_,_,d.sub (kp [4,2] O),g,z,M,E⟩
 rintro j m ⟨u,C,F,d,g,W,az,E⟩;refine AJ ?_ d g;clear d g m j;rw[Ft] at E;have X:=k6.mono az;have a0:=X.fl Gg;obtain⟨a1,_,a2⟩:=a0.ll;refine AU ?_;refine AO (λa w=>∃(H:(List (AC×AI))),IV B C F (45,[]) a w [(4,q1),(2,.func (.func 103) #[.map (some b)] #[])] (MP (λk:AC=>Value.agg (AC.v k).toArray) (λk:AI=>Value.agg #[vI (BD k.hi),.int .u64 (IntKind.wrap .u64 k.lo)]) b H::L) λ_ _=>Fs N c H=some r) ?_ ?_
 ·refine A4 (λn3=>λa w=>∃(s:Int) (y:(List (AC×AI))),IV B C F (45,[]) a w [(25,vI (↑c.G.length:Int)),(24,a1),(4,q1),(2,.func (.func 103) #[.map (some b)] #[]),(26,vI s)] (MP (λk:AC=>Value.agg (AC.v k).toArray) (λk:AI=>Value.agg #[vI (BD k.hi),.int .u64 (IntKind.wrap .u64 k.lo)]) b y::L) λ_ _=>AA s∧ES N c (Fs N c) n3 s y=some r) N ?_ ?_ ?_
  ·intro j m d g;exact⟨0,u,_,_,d.sub (kp [25,24,4,2,26] O),g,W,(CB.refl C F),(iq (n:=0) O),E⟩
  ·rintro j m ⟨_,_,_,_,_,_,_,_,_,E⟩;rw[ES] at E;cases E
  rintro n3 j m ⟨s,y,bw,bx,d,g,A,Y,bz,E⟩;refine AJ ?_ d g;clear d g m j;rw[ES] at E;refine AU ?_;refine AH O E (λa3 E=>?_) (λa3 E=>?_)
  ·refine AU ?_;refine A5 (AU ?_);have a4:=a2.mono' Y;refine AZ E O O a4 sl_33.1 O λb0 E b1 a5=>?_;obtain⟨b2,_,a6⟩:=a5.lv;refine AU ?_;refine CO OC O A λb3 b4 Z a7=>?_;have a8:=a6.mono a7;obtain⟨b5,rfl,b6,a9,ba⟩:=A3.ex a8;refine Dk O O O ON ty_121.1 O Z .head O λb7 ab bb=>AU ?_;refine Bw (AU ?_);have ac:=ab.pick (.tail .head);have bc:=ba.mono' bb;refine BQ E O O O Pm O (λad ae=>Ev ac (iq (n:=0) O) a9 bc ae) λad E b8 b9 ca cb p=>?_;obtain⟨rfl,af⟩:=p;refine AU ?_;refine BE (AU ?_);refine WF.nil (λj m d g=>?_);have ag:=af.drop (.tail .head);exact⟨(BD (s+1)),ad,_,_,d.sub (kp [25,24,4,2,26] O),g,ag,EX,(BI _),E⟩
  refine BC O (λj m d g=>?_);exact⟨y,_,_,d.sub (kp [4,2] O),g,A,Y,E⟩
 rintro j m ⟨H,cc,cd,d,g,ah,be,E⟩;refine AJ ?_ d g;clear d g m j;rw[Fs] at E;refine AU ?_;refine Bw ?_;have ai:=X.mono be;have bf:=ai.fl I2;obtain⟨ce,_,bg⟩:=bf.ll;refine AU ?_;refine BQ E O O O Pm O (λbh aj=>Ev ah (iq (n:=1) O) (iq (n:=(-1)) O) bg aj) λbh E cf cg ch ak p=>?_;obtain⟨rfl,I⟩:=p;refine AU ?_;refine Bw ?_;have am:=ai.mono ak;have an:=am.fl HB;obtain⟨bi,_,ao⟩:=an.ll;refine AU ?_;refine BQ E O O O Pm O (λap J=>Ev I (iq (n:=2) O) (iq (n:=(-1)) O) ao J) λap E bj bk bl bm p=>?_;obtain⟨rfl,K⟩:=p;refine AU ?_;refine WF.nil (λj m d g=>?_);cases E;exact JC d O g JB O EX ⟨O,K⟩
end Go.Proofs.YtedgiljmffngoaaGreat
