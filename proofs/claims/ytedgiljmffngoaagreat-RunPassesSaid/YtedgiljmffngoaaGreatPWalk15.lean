import Derived.Test.YtedgiljmffngoaaGreatPInst
import Derived.Test.YtedgiljmffngoaaGreatPForms
import Derived.Test.YtedgiljmffngoaaGreatPSort5
import Derived.Test.YtedgiljmffngoaaGreatPWalk12
import Derived.Test.YtedgiljmffngoaaGreatPWalk14
namespace Go.Proofs.YtedgiljmffngoaaGreat
set_option linter.all false
open Go.RowKit
open Go.Proofs.Tryz
set_option maxRecDepth 10000
set_option maxHeartbeats 2000000
variable {N:Nat}{S:Nat→Prop}{L:List HP}{h:AS}
def OZ (hs:St S L h) {ai:Value}{k:AE}(a3:Rd S h By ai k) {r:Bool}(E:He N k=some r):
 B6 prog 180 #[ai] S h (λv S' h'=>v= .bool r∧St S' (L) h'):=by
 refine A7 128 func180 O ntmps180 O λB=>?_;rw[He] at E;refine AU ?_;refine Bz O a3 CE O hs λq1 S2 h3 fp e5 k6=>AU ?_;obtain⟨dk,E⟩:=KM E;refine J2 (r:=AB) (zx:=0) H5 O ⟨O,by unfold AA;omega⟩ O O dk O O fp λq bo dl fq=>?_;have dm:=k6.mono fq;have fr:=dm.fl BZ;obtain⟨fs,_,ft⟩:=fr.ll;refine AU ?_;refine AN (λa w=>∃(a4:List Int),IV B S2 bo (128,[]) a w [(3,q),(1,q1)] (OS AB 3 q a4::L) λ_ _=>Dc N k a4=some r) ?_ ?_
 ·refine AY (λn1=>λa w=>∃(ah:Int) (an:List Int),IV B S2 bo (128,[]) a w [(16,vI (↑k.A.length:Int)),(15,fs),(3,q),(1,q1),(17,vI ah)] (OS AB 3 q an::L) λ_ _=>AA ah∧Da N k (Dc N k) n1 ah an=some r) N ?_ ?_ ?_
  ·intro t u d g;exact⟨0,(List.replicate ((↑k.A.length:Int):Int).toNat (0:Int)),_,_,d.sub (kp [16,15,3,1,17] O),g,dl,(CG.refl S2 bo),(iq (n:=0) O),E⟩
  ·rintro t u ⟨_,_,_,_,_,_,_,_,_,E⟩;rw[Da] at E;cases E
  rintro n1 t u ⟨ah,an,jq,jr,d,g,a8,dn,js,E⟩;refine AK ?_ d g;clear d g u t;rw[Da] at E;refine AU ?_;refine AG O E (λfu E=>?_) (λfu E=>?_)
  ·refine AU ?_;refine A3 (AU ?_);have fv:=ft.mono' dn;refine A4 E O O fv Kk.1 O λjt E ju fw=>?_;obtain⟨jv,_,fx⟩:=fw.lv;refine AU ?_;refine CP MS O a8 λjw jx dp fy=>AU ?_;have f0:=fx.mono fy;obtain⟨jy,jz,j0,rfl,j1,j2,j3,j4,j5,j6,f1,f2,j7,j8,j9,ka⟩:=CJ.ex f0;refine DU O O O ON MW.1 O dp .head O λkb dq kc=>AU ?_;refine B1 (AU ?_);refine Cf E O O O Rk O dq (λbp dr=>IM (St.all _) f1 f2 dr) λbp E kd ke kf a9 kg kh p=>?_;obtain⟨rfl,f3,ge⟩:=p;refine AU ?_;obtain⟨ki,ds,E⟩:=bd E;refine BT a9 (mt mh) O O Ce.1 ds O λkj dt=>AU ?_;obtain⟨f4,du,E⟩:=bd E;refine FK (r:=AB) (l:=an) (i:=ah) (x:=f4) O O (⟨_,O,O,f3⟩:Rd _ _ AB _ bp) dt du Nh.id Gq.1 (λ_=>rfl) a9 (.tail .head) λkk dv kl=>AU ?_;refine BE (AU ?_);refine WF.nil (λt u d g=>?_);have dw:=dv.sel [1] 1 O;exact⟨(A9 (ah+1)),(upd an ah bp),_,_,d.sub (kp [16,15,3,1,17] O),g,dw,EX,(BF _),E⟩
  refine A8 O (λt u d g=>?_);exact⟨an,_,_,d.sub (kp [3,1] O),g,a8,dn,E⟩
 rintro t u ⟨a4,bq,br,d,g,dx,f5,E⟩;refine AK ?_ d g;clear d g u t;rw[Dc] at E;have f6:=dm.mono f5;have f7:=f6.fl Gn;obtain⟨ap,_,f8⟩:=f7.ll;refine AU ?_;refine AN (λa w=>∃(ao:List Int),IV B bq br (128,[]) a w [(3,q)] (OS AB 3 q ao::L) λ_ _=>Ci N ao=some r) ?_ ?_
 ·refine AY (λn3=>λa w=>∃(V:Int) (y:List Int),IV B bq br (128,[]) a w [(33,vI (↑k.F.length:Int)),(32,ap),(3,q),(34,vI V)] (OS AB 3 q y::L) λ_ _=>AA V∧BX N k (Ci N) n3 V y=some r) N ?_ ?_ ?_
  ·intro t u d g;exact⟨0,a4,_,_,d.sub (kp [33,32,3,34] O),g,dx,(CG.refl bq br),(iq (n:=0) O),E⟩
  ·rintro t u ⟨_,_,_,_,_,_,_,_,_,E⟩;rw[BX] at E;cases E
  rintro n3 t u ⟨V,y,C,dy,d,g,aq,ba,km,E⟩;refine AK ?_ d g;clear d g u t;rw[BX] at E;refine AU ?_;refine AG O E (λdz E=>?_) (λdz E=>?_)
  ·refine AU ?_;refine AN (λa w=>∃(aj:List Int),IV B C dy (128,[]) a w [(33,vI (↑k.F.length:Int)),(32,ap),(3,q),(34,vI V)] (OS AB 3 q aj::L) λ_ _=>CU N V (BX N k (Ci N) n3) aj=some r) ?_ ?_
   ·refine AU ?_;have d0:=f8.mono' ba;refine A4 E O O d0 Om.1 O λc E gf d1=>?_;obtain⟨gg,_,d2⟩:=d1.lv;refine AU ?_;refine CP Oe O aq λz gh bs d3=>?_;have d4:=d2.mono d3;obtain⟨bb,bc,be,rfl,gi,gj,gl,gm,d5,d6,d7,gn,gp,gq,gr,bf,bg,gs,gt,bh,bi,gu⟩:=B7.ex d4;refine DU O O O ON Oj.1 O bs .head O λH j gv=>AU ?_;refine A3 (AU ?_);refine AG O E (λd8 E=>?_) (λd8 E=>?_)
    ·refine AU ?_;obtain⟨gw,bt,E⟩:=bd E;obtain⟨K,bu,E⟩:=bd E;obtain⟨M,bv,E⟩:=bd E;obtain⟨gx,bw,E⟩:=bd E;refine OJ (m:=[(7,vP z 0),(33,vI (↑k.F.length:Int)),(32,ap),(3,q),(34,vI V)]) 17 (λi v hh=>match i with|0=>v=q|1=>v=vP z 2|2=>v=vI c.D∧AA c.D|3=>EP q (c.D.toNat*(AB).sz+0) v|4=>v=vI K∧AA K|5=>v=vP z 4|6=>Sl C hh CA v c.Aw|7=>v=vP z 5|8=>v=vP z 5|9=>Sl C hh CA v c.Ag.Az|10=>v=vP z 5|11=>v=vP z 6|12=>Sl C hh CA v c.Ag.Ba|13=>Sl (SN C H hh) hh (A6.sl CA) v ([c.Aw,c.Ag.Az,c.Ag.Ba]:List (List BU))∧∃ad,v= .slice (some ad) 3 3|14=>v=vI M∧AA M|15=>v=vI (A9 (K+M))∧AA (A9 (K+M))|16=>EP q (c.D.toNat*(AB).sz+0) v|_=>False) [[],[],[(1,43)],[(0,42),(2,44)],[(3,45)],[],[(5,47)],[],[(7,49)],[(8,50)],[],[(10,52)],[(11,53)],[(6,48),(9,51),(12,54)],[(13,55)],[(4,46),(14,56)],[(0,42),(2,44)]] [(15,57),(16,58)] mo (by kernel_rfl) [7,33,32,3,34] O (by kernel_rfl) (by kernel_rfl) (by kernel_rfl) (kp [7,33,32,3,34] O) MO ?_ ?_
     ·refine AV.cons O ET (AV.cons O ET (AV.cons O ET (AV.cons O ?_ ?_)))
      ·intro mq hh o;intro gy d9 gz eb;have I:=o.st j;cases d9;obtain⟨rfl,g0⟩:=eb;refine AU ?_;refine BT I (mt mh) O O Ce.1 bt O λg1 bx=>AU ?_;exact BC bx
      refine AV.cons O ?_ ?_
      ·intro mq hh o;intro g2 ec;have I:=o.st j;refine AU ?_;have ed:=I.epAt (mt mh) bu Ff.id ec;refine FU K9 (λ_ x=>x) O ed Gq.1 O λee=>AU ?_;exact BC ⟨O,ee⟩
      refine AV.cons O ET (AV.cons O ?_ ?_)
      ·intro mq hh o;intro g3 ef;have I:=o.st j;cases ef;refine AU ?_;have eg:=d5.nw;exact BC eg
      refine AV.cons O ET (AV.cons O ET (AV.cons O ?_ ?_))
      ·intro mq hh o;intro g4 eh;have I:=o.st j;cases eh;refine AU ?_;have ei:=d6.nw;exact BC ei
      refine AV.cons O ET (AV.cons O ET (AV.cons O ?_ ?_))
      ·intro mq hh o;intro g5 ej;have I:=o.st j;cases ej;refine AU ?_;have ek:=d7.nw;exact BC ek
      refine AV.cons O ?_ ?_
      ·intro mq hh o;intro el X em Z en ab;have I:=SN.st j o;have X:=Sl.sn H X;have X:Sl _ _ CA el c.Aw:=X;have Z:=Sl.sn H Z;have Z:Sl _ _ CA em c.Ag.Az:=Z;have ab:=Sl.sn H ab;have ab:Sl _ _ CA en c.Ag.Ba:=ab;have f9:=I.fz;obtain⟨bz,a5,rfl,g6⟩:=(X).len;obtain⟨b0,a6,rfl,g7⟩:=(Z).len;obtain⟨b1,a7,rfl,g8⟩:=(ab).len;refine Ez (cs:=[(.slice bz c.Aw.length a5),(.slice b0 c.Ag.Az.length a6),(.slice b1 c.Ag.Ba.length a7)]) pF O O O O O O O f9 λg9 ha b2 ar=>?_;have eo:=ab.mono' ar;have ep:=Z.mono' ar;have eq:=X.mono' ar;have b3:=b2.bxos (r:=(A6.sl CA)) (l:=([c.Aw,c.Ag.Az,c.Ag.Ba]:List (List BU))) .head ⟨_,_,O,⟨_,O,eq⟩,⟨_,_,O,⟨_,O,ep⟩,⟨_,_,O,⟨_,O,eo⟩,O⟩⟩⟩ (by simp [maxLen]);obtain⟨hc,b4,hd,er⟩:=b3.pubs .head;have au:=Fz.done o EX b4;exact BB au.1 ⟨Sl.mono' er au.2,_,O⟩
      refine AV.cons O ?_ ?_
      ·intro mq hh o;intro he av;have I:=SN.st j o;obtain⟨av,ga,rfl⟩:=av;refine GV O O O qD O I (QQ (St.all _) (av.mono I.ea.1 I.ea.2) bv) λhg hi hj gb hk bj p=>?_;obtain⟨rfl,es,gc⟩:=p;exact BB ⟨bj.siz,λb hb=>bj.same b hb⟩ ⟨O,es⟩
      refine AV.cons O ET (AV.cons O ?_ ?_)
      ·intro mq hh o;intro hl eu hm ev;have I:=o.st j;cases eu;obtain⟨rfl,hn⟩:=ev;refine AU ?_;refine BT I (mt mh) O O Ce.1 bw O λho b5=>AU ?_;exact BC b5
      exact trivial
     intro hp ew hq ey hr ez;have b6:=SN.st j ew;obtain⟨rfl,e0⟩:=ey;obtain⟨e1,b7,E⟩:=bd E;refine FK (r:=AB) (l:=y) (i:=c.D) (x:=e1) O O (⟨_,O,O,e0⟩:Rd _ _ AB _ (A9 (K+M))) ez b7 Nh.id Gq.1 (λ_=>rfl) b6 (.tail .head) λht W hu=>AU ?_;refine AG O E (λe2 E=>?_) (λe2 E=>?_)
     ·refine L4 12 mo (by kernel_rfl) O W (AU ?_);obtain⟨hv,b8,E⟩:=bd E;refine BT W (mt mh) O O Ce.1 b8 O λhx b9=>?_;obtain⟨bk,ca,E⟩:=bd E;have e3:=W.epAt (mt mh) ca Ff.id b9;refine FU Od (λ_ x=>x) O e3 Gq.1 O λhy=>AU ?_;refine B4 E O O O Rk O (λaw cb h' o=>IM (St.all h') bh bi cb) λaw E e4=>?_;have hz:=e4;refine AU ?_;obtain⟨h0,cc,E⟩:=bd E;refine BT W (mt mh) O O Ce.1 cc O λh1 cd=>KN λh2 ce h4=>?_;obtain⟨e6,cf,E⟩:=bd E;refine FK (r:=AB) (l:=(upd y c.D (A9 (K+M)))) (i:=c.B) (x:=e6) O O (⟨_,O,O,(BF _)⟩:Rd _ _ AB _ (A9 (bk+aw))) cd cf Nh.id Gq.1 (λ_=>rfl) ce (.tail .head) λh5 cg h6=>AU ?_;refine BE (WF.nil (λt u d g=>?_));have ch:=cg.sel [1] 1 O;exact⟨(upd (upd y c.D (A9 (K+M))) c.B (A9 (bk+aw))),_,_,d.sub (kp [33,32,3,34] O),g,ch,EX,E⟩
     refine AU ?_;refine BE (WF.nil (λt u d g=>?_));have ci:=W.sel [1] 1 O;exact⟨(upd y c.D (A9 (K+M))),_,_,d.sub (kp [33,32,3,34] O),g,ci,EX,E⟩
    refine AU ?_;refine Gx (λa w=>∃(ax:Bool),IV B C H (128,[]) a w [(39,vI c.G),(7,vP z 0),(33,vI (↑k.F.length:Int)),(32,ap),(3,q),(34,vI V),(74,.bool ax)] (Bx z 117 [.string c.J,vI c.G,vI c.D,vI c.B,bb,bc,be,vI c.U,vI c.Ad,vI c.Bc,vI c.Bd,vI c.Y,vI c.T,vI c.Ax,vI c.Ay,vI c.As,vI c.An,vI c.Q]::OS AB 3 q y::L) λ_ _=>Db N y c (CU N V (BX N k (Ci N) n3)) ax=some r) ?_ ?_
    ·refine AG O E (λe7 E=>?_) (λe7 E=>?_)
     ·refine AU ?_;refine WF.nil (λt u d g=>?_);exact⟨(decide (c.G=1)),_,_,d.sub (kp [39,7,33,32,3,34,74] O),g,j,(CG.refl C H),E⟩
     refine AU ?_;refine Gx (λa w=>∃(ak:Bool),IV B C H (128,[]) a w [(39,vI c.G),(7,vP z 0),(33,vI (↑k.F.length:Int)),(32,ap),(3,q),(34,vI V),(74,.bool ak)] (Bx z 117 [.string c.J,vI c.G,vI c.D,vI c.B,bb,bc,be,vI c.U,vI c.Ad,vI c.Bc,vI c.Bd,vI c.Y,vI c.T,vI c.Ax,vI c.Ay,vI c.As,vI c.An,vI c.Q]::OS AB 3 q y::L) λ_ _=>Hj N (Db N y c (CU N V (BX N k (Ci N) n3))) ak=some r) ?_ ?_
     ·refine AG O E (λe8 E=>?_) (λe8 E=>?_)
      ·refine AU ?_;refine WF.nil (λt u d g=>?_);exact⟨(decide (c.G=5)),_,_,d.sub (kp [39,7,33,32,3,34,74] O),g,j,(CG.refl C H),E⟩
      refine AU ?_;refine WF.nil (λt u d g=>?_);exact⟨(decide (c.G=3)),_,_,d.sub (kp [39,7,33,32,3,34,74] O),g,j,(CG.refl C H),E⟩
     rintro t u ⟨ak,h7,h8,d,g,cj,e9,E⟩;refine AK ?_ d g;clear d g u t;rw[Hj] at E;refine WF.nil (λt u d g=>?_);exact⟨ak,_,_,d.sub (kp [39,7,33,32,3,34,74] O),g,cj,e9,E⟩
    rintro t u ⟨ax,h9,ia,d,g,s,ib,E⟩;refine AK ?_ d g;clear d g u t;rw[Db] at E;refine AG O E (λfa E=>?_) (λfa E=>?_)
    ·refine L4 12 mo (by kernel_rfl) O s (AU ?_);obtain⟨ic,ck,E⟩:=bd E;refine BT s (mt mh) O O Ce.1 ck O λie cl=>?_;obtain⟨bl,cm,E⟩:=bd E;have fb:=s.epAt (mt mh) cm Ff.id cl;refine FU Od (λ_ x=>x) O fb Gq.1 O λig=>AU ?_;refine B4 E O O O Rk O (λay cn h' o=>IM (St.all h') bf bg cn) λay E fc=>?_;have ih:=fc;refine AU ?_;obtain⟨ii,co,E⟩:=bd E;refine BT s (mt mh) O O Ce.1 co O λij cp=>KN λik cq il=>?_;obtain⟨fd,cr,E⟩:=bd E;refine FK (r:=AB) (l:=y) (i:=c.D) (x:=fd) O O (⟨_,O,O,(BF _)⟩:Rd _ _ AB _ (A9 (bl+ay))) cp cr Nh.id Gq.1 (λ_=>rfl) cq (.tail .head) λim ct io=>AU ?_;refine BE (WF.nil (λt u d g=>?_));have cu:=ct.sel [1] 1 O;exact⟨(upd y c.D (A9 (bl+ay))),_,_,d.sub (kp [33,32,3,34] O),g,cu,EX,E⟩
    refine AU ?_;refine AG O E (λfe E=>?_) (λfe E=>?_)
    ·refine AU ?_;refine L4 13 mo (by kernel_rfl) O s (AU ?_);obtain⟨ip,cv,E⟩:=bd E;refine BT s (mt mh) O O Ce.1 cv O λir cw=>?_;obtain⟨az,cx,E⟩:=bd E;have ff:=s.epAt (mt mh) cx Ff.id cw;refine FU Od (λ_ x=>x) O ff Gq.1 O λit=>AU ?_;refine B4 E O O O Rk O (λam cy h' o=>IM (St.all h') bf bg cy) λam E fg=>?_;have iu:=fg;refine AU ?_;obtain⟨iv,cz,E⟩:=bd E;refine BT s (mt mh) O O Ce.1 cz O λiw c0=>KN λiy c1 iz=>?_;obtain⟨fh,c2,E⟩:=bd E;refine FK (r:=AB) (l:=y) (i:=c.D) (x:=fh) O O (⟨_,O,O,(BF _)⟩:Rd _ _ AB _ (A9 (az+(A9 (2*am))))) c0 c2 Nh.id Gq.1 (λ_=>rfl) c1 (.tail .head) λi0 ac i1=>AU ?_;refine L4 13 mo (by kernel_rfl) O ac (AU ?_);obtain⟨i2,c3,E⟩:=bd E;refine BT ac (mt mh) O O Ce.1 c3 O λi3 c4=>?_;obtain⟨bm,c5,E⟩:=bd E;have fi:=ac.epAt (mt mh) c5 Ff.id c4;refine FU Od (λ_ x=>x) O fi Gq.1 O λi4=>AU ?_;refine B4 E O O O Rk O (λa0 c6 h' o=>IM (St.all h') bh bi c6) λa0 E fj=>?_;have i5:=fj;refine AU ?_;obtain⟨i6,c7,E⟩:=bd E;refine BT ac (mt mh) O O Ce.1 c7 O λi7 c8=>KN λi8 c9 i9=>?_;obtain⟨fk,da,E⟩:=bd E;refine FK (r:=AB) (l:=(upd y c.D (A9 (az+(A9 (2*am)))))) (i:=c.B) (x:=fk) O O (⟨_,O,O,(BF _)⟩:Rd _ _ AB _ (A9 (bm+(A9 (2*a0))))) c8 da Nh.id Gq.1 (λ_=>rfl) c9 (.tail .head) λja db jb=>AU ?_;refine BE (WF.nil (λt u d g=>?_));have dc:=db.sel [1] 1 O;exact⟨(upd (upd y c.D (A9 (az+(A9 (2*am))))) c.B (A9 (bm+(A9 (2*a0))))),_,_,d.sub (kp [33,32,3,34] O),g,dc,EX,E⟩
    refine AU ?_;refine BE (WF.nil (λt u d g=>?_));have dd:=s.sel [1] 1 O;exact⟨y,_,_,d.sub (kp [33,32,3,34] O),g,dd,EX,E⟩
   rintro t u ⟨aj,jc,jd,d,g,de,je,E⟩;refine AK ?_ d g;clear d g u t;rw[CU] at E;refine AU ?_;refine WF.nil (λt u d g=>?_);exact⟨(A9 (V+1)),aj,_,_,d.sub (kp [33,32,3,34] O),g,de,EX,(BF _),E⟩
  refine A8 O (λt u d g=>?_);exact⟨y,_,_,d.sub (kp [3] O),g,aq,ba,E⟩
 rintro t u ⟨ao,a1,a2,d,g,df,jf,E⟩;refine AK ?_ d g;clear d g u t;rw[Ci] at E;refine AU ?_;refine AN (λa w=>IV B a1 a2 (128,[]) a w [] (L) λ_ _=>FH N=some r) ?_ ?_
 ·refine AY (λn8=>λa w=>∃(ag:Int),IV B a1 a2 (128,[]) a w [(120,vI (↑ao.length:Int)),(119,q),(121,vI ag)] (OS AB 3 q ao::L) λ_ _=>AA ag∧DZ N ao (FH N) n8 ag=some r) N ?_ ?_ ?_
  ·intro t u d g;exact⟨0,_,_,d.sub (kp [120,119,121] O),g,df,(CG.refl a1 a2),(iq (n:=0) O),E⟩
  ·rintro t u ⟨_,_,_,_,_,_,_,_,E⟩;rw[DZ] at E;cases E
  rintro n8 t u ⟨ag,jg,jh,d,g,af,bn,ji,E⟩;refine AK ?_ d g;clear d g u t;rw[DZ] at E;refine AU ?_;refine AG O E (λfm E=>?_) (λfm E=>?_)
  ·refine AU ?_;refine A3 (AU ?_);obtain⟨jj,dg,E⟩:=bd E;refine BT af mh O O Ce.1 dg O λjk dh=>?_;obtain⟨jl,di,E⟩:=bd E;have fn:=af.epAt mh di Ff.id dh;refine FU K9 (λ_ x=>x) O fn Gq.1 O λjm=>AU ?_;refine AG O E (λfo E=>?_) (λfo E=>?_)
   ·exact RT
   refine AU ?_;refine BE (AU ?_);refine WF.nil (λt u d g=>?_);exact⟨(A9 (ag+1)),_,_,d.sub (kp [120,119,121] O),g,af,bn,(BF _),E⟩
  refine A8 O (λt u d g=>?_);have dj:=af.drop .head;exact⟨_,_,d.sub Nv,g,dj,bn,E⟩
 rintro t u ⟨jn,jo,d,g,gd,jp,E⟩;refine AK ?_ d g;clear d g u t;rw[FH] at E;exact RT
def PD (hs:St S L h) {q:Value}{b:AE}(u:Rd S h By q b) {r:Bool}(E:H3 N b=some r):
 B6 prog 181 #[q] S h (λv S' h'=>v= .bool r∧St S' (L) h'):=by
 refine A7 64 func181 O ntmps181 O λB=>?_;rw[H3] at E;refine AU ?_;refine Bz O u CE O hs λq1 S2 h3 ax e5 k6=>?_;have k8:=k6.fl Ji;obtain⟨v9,_,ay⟩:=k8.ll;refine AU ?_;refine AN (λa w=>IV B S2 h3 (64,[]) a w [(1,q1)] (L) λ_ _=>Do N b=some r) ?_ ?_
 ·refine AY (λn1=>λa w=>∃(s:Int),IV B S2 h3 (64,[]) a w [(9,vI (↑b.Ab.length:Int)),(8,v9),(1,q1),(10,vI s)] (L) λ_ _=>AA s∧Dn N b (Do N b) n1 s=some r) N ?_ ?_ ?_
  ·intro m p k l;exact⟨0,_,_,k.sub (kp [9,8,1,10] O),l,ax,(CG.refl S2 h3),(iq (n:=0) O),E⟩
  ·rintro m p ⟨_,_,_,_,_,_,_,_,E⟩;rw[Dn] at E;cases E
  rintro n1 m p ⟨s,b9,ca,k,l,x,I,cb,E⟩;refine AK ?_ k l;clear k l p m;rw[Dn] at E;refine AU ?_;refine AG O E (λaz E=>?_) (λaz E=>?_)
  ·refine AU ?_;refine A3 (AU ?_);have a0:=ay.mono' I;refine A4 E O O a0 bN.1 O λcc E cd a1=>?_;obtain⟨ce,_,a2⟩:=a1.lv;refine AU ?_;refine CP Z0 O x λcf cg J a3=>?_;have a4:=a2.mono a3;obtain⟨rfl,⟨ch,a5,a6,a7,a8,a9,ba⟩⟩:=HO.ex a4;refine C0 O O O O aT.1 O J .head O λci K cj=>AU ?_;refine BY (.inl O) K ?_;have bb:=k6.nw;have bc:=bb.fl BZ;obtain⟨ck,_,be⟩:=bc.ll;have bf:=be.le;refine AU ?_;refine A5 E O O O QL O (λM Q h' o=>HY (St.all h') a5 (KU bf) Q) λM E=>AU ?_;obtain⟨U,c,E⟩:=bd E;refine AW 5 26 (.bool U) ?_ ?_
   ·cases V:(!M)
    ·have c:=Gw V c;refine AU ?_;refine A5 c O O O JR O (λbg W h' o=>CQ (St.all h') a6 W) λbg c=>AU ?_;cases c;exact AX O
    have c:=Gv V c;cases c;exact BD O O
   refine AU ?_;obtain⟨X,d,E⟩:=bd E;refine AW 5 32 (.bool X) ?_ ?_
   ·cases Y:U
    ·have d:=Gw Y d;refine AU ?_;refine A5 d O O O HB O (λbh Z h' o=>CI (St.all h') a7 (iq (n:=0) O) (iq (n:=24) O) Z) λbh d=>AU ?_;cases d;exact AX O
    have d:=Gv Y d;cases d;exact BD O O
   refine AU ?_;obtain⟨ab,g,E⟩:=bd E;refine AW 5 38 (.bool ab) ?_ ?_
   ·cases ac:X
    ·have g:=Gw ac g;refine AU ?_;refine A5 g O O O HB O (λbi ad h' o=>CI (St.all h') a8 (iq (n:=0) O) (iq (n:=1073741824) O) ad) λbi g=>AU ?_;cases g;exact AX O
    have g:=Gv ac g;cases g;exact BD O O
   refine AU ?_;obtain⟨ae,i,E⟩:=bd E;refine AW 5 44 (.bool ae) ?_ ?_
   ·cases af:ab
    ·have i:=Gw af i;refine AU ?_;refine A5 i O O O JR O (λbj ag h' o=>CQ (St.all h') a9 ag) λbj i=>AU ?_;cases i;exact AX O
    have i:=Gv af i;cases i;exact BD O O
   refine AU ?_;obtain⟨bk,j,E⟩:=bd E;refine AW 5 50 (.bool bk) ?_ ?_
   ·cases ah:ae
    ·have j:=Gw ah j;refine AU ?_;refine A5 j O O O HB O (λbl ai h' o=>CI (St.all h') ba (iq (n:=0) O) (iq (n:=128) O) ai) λbl j=>AU ?_;cases j;exact AX O
    have j:=Gv ah j;cases j;exact BD O O
   refine BG (kp [50,9,8,1,10] O) λcl aj cm=>AG O E (λbm E=>?_) (λbm E=>?_)
   ·exact RT
   refine AU ?_;refine BE (AU ?_);refine WF.nil (λm p k l=>?_);have ak:=aj.drop .head;exact⟨(A9 (s+1)),_,_,k.sub (kp [9,8,1,10] O),l,ak,EX,(BF _),E⟩
  refine A8 O (λm p k l=>?_);exact⟨_,_,k.sub (kp [1] O),l,x,I,E⟩
 rintro m p ⟨z,A,k,l,am,bn,E⟩;refine AK ?_ k l;clear k l p m;rw[Do] at E;have bo:=k6.mono bn;have bp:=bo.fl JV;obtain⟨bq,_,br⟩:=bp.ll;refine AU ?_;refine AN (λa w=>IV B z A (64,[]) a w [] (L) λ_ _=>Fd N=some r) ?_ ?_
 ·refine AY (λn3=>λa w=>∃(t:Int),IV B z A (64,[]) a w [(54,vI (↑b.Ai.length:Int)),(53,bq),(55,vI t)] (L) λ_ _=>AA t∧Dm N b (Fd N) n3 t=some r) N ?_ ?_ ?_
  ·intro m p k l;exact⟨0,_,_,k.sub (kp [54,53,55] O),l,am,(CG.refl z A),(iq (n:=0) O),E⟩
  ·rintro m p ⟨_,_,_,_,_,_,_,_,E⟩;rw[Dm] at E;cases E
  rintro n3 m p ⟨t,cn,co,k,l,y,an,cp,E⟩;refine AK ?_ k l;clear k l p m;rw[Dm] at E;refine AU ?_;refine AG O E (λbs E=>?_) (λbs E=>?_)
  ·refine AU ?_;refine A3 (AU ?_);have bt:=br.mono' an;refine A4 E O O bt bJ.1 O λbv E bw ao=>?_;obtain⟨bx,_,ap⟩:=ao.lv;refine AU ?_;refine CP Zy O y λbz b0 C aq=>?_;have ar:=ap.mono aq;obtain⟨rfl,⟨b1,au⟩⟩:=DD.ex ar;refine C0 O O O O aQ.1 O C .head O λb2 D b3=>AU ?_;refine BY (.inl O) D (AU ?_);refine A5 E O O O HB O (λav F h' o=>CI (St.all h') au (iq (n:=0) O) (iq (n:=1073741824) O) F) λav E=>AU ?_;refine BG (kp [62,54,53,55] O) λb4 G b5=>AG O E (λaw E=>?_) (λaw E=>?_)
   ·exact RT
   refine AU ?_;refine BE (AU ?_);refine WF.nil (λm p k l=>?_);have H:=G.drop .head;exact⟨(A9 (t+1)),_,_,k.sub (kp [54,53,55] O),l,H,EX,(BF _),E⟩
  refine A8 O (λm p k l=>?_);exact⟨_,_,k.sub Nv,l,y,an,E⟩
 rintro m p ⟨b6,b7,k,l,bu,b8,E⟩;refine AK ?_ k l;clear k l p m;rw[Fd] at E;exact RT
def Ob (hs:St S L h) {g:Value}{b:AE}(s:Rd S h By g b) {r:Bool}(E:Hg N b=some r):
 B6 prog 182 #[g] S h (λv S' h'=>v= .bool r∧St S' (L) h'):=by
 refine A7 47 func182 O ntmps182 O λB=>?_;rw[Hg] at E;refine AU ?_;refine Bz O s CE O hs λq1 S2 h3 ad e5 k6=>?_;have k8:=k6.fl KP;obtain⟨v9,_,ae⟩:=k8.ll;refine AU ?_;refine AN (λa w=>IV B S2 h3 (47,[]) a w [] (L) λ_ _=>FI N=some r) ?_ ?_
 ·refine AY (λn1=>λa w=>∃(j:Int),IV B S2 h3 (47,[]) a w [(8,vI (↑b.Ae.length:Int)),(7,v9),(1,q1),(9,vI j)] (L) λ_ _=>AA j∧De N b (FI N) n1 j=some r) N ?_ ?_ ?_
  ·intro x y k m;exact⟨0,_,_,k.sub (kp [8,7,1,9] O),m,ad,(CG.refl S2 h3),(iq (n:=0) O),E⟩
  ·rintro x y ⟨_,_,_,_,_,_,_,_,E⟩;rw[De] at E;cases E
  rintro n1 x y ⟨j,a9,ba,k,m,t,D,bb,E⟩;refine AK ?_ k m;clear k m y x;rw[De] at E;refine AU ?_;refine AG O E (λaf E=>?_) (λaf E=>?_)
  ·refine AU ?_;refine A3 (AU ?_);have ag:=ae.mono' D;refine A4 E O O ag bM.1 O λbc E be ah=>?_;obtain⟨bf,_,ai⟩:=ah.lv;refine AU ?_;refine CP Zx O t λbg bh G aj=>?_;have ak:=ai.mono aj;obtain⟨rfl,⟨bi,am,an,ao,ap⟩⟩:=Eh.ex ak;refine C0 O O O O aP.1 O G .head O λbj H bk=>AU ?_;refine BY (.inl O) H (AU ?_);refine A5 E O O O HB O (λI J h' o=>CI (St.all h') am (iq (n:=0) O) (iq (n:=2) O) J) λI E=>AU ?_;obtain⟨K,c,E⟩:=bd E;refine AW 5 22 (.bool K) ?_ ?_
   ·cases M:(!I)
    ·have c:=Gw M c;refine AU ?_;refine A5 c O O O HB O (λaq Q h' o=>CI (St.all h') ao (iq (n:=0) O) (iq (n:=1099511627776) O) Q) λaq c=>AU ?_;cases c;exact AX O
    have c:=Gv M c;cases c;exact BD O O
   refine AU ?_;obtain⟨ar,d,E⟩:=bd E;refine AW 5 28 (.bool ar) ?_ ?_
   ·cases U:K
    ·have d:=Gw U d;refine AU ?_;refine A5 d O O O HB O (λau V h' o=>CI (St.all h') ap (iq (n:=0) O) (iq (n:=1440) O) V) λau d=>AU ?_;cases d;exact AX O
    have d:=Gv U d;cases d;exact BD O O
   refine BG (kp [28,4,8,7,1,9] O) λbl W bm=>AG O E (λav E=>?_) (λav E=>?_)
   ·exact RT
   have C:=k6.nw;have aw:=C.fl BZ;obtain⟨bn,_,ax⟩:=aw.ll;have ay:=ax.le;have az:=C.fl Mw;have a0:=az.i;have a1:=C.fl Gn;obtain⟨bo,_,a2⟩:=a1.ll;have a3:=a2.le;refine AU ?_;refine kN (cs:=[vI (↑b.A.length:Int),vI b.P,vI (↑b.F.length:Int)]) sE O O O (AU ?_);refine CP mV O W λbp bq X br=>?_;refine C0 O O O O nL.1 O X .head O λbs u bt=>AU ?_;refine BY (.inr ⟨mo,by kernel_rfl⟩) u (AU ?_);obtain⟨a4,q,E⟩:=bd E;have Y:=vK q;refine sQ O O sC Y.1 Y.2 O (kK (l:=([(↑b.A.length:Int),b.P,(↑b.F.length:Int)]:List Int)) (Value.int .i64) Od u O mh O q Gq.1 O ?_);have a5:AA a4:=vH (p:=λz=>AA z) (all_cons (KU ay) (all_cons a0 (all_cons (KU a3) jQ))) q;refine A5 E O O O QL O (λa6 Z h' o=>HY (St.all h') an a5 Z) λa6 E=>AU ?_;refine BG (kp [45,8,7,1,9] O) λbu ab bv=>AG O E (λa7 E=>?_) (λa7 E=>?_)
   ·exact RT
   refine AU ?_;refine BE (AU ?_);refine WF.nil (λx y k m=>?_);have ac:=ab.sel [] 2 O;exact⟨(A9 (j+1)),_,_,k.sub (kp [8,7,1,9] O),m,ac,EX,(BF _),E⟩
  refine A8 O (λx y k m=>?_);exact⟨_,_,k.sub Nv,m,t,D,E⟩
 rintro x y ⟨bw,bx,k,m,a8,bz,E⟩;refine AK ?_ k m;clear k m y x;rw[FI] at E;exact RT
end Go.Proofs.YtedgiljmffngoaaGreat
