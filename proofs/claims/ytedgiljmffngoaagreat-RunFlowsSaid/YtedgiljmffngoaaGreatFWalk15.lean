import Derived.Test.YtedgiljmffngoaaGreatFFacts
import Derived.Test.YtedgiljmffngoaaGreatFForms
import Derived.Test.YtedgiljmffngoaaGreatFInst
import Derived.Test.YtedgiljmffngoaaGreatFSort5
import Derived.Test.YtedgiljmffngoaaGreatFWalk12
import Derived.Test.YtedgiljmffngoaaGreatFWalk13
import Derived.Test.YtedgiljmffngoaaGreatFWalk14
namespace Go.Proofs.YtedgiljmffngoaaGreat
set_option linter.all false
open Go.RowKit
open Go.Proofs.Tryz
set_option maxRecDepth 10000
set_option maxHeartbeats 2000000
variable {N:Nat}{S:Nat→Prop}{L:List HP}{h:AT}
def M7 (hs:St S L h) {ac:Value}{k:AO}(az:Rd S h BW ac k) {r:Bool}(E:I3 N k=some r):
 B0 prog 180 #[ac] S h (λv S' h'=>v= .bool r∧St S' (L) h'):=by
 refine BA 128 func180 O ntmps180 O λB=>?_;rw[I3] at E;refine AU ?_;refine B4 O az CE O hs λq1 S2 h3 fk e5 k6=>AU ?_;obtain⟨dg,E⟩:=LA E;refine I7 (r:=AB) (zx:=0) GC O ⟨O,by unfold AA;omega⟩ O O dg O O fk λq bk dh fm=>?_;have di:=k6.mono fm;have fn:=di.fl B3;obtain⟨fo,_,fp⟩:=fn.ll;refine AU ?_;refine AK (λa w=>∃(a0:List Int),IV B S2 bk (128,[]) a w [(3,q),(1,q1)] (OS AB 3 q a0::L) λ_ _=>Fx N k a0=some r) ?_ ?_
 ·refine AY (λn1=>λa w=>∃(ab:Int) (ai:List Int),IV B S2 bk (128,[]) a w [(16,vI (↑k.E.length:Int)),(15,fo),(3,q),(1,q1),(17,vI ab)] (OS AB 3 q ai::L) λ_ _=>AA ab∧ES N k (Fx N k) n1 ab ai=some r) N ?_ ?_ ?_
  ·intro t u d g;exact⟨0,(List.replicate ((↑k.E.length:Int):Int).toNat (0:Int)),_,_,d.sub (kp [16,15,3,1,17] O),g,dh,(B6.refl S2 bk),(iq (n:=0) O),E⟩
  ·rintro t u ⟨_,_,_,_,_,_,_,_,_,E⟩;rw[ES] at E;cases E
  rintro n1 t u ⟨ab,ai,jl,jm,d,g,a4,dj,jn,E⟩;refine AI ?_ d g;clear d g u t;rw[ES] at E;refine AU ?_;refine AF O E (λfq E=>?_) (λfq E=>?_)
  ·refine AU ?_;refine AZ (AU ?_);have fr:=fp.mono' dj;refine A9 E O O fr sl_23.1 O λjo E jp fs=>?_;obtain⟨jq,_,ft⟩:=fs.lv;refine AU ?_;refine CG Lv O a4 λjr js dk fu=>AU ?_;have fv:=ft.mono fu;obtain⟨jt,ju,jv,rfl,jw,jx,jy,jz,j0,j1,fw,fx,j2,j3,j4,j5⟩:=BX.ex fv;refine Dj O O O ON ty_101.1 O dk .head O λj6 dl j7=>AU ?_;refine B5 (AU ?_);refine CS E O O O PU O dl (λbl dm=>Gg (St.all _) fw fx dm) λbl E j8 j9 ka a5 kb kc p=>?_;obtain⟨rfl,fy,ga⟩:=p;refine AU ?_;obtain⟨kd,dn,E⟩:=bd E;refine BT a5 (mt mh) O O sl_29.1 dn O λke dp=>AU ?_;obtain⟨f0,dq,E⟩:=bd E;refine De (r:=AB) (l:=ai) (i:=ab) (x:=f0) O O (⟨_,O,O,fy⟩:Rd _ _ AB _ bl) dp dq MT.id ty_3.1 (λ_=>rfl) a5 (.tail .head) λkf dr kg=>AU ?_;refine BD (AU ?_);refine WF.nil (λt u d g=>?_);have ds:=dr.sel [1] 1 O;exact⟨(BG (ab+1)),(upd ai ab bl),_,_,d.sub (kp [16,15,3,1,17] O),g,ds,EX,(BF _),E⟩
  refine A8 O (λt u d g=>?_);exact⟨ai,_,_,d.sub (kp [3,1] O),g,a4,dj,E⟩
 rintro t u ⟨a0,bm,bn,d,g,dt,f1,E⟩;refine AI ?_ d g;clear d g u t;rw[Fx] at E;have f2:=di.mono f1;have f3:=f2.fl Ec;obtain⟨ak,_,f4⟩:=f3.ll;refine AU ?_;refine AK (λa w=>∃(aj:List Int),IV B bm bn (128,[]) a w [(3,q)] (OS AB 3 q aj::L) λ_ _=>C6 N aj=some r) ?_ ?_
 ·refine AY (λn3=>λa w=>∃(K:Int) (y:List Int),IV B bm bn (128,[]) a w [(33,vI (↑k.J.length:Int)),(32,ak),(3,q),(34,vI K)] (OS AB 3 q y::L) λ_ _=>AA K∧CD N k (C6 N) n3 K y=some r) N ?_ ?_ ?_
  ·intro t u d g;exact⟨0,a0,_,_,d.sub (kp [33,32,3,34] O),g,dt,(B6.refl bm bn),(iq (n:=0) O),E⟩
  ·rintro t u ⟨_,_,_,_,_,_,_,_,_,E⟩;rw[CD] at E;cases E
  rintro n3 t u ⟨K,y,A,du,d,g,am,a6,kh,E⟩;refine AI ?_ d g;clear d g u t;rw[CD] at E;refine AU ?_;refine AF O E (λdv E=>?_) (λdv E=>?_)
  ·refine AU ?_;refine AK (λa w=>∃(af:List Int),IV B A du (128,[]) a w [(33,vI (↑k.J.length:Int)),(32,ak),(3,q),(34,vI K)] (OS AB 3 q af::L) λ_ _=>CY N K (CD N k (C6 N) n3) af=some r) ?_ ?_
   ·refine AU ?_;have dw:=f4.mono' a6;refine A9 E O O dw sl_24.1 O λc E gb dx=>?_;obtain⟨gc,_,dy⟩:=dx.lv;refine AU ?_;refine CG NC O am λz gd bo dz=>?_;have d0:=dy.mono dz;obtain⟨a7,a8,a9,rfl,ge,gf,gg,gh,d1,d2,d3,gi,gj,gk,gl,ba,bb,gm,gn,bc,be,gp⟩:=Bu.ex d0;refine Dj O O O ON ty_117.1 O bo .head O λF j gq=>AU ?_;refine AZ (AU ?_);refine AF O E (λd4 E=>?_) (λd4 E=>?_)
    ·refine AU ?_;obtain⟨gr,bp,E⟩:=bd E;obtain⟨H,bq,E⟩:=bd E;obtain⟨I,br,E⟩:=bd E;obtain⟨gs,bs,E⟩:=bd E;refine My (m:=[(7,vP z 0),(33,vI (↑k.J.length:Int)),(32,ak),(3,q),(34,vI K)]) 17 (λi v hh=>match i with|0=>v=q|1=>v=vP z 2|2=>v=vI c.D∧AA c.D|3=>EP q (c.D.toNat*(AB).sz+0) v|4=>v=vI H∧AA H|5=>v=vP z 4|6=>Sl A hh B9 v c.Bd|7=>v=vP z 5|8=>v=vP z 5|9=>Sl A hh B9 v c.Ao.Ba|10=>v=vP z 5|11=>v=vP z 6|12=>Sl A hh B9 v c.Ao.Bb|13=>Sl (SN A F hh) hh (BB.sl B9) v ([c.Bd,c.Ao.Ba,c.Ao.Bb]:List (List CP))∧∃ad,v= .slice (some ad) 3 3|14=>v=vI I∧AA I|15=>v=vI (BG (H+I))∧AA (BG (H+I))|16=>EP q (c.D.toNat*(AB).sz+0) v|_=>False) [[],[],[(1,43)],[(0,42),(2,44)],[(3,45)],[],[(5,47)],[],[(7,49)],[(8,50)],[],[(10,52)],[(11,53)],[(6,48),(9,51),(12,54)],[(13,55)],[(4,46),(14,56)],[(0,42),(2,44)]] [(15,57),(16,58)] mo (by kernel_rfl) [7,33,32,3,34] O (by kernel_rfl) (by kernel_rfl) (by kernel_rfl) (kp [7,33,32,3,34] O) MO ?_ ?_
     ·refine AW.cons O Fg (AW.cons O Fg (AW.cons O Fg (AW.cons O ?_ ?_)))
      ·intro mq hh o;intro gt d5 gu d6;have G:=o.st j;cases d5;obtain⟨rfl,gv⟩:=d6;refine AU ?_;refine BT G (mt mh) O O sl_29.1 bp O λgw bt=>AU ?_;exact CR bt
      refine AW.cons O ?_ ?_
      ·intro mq hh o;intro gx d7;have G:=o.st j;refine AU ?_;have d8:=G.epAt (mt mh) bq Co.id d7;refine C8 FC (λ_ x=>x) O d8 ty_3.1 O λd9=>AU ?_;exact CR ⟨O,d9⟩
      refine AW.cons O Fg (AW.cons O ?_ ?_)
      ·intro mq hh o;intro gy eb;have G:=o.st j;cases eb;refine AU ?_;have ec:=d1.nw;exact CR ec
      refine AW.cons O Fg (AW.cons O Fg (AW.cons O ?_ ?_))
      ·intro mq hh o;intro gz ed;have G:=o.st j;cases ed;refine AU ?_;have ee:=d2.nw;exact CR ee
      refine AW.cons O Fg (AW.cons O Fg (AW.cons O ?_ ?_))
      ·intro mq hh o;intro g0 ef;have G:=o.st j;cases ef;refine AU ?_;have eg:=d3.nw;exact CR eg
      refine AW.cons O ?_ ?_
      ·intro mq hh o;intro eh U ei V ej W;have G:=SN.st j o;have U:=Sl.sn F U;have U:Sl _ _ B9 eh c.Bd:=U;have V:=Sl.sn F V;have V:Sl _ _ B9 ei c.Ao.Ba:=V;have W:=Sl.sn F W;have W:Sl _ _ B9 ej c.Ao.Bb:=W;have f5:=G.fz;obtain⟨bu,a1,rfl,g1⟩:=(U).len;obtain⟨bv,a2,rfl,g2⟩:=(V).len;obtain⟨bw,a3,rfl,g3⟩:=(W).len;refine Df (cs:=[(.slice bu c.Bd.length a1),(.slice bv c.Ao.Ba.length a2),(.slice bw c.Ao.Bb.length a3)]) Y3 O O O O O O O f5 λg4 g5 bx an=>?_;have ek:=W.mono' an;have el:=V.mono' an;have em:=U.mono' an;have bz:=bx.bxos (r:=(BB.sl B9)) (l:=([c.Bd,c.Ao.Ba,c.Ao.Bb]:List (List CP))) .head ⟨_,_,O,⟨_,O,em⟩,⟨_,_,O,⟨_,O,el⟩,⟨_,_,O,⟨_,O,ek⟩,O⟩⟩⟩ (by simp [maxLen]);obtain⟨g6,b0,g7,en⟩:=bz.pubs .head;have ao:=Fz.done o EX b0;exact AL ao.1 ⟨Sl.mono' en ao.2,_,O⟩
      refine AW.cons O ?_ ?_
      ·intro mq hh o;intro g8 ap;have G:=SN.st j o;obtain⟨ap,f6,rfl⟩:=ap;refine Cn O O O ZM O G (Of (St.all _) (ap.mono G.ea.1 G.ea.2) br) λg9 ha hc f7 hd bf p=>?_;obtain⟨rfl,eo,f8⟩:=p;exact AL ⟨bf.siz,λb hb=>bf.same b hb⟩ ⟨O,eo⟩
      refine AW.cons O Fg (AW.cons O ?_ ?_)
      ·intro mq hh o;intro he ep hg eq;have G:=o.st j;cases ep;obtain⟨rfl,hi⟩:=eq;refine AU ?_;refine BT G (mt mh) O O sl_29.1 bs O λhj b1=>AU ?_;exact CR b1
      exact trivial
     intro hk er hl es hm eu;have b2:=SN.st j er;obtain⟨rfl,ev⟩:=es;obtain⟨ew,b3,E⟩:=bd E;refine De (r:=AB) (l:=y) (i:=c.D) (x:=ew) O O (⟨_,O,O,ev⟩:Rd _ _ AB _ (BG (H+I))) eu b3 MT.id ty_3.1 (λ_=>rfl) b2 (.tail .head) λhn Q ho=>AU ?_;refine AF O E (λey E=>?_) (λey E=>?_)
     ·refine Ky 12 mo (by kernel_rfl) O Q (AU ?_);obtain⟨hp,b4,E⟩:=bd E;refine BT Q (mt mh) O O sl_29.1 b4 O λhq b5=>?_;obtain⟨bg,b6,E⟩:=bd E;have ez:=Q.epAt (mt mh) b6 Co.id b5;refine C8 Lr (λ_ x=>x) O ez ty_3.1 O λhr=>AU ?_;refine CC E O O O PU O (λaq b7 h' o=>Gg (St.all h') bc be b7) λaq E e0=>?_;have ht:=e0;refine AU ?_;obtain⟨hu,b8,E⟩:=bd E;refine BT Q (mt mh) O O sl_29.1 b8 O λhv b9=>JW λhx ca hy=>?_;obtain⟨e1,cb,E⟩:=bd E;refine De (r:=AB) (l:=(upd y c.D (BG (H+I)))) (i:=c.B) (x:=e1) O O (⟨_,O,O,(BF _)⟩:Rd _ _ AB _ (BG (bg+aq))) b9 cb MT.id ty_3.1 (λ_=>rfl) ca (.tail .head) λhz cc h0=>AU ?_;refine BD (WF.nil (λt u d g=>?_));have cd:=cc.sel [1] 1 O;exact⟨(upd (upd y c.D (BG (H+I))) c.B (BG (bg+aq))),_,_,d.sub (kp [33,32,3,34] O),g,cd,EX,E⟩
     refine AU ?_;refine BD (WF.nil (λt u d g=>?_));have ce:=Q.sel [1] 1 O;exact⟨(upd y c.D (BG (H+I))),_,_,d.sub (kp [33,32,3,34] O),g,ce,EX,E⟩
    refine AU ?_;refine EZ (λa w=>∃(ar:Bool),IV B A F (128,[]) a w [(39,vI c.L),(7,vP z 0),(33,vI (↑k.J.length:Int)),(32,ak),(3,q),(34,vI K),(74,.bool ar)] (Bx z 117 [.string c.C,vI c.L,vI c.D,vI c.B,a7,a8,a9,vI c.Ad,vI c.Ar,vI c.Au,vI c.Av,vI c.T,vI c.S,vI c.As,vI c.At,vI c.Ap,vI c.Am,vI c.M]::OS AB 3 q y::L) λ_ _=>Db N y c (CY N K (CD N k (C6 N) n3)) ar=some r) ?_ ?_
    ·refine AF O E (λe2 E=>?_) (λe2 E=>?_)
     ·refine AU ?_;refine WF.nil (λt u d g=>?_);exact⟨(decide (c.L=1)),_,_,d.sub (kp [39,7,33,32,3,34,74] O),g,j,(B6.refl A F),E⟩
     refine AU ?_;refine EZ (λa w=>∃(ag:Bool),IV B A F (128,[]) a w [(39,vI c.L),(7,vP z 0),(33,vI (↑k.J.length:Int)),(32,ak),(3,q),(34,vI K),(74,.bool ag)] (Bx z 117 [.string c.C,vI c.L,vI c.D,vI c.B,a7,a8,a9,vI c.Ad,vI c.Ar,vI c.Au,vI c.Av,vI c.T,vI c.S,vI c.As,vI c.At,vI c.Ap,vI c.Am,vI c.M]::OS AB 3 q y::L) λ_ _=>Fw N (Db N y c (CY N K (CD N k (C6 N) n3))) ag=some r) ?_ ?_
     ·refine AF O E (λe3 E=>?_) (λe3 E=>?_)
      ·refine AU ?_;refine WF.nil (λt u d g=>?_);exact⟨(decide (c.L=5)),_,_,d.sub (kp [39,7,33,32,3,34,74] O),g,j,(B6.refl A F),E⟩
      refine AU ?_;refine WF.nil (λt u d g=>?_);exact⟨(decide (c.L=3)),_,_,d.sub (kp [39,7,33,32,3,34,74] O),g,j,(B6.refl A F),E⟩
     rintro t u ⟨ag,h1,h2,d,g,cf,e4,E⟩;refine AI ?_ d g;clear d g u t;rw[Fw] at E;refine WF.nil (λt u d g=>?_);exact⟨ag,_,_,d.sub (kp [39,7,33,32,3,34,74] O),g,cf,e4,E⟩
    rintro t u ⟨ar,h4,h5,d,g,s,h6,E⟩;refine AI ?_ d g;clear d g u t;rw[Db] at E;refine AF O E (λe6 E=>?_) (λe6 E=>?_)
    ·refine Ky 12 mo (by kernel_rfl) O s (AU ?_);obtain⟨h7,cg,E⟩:=bd E;refine BT s (mt mh) O O sl_29.1 cg O λh8 ch=>?_;obtain⟨bh,ci,E⟩:=bd E;have e7:=s.epAt (mt mh) ci Co.id ch;refine C8 Lr (λ_ x=>x) O e7 ty_3.1 O λh9=>AU ?_;refine CC E O O O PU O (λau cj h' o=>Gg (St.all h') ba bb cj) λau E e8=>?_;have ia:=e8;refine AU ?_;obtain⟨ib,ck,E⟩:=bd E;refine BT s (mt mh) O O sl_29.1 ck O λic cl=>JW λie cm ig=>?_;obtain⟨e9,cn,E⟩:=bd E;refine De (r:=AB) (l:=y) (i:=c.D) (x:=e9) O O (⟨_,O,O,(BF _)⟩:Rd _ _ AB _ (BG (bh+au))) cl cn MT.id ty_3.1 (λ_=>rfl) cm (.tail .head) λih co ii=>AU ?_;refine BD (WF.nil (λt u d g=>?_));have cp:=co.sel [1] 1 O;exact⟨(upd y c.D (BG (bh+au))),_,_,d.sub (kp [33,32,3,34] O),g,cp,EX,E⟩
    refine AU ?_;refine AF O E (λfa E=>?_) (λfa E=>?_)
    ·refine AU ?_;refine Ky 13 mo (by kernel_rfl) O s (AU ?_);obtain⟨ij,cq,E⟩:=bd E;refine BT s (mt mh) O O sl_29.1 cq O λik cr=>?_;obtain⟨av,ct,E⟩:=bd E;have fb:=s.epAt (mt mh) ct Co.id cr;refine C8 Lr (λ_ x=>x) O fb ty_3.1 O λil=>AU ?_;refine CC E O O O PU O (λah cu h' o=>Gg (St.all h') ba bb cu) λah E fc=>?_;have im:=fc;refine AU ?_;obtain⟨io,cv,E⟩:=bd E;refine BT s (mt mh) O O sl_29.1 cv O λip cw=>JW λir cx it=>?_;obtain⟨fd,cy,E⟩:=bd E;refine De (r:=AB) (l:=y) (i:=c.D) (x:=fd) O O (⟨_,O,O,(BF _)⟩:Rd _ _ AB _ (BG (av+(BG (2*ah))))) cw cy MT.id ty_3.1 (λ_=>rfl) cx (.tail .head) λiu X iv=>AU ?_;refine Ky 13 mo (by kernel_rfl) O X (AU ?_);obtain⟨iw,cz,E⟩:=bd E;refine BT X (mt mh) O O sl_29.1 cz O λiy c0=>?_;obtain⟨bi,c1,E⟩:=bd E;have fe:=X.epAt (mt mh) c1 Co.id c0;refine C8 Lr (λ_ x=>x) O fe ty_3.1 O λiz=>AU ?_;refine CC E O O O PU O (λaw c2 h' o=>Gg (St.all h') bc be c2) λaw E ff=>?_;have i0:=ff;refine AU ?_;obtain⟨i1,c3,E⟩:=bd E;refine BT X (mt mh) O O sl_29.1 c3 O λi2 c4=>JW λi3 c5 i4=>?_;obtain⟨fg,c6,E⟩:=bd E;refine De (r:=AB) (l:=(upd y c.D (BG (av+(BG (2*ah)))))) (i:=c.B) (x:=fg) O O (⟨_,O,O,(BF _)⟩:Rd _ _ AB _ (BG (bi+(BG (2*aw))))) c4 c6 MT.id ty_3.1 (λ_=>rfl) c5 (.tail .head) λi5 c7 i6=>AU ?_;refine BD (WF.nil (λt u d g=>?_));have c8:=c7.sel [1] 1 O;exact⟨(upd (upd y c.D (BG (av+(BG (2*ah))))) c.B (BG (bi+(BG (2*aw))))),_,_,d.sub (kp [33,32,3,34] O),g,c8,EX,E⟩
    refine AU ?_;refine BD (WF.nil (λt u d g=>?_));have c9:=s.sel [1] 1 O;exact⟨y,_,_,d.sub (kp [33,32,3,34] O),g,c9,EX,E⟩
   rintro t u ⟨af,i7,i8,d,g,da,i9,E⟩;refine AI ?_ d g;clear d g u t;rw[CY] at E;refine AU ?_;refine WF.nil (λt u d g=>?_);exact⟨(BG (K+1)),af,_,_,d.sub (kp [33,32,3,34] O),g,da,EX,(BF _),E⟩
  refine A8 O (λt u d g=>?_);exact⟨y,_,_,d.sub (kp [3] O),g,am,a6,E⟩
 rintro t u ⟨aj,ax,ay,d,g,db,ja,E⟩;refine AI ?_ d g;clear d g u t;rw[C6] at E;refine AU ?_;refine AK (λa w=>IV B ax ay (128,[]) a w [] (L) λ_ _=>Fv N=some r) ?_ ?_
 ·refine AY (λn8=>λa w=>∃(Z:Int),IV B ax ay (128,[]) a w [(120,vI (↑aj.length:Int)),(119,q),(121,vI Z)] (OS AB 3 q aj::L) λ_ _=>AA Z∧ER N aj (Fv N) n8 Z=some r) N ?_ ?_ ?_
  ·intro t u d g;exact⟨0,_,_,d.sub (kp [120,119,121] O),g,db,(B6.refl ax ay),(iq (n:=0) O),E⟩
  ·rintro t u ⟨_,_,_,_,_,_,_,_,E⟩;rw[ER] at E;cases E
  rintro n8 t u ⟨Z,jb,jc,d,g,Y,bj,jd,E⟩;refine AI ?_ d g;clear d g u t;rw[ER] at E;refine AU ?_;refine AF O E (λfh E=>?_) (λfh E=>?_)
  ·refine AU ?_;refine AZ (AU ?_);obtain⟨je,dc,E⟩:=bd E;refine BT Y mh O O sl_29.1 dc O λjf dd=>?_;obtain⟨jg,de,E⟩:=bd E;have fi:=Y.epAt mh de Co.id dd;refine C8 FC (λ_ x=>x) O fi ty_3.1 O λjh=>AU ?_;refine AF O E (λfj E=>?_) (λfj E=>?_)
   ·exact RT
   refine AU ?_;refine BD (AU ?_);refine WF.nil (λt u d g=>?_);exact⟨(BG (Z+1)),_,_,d.sub (kp [120,119,121] O),g,Y,bj,(BF _),E⟩
  refine A8 O (λt u d g=>?_);have df:=Y.drop .head;exact⟨_,_,d.sub MC,g,df,bj,E⟩
 rintro t u ⟨ji,jj,d,g,f9,jk,E⟩;refine AI ?_ d g;clear d g u t;rw[Fv] at E;exact RT
def Nc (hs:St S L h) {q:Value}{b:AO}(u:Rd S h BW q b) {r:Bool}(E:Jg N b=some r):
 B0 prog 181 #[q] S h (λv S' h'=>v= .bool r∧St S' (L) h'):=by
 refine BA 64 func181 O ntmps181 O λB=>?_;rw[Jg] at E;refine AU ?_;refine B4 O u CE O hs λq1 S2 h3 az e5 k6=>?_;have k8:=k6.fl Id;obtain⟨v9,_,a0⟩:=k8.ll;refine AU ?_;refine AK (λa w=>IV B S2 h3 (64,[]) a w [(1,q1)] (L) λ_ _=>GQ N b=some r) ?_ ?_
 ·refine AY (λn1=>λa w=>∃(s:Int),IV B S2 h3 (64,[]) a w [(9,vI (↑b.U.length:Int)),(8,v9),(1,q1),(10,vI s)] (L) λ_ _=>AA s∧Es N b (GQ N b) n1 s=some r) N ?_ ?_ ?_
  ·intro m p k l;exact⟨0,_,_,k.sub (kp [9,8,1,10] O),l,az,(B6.refl S2 h3),(iq (n:=0) O),E⟩
  ·rintro m p ⟨_,_,_,_,_,_,_,_,E⟩;rw[Es] at E;cases E
  rintro n1 m p ⟨s,cb,cc,k,l,x,I,cd,E⟩;refine AI ?_ k l;clear k l p m;rw[Es] at E;refine AU ?_;refine AF O E (λa1 E=>?_) (λa1 E=>?_)
  ·refine AU ?_;refine AZ (AU ?_);have a2:=a0.mono' I;refine A9 E O O a2 sl_25.1 O λce E cf a3=>?_;obtain⟨cg,_,a4⟩:=a3.lv;refine AU ?_;refine CG VF O x λch ci J a5=>?_;have a6:=a4.mono a5;obtain⟨rfl,⟨cj,a7,a8,a9,ba,bb,bc⟩⟩:=DL.ex a6;refine CV O O O O ty_139.1 O J .head O λck K cl=>AU ?_;refine BZ (.inl O) K ?_;have be:=k6.nw;have bf:=be.fl B3;obtain⟨cm,_,bg⟩:=bf.ll;have bh:=bg.le;refine AU ?_;refine BC E O O O Oa O (λM Q h' o=>Fm (St.all h') a7 (Jb bh) Q) λM E=>AU ?_;obtain⟨V,c,E⟩:=bd E;refine AS 5 26 (.bool V) ?_ ?_
   ·cases W:(!M)
    ·have c:=Em W c;refine AU ?_;refine BC c O O O IA O (λbi X h' o=>CB (St.all h') a8 X) λbi c=>AU ?_;cases c;exact AQ O
    have c:=El W c;cases c;exact A6 O O
   refine AU ?_;obtain⟨Y,d,E⟩:=bd E;refine AS 5 32 (.bool Y) ?_ ?_
   ·cases ab:V
    ·have d:=Em ab d;refine AU ?_;refine BC d O O O E2 O (λbj ac h' o=>B8 (St.all h') a9 (iq (n:=0) O) (iq (n:=24) O) ac) λbj d=>AU ?_;cases d;exact AQ O
    have d:=El ab d;cases d;exact A6 O O
   refine AU ?_;obtain⟨ad,g,E⟩:=bd E;refine AS 5 38 (.bool ad) ?_ ?_
   ·cases ae:Y
    ·have g:=Em ae g;refine AU ?_;refine BC g O O O E2 O (λbk af h' o=>B8 (St.all h') ba (iq (n:=0) O) (iq (n:=1073741824) O) af) λbk g=>AU ?_;cases g;exact AQ O
    have g:=El ae g;cases g;exact A6 O O
   refine AU ?_;obtain⟨ag,i,E⟩:=bd E;refine AS 5 44 (.bool ag) ?_ ?_
   ·cases ah:ad
    ·have i:=Em ah i;refine AU ?_;refine BC i O O O IA O (λbl ai h' o=>CB (St.all h') bb ai) λbl i=>AU ?_;cases i;exact AQ O
    have i:=El ah i;cases i;exact A6 O O
   refine AU ?_;obtain⟨bm,j,E⟩:=bd E;refine AS 5 50 (.bool bm) ?_ ?_
   ·cases aj:ag
    ·have j:=Em aj j;refine AU ?_;refine BC j O O O E2 O (λbn ak h' o=>B8 (St.all h') bc (iq (n:=0) O) (iq (n:=128) O) ak) λbn j=>AU ?_;cases j;exact AQ O
    have j:=El aj j;cases j;exact A6 O O
   refine BL (kp [50,9,8,1,10] O) λcn am co=>AF O E (λbo E=>?_) (λbo E=>?_)
   ·exact RT
   refine AU ?_;refine BD (AU ?_);refine WF.nil (λm p k l=>?_);have an:=am.drop .head;exact⟨(BG (s+1)),_,_,k.sub (kp [9,8,1,10] O),l,an,EX,(BF _),E⟩
  refine A8 O (λm p k l=>?_);exact⟨_,_,k.sub (kp [1] O),l,x,I,E⟩
 rintro m p ⟨z,A,k,l,ao,bp,E⟩;refine AI ?_ k l;clear k l p m;rw[GQ] at E;have bq:=k6.mono bp;have br:=bq.fl IM;obtain⟨bs,_,bt⟩:=br.ll;refine AU ?_;refine AK (λa w=>IV B z A (64,[]) a w [] (L) λ_ _=>GP N=some r) ?_ ?_
 ·refine AY (λn3=>λa w=>∃(t:Int),IV B z A (64,[]) a w [(54,vI (↑b.Z.length:Int)),(53,bs),(55,vI t)] (L) λ_ _=>AA t∧Er N b (GP N) n3 t=some r) N ?_ ?_ ?_
  ·intro m p k l;exact⟨0,_,_,k.sub (kp [54,53,55] O),l,ao,(B6.refl z A),(iq (n:=0) O),E⟩
  ·rintro m p ⟨_,_,_,_,_,_,_,_,E⟩;rw[Er] at E;cases E
  rintro n3 m p ⟨t,cp,cq,k,l,y,ap,cr,E⟩;refine AI ?_ k l;clear k l p m;rw[Er] at E;refine AU ?_;refine AF O E (λbu E=>?_) (λbu E=>?_)
  ·refine AU ?_;refine AZ (AU ?_);have bv:=bt.mono' ap;refine A9 E O O bv sl_28.1 O λbx E bz aq=>?_;obtain⟨b0,_,ar⟩:=aq.lv;refine AU ?_;refine CG VD O y λb1 b2 C au=>?_;have av:=ar.mono au;obtain⟨rfl,⟨b3,aw⟩⟩:=Cd.ex av;refine CV O O O O ty_215.1 O C .head O λb4 D b5=>AU ?_;refine BZ (.inl O) D (AU ?_);refine BC E O O O E2 O (λax F h' o=>B8 (St.all h') aw (iq (n:=0) O) (iq (n:=1073741824) O) F) λax E=>AU ?_;refine BL (kp [62,54,53,55] O) λb6 G b7=>AF O E (λay E=>?_) (λay E=>?_)
   ·exact RT
   refine AU ?_;refine BD (AU ?_);refine WF.nil (λm p k l=>?_);have H:=G.drop .head;exact⟨(BG (t+1)),_,_,k.sub (kp [54,53,55] O),l,H,EX,(BF _),E⟩
  refine A8 O (λm p k l=>?_);exact⟨_,_,k.sub MC,l,y,ap,E⟩
 rintro m p ⟨b8,b9,k,l,bw,ca,E⟩;refine AI ?_ k l;clear k l p m;rw[GP] at E;exact RT
def M9 (hs:St S L h) {g:Value}{b:AO}(s:Rd S h BW g b) {r:Bool}(E:I5 N b=some r):
 B0 prog 182 #[g] S h (λv S' h'=>v= .bool r∧St S' (L) h'):=by
 refine BA 47 func182 O ntmps182 O λB=>?_;rw[I5] at E;refine AU ?_;refine B4 O s CE O hs λq1 S2 h3 ae e5 k6=>?_;have k8:=k6.fl JY;obtain⟨v9,_,af⟩:=k8.ll;refine AU ?_;refine AK (λa w=>IV B S2 h3 (47,[]) a w [] (L) λ_ _=>F7 N=some r) ?_ ?_
 ·refine AY (λn1=>λa w=>∃(j:Int),IV B S2 h3 (47,[]) a w [(8,vI (↑b.W.length:Int)),(7,v9),(1,q1),(9,vI j)] (L) λ_ _=>AA j∧EY N b (F7 N) n1 j=some r) N ?_ ?_ ?_
  ·intro x y k m;exact⟨0,_,_,k.sub (kp [8,7,1,9] O),m,ae,(B6.refl S2 h3),(iq (n:=0) O),E⟩
  ·rintro x y ⟨_,_,_,_,_,_,_,_,E⟩;rw[EY] at E;cases E
  rintro n1 x y ⟨j,ba,bb,k,m,t,C,bc,E⟩;refine AI ?_ k m;clear k m y x;rw[EY] at E;refine AU ?_;refine AF O E (λag E=>?_) (λag E=>?_)
  ·refine AU ?_;refine AZ (AU ?_);have ah:=af.mono' C;refine A9 E O O ah sl_26.1 O λbe E bf ai=>?_;obtain⟨bg,_,aj⟩:=ai.lv;refine AU ?_;refine CG VC O t λbh bi D ak=>?_;have am:=aj.mono ak;obtain⟨rfl,⟨bj,an,ao,ap,aq⟩⟩:=Cw.ex am;refine CV O O O O ty_217.1 O D .head O λbk F bl=>AU ?_;refine BZ (.inl O) F (AU ?_);refine BC E O O O E2 O (λG I h' o=>B8 (St.all h') an (iq (n:=0) O) (iq (n:=2) O) I) λG E=>AU ?_;obtain⟨K,c,E⟩:=bd E;refine AS 5 22 (.bool K) ?_ ?_
   ·cases M:(!G)
    ·have c:=Em M c;refine AU ?_;refine BC c O O O E2 O (λar Q h' o=>B8 (St.all h') ap (iq (n:=0) O) (iq (n:=1099511627776) O) Q) λar c=>AU ?_;cases c;exact AQ O
    have c:=El M c;cases c;exact A6 O O
   refine AU ?_;obtain⟨au,d,E⟩:=bd E;refine AS 5 28 (.bool au) ?_ ?_
   ·cases U:K
    ·have d:=Em U d;refine AU ?_;refine BC d O O O E2 O (λav V h' o=>B8 (St.all h') aq (iq (n:=0) O) (iq (n:=1440) O) V) λav d=>AU ?_;cases d;exact AQ O
    have d:=El U d;cases d;exact A6 O O
   refine BL (kp [28,4,8,7,1,9] O) λbm X bn=>AF O E (λaw E=>?_) (λaw E=>?_)
   ·exact RT
   have A:=k6.nw;have ax:=A.fl B3;obtain⟨bo,_,ay⟩:=ax.ll;have az:=ay.le;have a0:=A.fl Lh;have a1:=a0.i;have a2:=A.fl Ec;obtain⟨bp,_,a3⟩:=a2.ll;have a4:=a3.le;refine AU ?_;refine XX (cs:=[vI (↑b.E.length:Int),vI b.H,vI (↑b.J.length:Int)]) Z8 O O O (AU ?_);refine CG YM O X λbq br Y bs=>?_;refine CV O O O O ty_323.1 O Y .head O λbt u bu=>AU ?_;refine BZ (.inr ⟨mo,by kernel_rfl⟩) u (AU ?_);obtain⟨a5,q,E⟩:=bd E;have Z:=cN q;refine aJ O O Z6 Z.1 Z.2 O (XU (l:=([(↑b.E.length:Int),b.H,(↑b.J.length:Int)]:List Int)) (Value.int .i64) Lr u O mh O q ty_3.1 O ?_);have a6:AA a5:=cM (p:=λz=>AA z) (all_cons (Jb az) (all_cons a1 (all_cons (Jb a4) XA))) q;refine BC E O O O Oa O (λa7 ab h' o=>Fm (St.all h') ao a6 ab) λa7 E=>AU ?_;refine BL (kp [45,8,7,1,9] O) λbv ac bw=>AF O E (λa8 E=>?_) (λa8 E=>?_)
   ·exact RT
   refine AU ?_;refine BD (AU ?_);refine WF.nil (λx y k m=>?_);have ad:=ac.sel [] 2 O;exact⟨(BG (j+1)),_,_,k.sub (kp [8,7,1,9] O),m,ad,EX,(BF _),E⟩
  refine A8 O (λx y k m=>?_);exact⟨_,_,k.sub MC,m,t,C,E⟩
 rintro x y ⟨bx,bz,k,m,a9,b0,E⟩;refine AI ?_ k m;clear k m y x;rw[F7] at E;exact RT
end Go.Proofs.YtedgiljmffngoaaGreat
