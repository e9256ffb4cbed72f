import Derived.Test.YtibidnaedddfdaaGreatTFacts
import Derived.Test.YtibidnaedddfdaaGreatTForms
import Derived.Test.YtibidnaedddfdaaGreatTWalk0
import Derived.Test.YtibidnaedddfdaaGreatTWalk10
import Derived.Test.YtibidnaedddfdaaGreatTWalk6
namespace Go.Proofs.YtibidnaedddfdaaGreat
set_option linter.all false
open Go.RowKit
open Go.Proofs.Tryz
set_option maxRecDepth 10000
set_option maxHeartbeats 2000000
variable {N:Nat}{S:Nat→Prop}{L:List HP}{h:A4}
def Pm (hs:St S L h) {aj:Value}{k:AH}(a4:Rd S h B5 aj k) {r:Bool}(E:Fo N k=some r):
 CA prog 41 #[aj] S h (λv S' h'=>v= .bool r∧St S' (L) h'):=by
 refine A8 128 func41 O ntmps41 O λB=>?_;rw[Fo] at E;refine AU ?_;refine A6 O a4 CE O hs λq1 S2 h3 fq e5 k6=>AU ?_;obtain⟨dl,E⟩:=Qw E;refine dZ (r:=AW) (zx:=0) R9 O ⟨O,by unfold AA;omega⟩ O O dl O O fq λq bp dm fr=>?_;have dn:=k6.mono fr;have fs:=dn.fl CS;obtain⟨ft,_,fu⟩:=fs.ll;refine AU ?_;refine AN (λa w=>∃(a5:List Int),IV B S2 bp (128,[]) a w [(3,q),(1,q1)] (OS AW 3 q a5::L) λ_ _=>Cf N k a5=some r) ?_ ?_
 ·refine BA (λn1=>λa w=>∃(ai:Int) (ao:List Int),IV B S2 bp (128,[]) a w [(16,vI (↑k.F.length:Int)),(15,ft),(3,q),(1,q1),(17,vI ai)] (OS AW 3 q ao::L) λ_ _=>AA ai∧Cu N k (Cf N k) n1 ai ao=some r) N ?_ ?_ ?_
  ·intro t u d g;exact⟨0,(List.replicate ((↑k.F.length:Int):Int).toNat (0:Int)),_,_,d.sub (kp [16,15,3,1,17] O),g,dm,(CX.refl S2 bp),(iq (n:=0) O),E⟩
  ·rintro t u ⟨_,_,_,_,_,_,_,_,_,E⟩;rw[Cu] at E;cases E
  rintro n1 t u ⟨ai,ao,js,jt,d,g,a9,dp,ju,E⟩;refine AI ?_ d g;clear d g u t;rw[Cu] at E;refine AU ?_;refine AE O E (λfv E=>?_) (λfv E=>?_)
  ·refine AU ?_;refine BG (AU ?_);have fw:=fu.mono' dp;refine AO E O O fw sl_23.1 O λjv E jw fx=>?_;obtain⟨jx,_,fy⟩:=fx.lv;refine AU ?_;refine BZ PH O a9 λjy jz dq f0=>AU ?_;have f1:=fy.mono f0;obtain⟨j0,j1,j2,rfl,j3,j4,j5,j6,j7,j8,f2,f3,j9,ka,kb,kc⟩:=B3.ex f1;refine G1 O O O ON ty_57.1 O dq .head O λkd dr ke=>AU ?_;refine Es (AU ?_);refine Ia E O O O U2 O dr (λbq ds=>J4 (St.all _) f2 f3 ds) λbq E kf kg kh ba ki kj p=>?_;obtain⟨rfl,f4,gg⟩:=p;refine AU ?_;obtain⟨kk,dt,E⟩:=bd E;refine CR ba (mt mh) O O sl_29.1 dt O λkl du=>AU ?_;obtain⟨f5,dv,E⟩:=bd E;refine JS (r:=AW) (l:=ao) (i:=ai) (x:=f5) O O (⟨_,O,O,f4⟩:Rd _ _ AW _ bq) du dv RI.id ty_3.1 (λ_=>rfl) ba (.tail .head) λkm dw kn=>AU ?_;refine BP (AU ?_);refine WF.nil (λt u d g=>?_);have dx:=dw.sel [1] 1 O;exact⟨(BV (ai+1)),(upd ao ai bq),_,_,d.sub (kp [16,15,3,1,17] O),g,dx,EX,(BY _),E⟩
  refine WF.exit O (λt u d g=>?_);exact⟨ao,_,_,d.sub (kp [3,1] O),g,a9,dp,E⟩
 rintro t u ⟨a5,br,bs,d,g,dy,f6,E⟩;refine AI ?_ d g;clear d g u t;rw[Cf] at E;have f7:=dn.mono f6;have f8:=f7.fl AH.f_Links;obtain⟨aq,_,f9⟩:=f8.ll;refine AU ?_;refine AN (λa w=>∃(ap:List Int),IV B br bs (128,[]) a w [(3,q)] (OS AW 3 q ap::L) λ_ _=>CH N ap=some r) ?_ ?_
 ·refine BA (λn3=>λa w=>∃(Q:Int) (y:List Int),IV B br bs (128,[]) a w [(33,vI (↑k.D.length:Int)),(32,aq),(3,q),(34,vI Q)] (OS AW 3 q y::L) λ_ _=>AA Q∧BW N k (CH N) n3 Q y=some r) N ?_ ?_ ?_
  ·intro t u d g;exact⟨0,a5,_,_,d.sub (kp [33,32,3,34] O),g,dy,(CX.refl br bs),(iq (n:=0) O),E⟩
  ·rintro t u ⟨_,_,_,_,_,_,_,_,_,E⟩;rw[BW] at E;cases E
  rintro n3 t u ⟨Q,y,G,dz,d,g,ar,bb,ko,E⟩;refine AI ?_ d g;clear d g u t;rw[BW] at E;refine AU ?_;refine AE O E (λd0 E=>?_) (λd0 E=>?_)
  ·refine AU ?_;refine AN (λa w=>∃(ak:List Int),IV B G dz (128,[]) a w [(33,vI (↑k.D.length:Int)),(32,aq),(3,q),(34,vI Q)] (OS AW 3 q ak::L) λ_ _=>CG N Q (BW N k (CH N) n3) ak=some r) ?_ ?_
   ·refine AU ?_;have d1:=f9.mono' bb;refine AO E O O d1 sl_24.1 O λc E gh d2=>?_;obtain⟨gi,_,d3⟩:=d2.lv;refine AU ?_;refine BZ NW O ar λz gj bt d4=>?_;have d5:=d3.mono d4;obtain⟨bc,be,bf,rfl,gk,gl,gm,gn,d6,d7,d8,gp,gq,gr,gs,bg,bh,gu,gv,bi,bj,gw⟩:=BL.ex d5;refine G1 O O O ON ty_102.1 O bt .head O λH j gx=>AU ?_;refine BG (AU ?_);refine AE O E (λd9 E=>?_) (λd9 E=>?_)
    ·refine AU ?_;obtain⟨gy,bu,E⟩:=bd E;obtain⟨K,bv,E⟩:=bd E;obtain⟨M,bw,E⟩:=bd E;obtain⟨gz,bx,E⟩:=bd E;refine MJ (m:=[(7,vP z 0),(33,vI (↑k.D.length:Int)),(32,aq),(3,q),(34,vI Q)]) 17 (λi v hh=>match i with|0=>v=q|1=>v=vP z 2|2=>v=vI c.V∧AA c.V|3=>EP q (c.V.toNat*(AW).sz+0) v|4=>v=vI K∧AA K|5=>v=vP z 4|6=>Sl G hh CJ v c.Au|7=>v=vP z 5|8=>v=vP z 5|9=>Sl G hh CJ v c.Ac.B|10=>v=vP z 5|11=>v=vP z 6|12=>Sl G hh CJ v c.Ac.A|13=>Sl (SN G H hh) hh (BX.sl CJ) v ([c.Au,c.Ac.B,c.Ac.A]:List (List A9))∧∃ad,v= .slice (some ad) 3 3|14=>v=vI M∧AA M|15=>v=vI (BV (K+M))∧AA (BV (K+M))|16=>EP q (c.V.toNat*(AW).sz+0) v|_=>False) [[],[],[(1,43)],[(0,42),(2,44)],[(3,45)],[],[(5,47)],[],[(7,49)],[(8,50)],[],[(10,52)],[(11,53)],[(6,48),(9,51),(12,54)],[(13,55)],[(4,46),(14,56)],[(0,42),(2,44)]] [(15,57),(16,58)] mo (by kernel_rfl) [7,33,32,3,34] O (by kernel_rfl) (by kernel_rfl) (by kernel_rfl) (kp [7,33,32,3,34] O) MO ?_ ?_
     ·refine AT.cons O DM (AT.cons O DM (AT.cons O DM (AT.cons O ?_ ?_)))
      ·intro mq hh o;intro g0 eb g1 ec;have J:=o.st j;cases eb;obtain⟨rfl,g2⟩:=ec;refine AU ?_;refine CR J (mt mh) O O sl_29.1 bu O λg3 bz=>AU ?_;exact BR bz
      refine AT.cons O ?_ ?_
      ·intro mq hh o;intro g4 ed;have J:=o.st j;refine AU ?_;have ee:=J.epAt (mt mh) bv Gs.id ed;refine G0 K1 (λ_ x=>x) O ee ty_3.1 O λef=>AU ?_;exact BR ⟨O,ef⟩
      refine AT.cons O DM (AT.cons O ?_ ?_)
      ·intro mq hh o;intro g5 eg;have J:=o.st j;cases eg;refine AU ?_;have eh:=d6.nw;exact BR eh
      refine AT.cons O DM (AT.cons O DM (AT.cons O ?_ ?_))
      ·intro mq hh o;intro g6 ei;have J:=o.st j;cases ei;refine AU ?_;have ej:=d7.nw;exact BR ej
      refine AT.cons O DM (AT.cons O DM (AT.cons O ?_ ?_))
      ·intro mq hh o;intro g7 ek;have J:=o.st j;cases ek;refine AU ?_;have el:=d8.nw;exact BR el
      refine AT.cons O ?_ ?_
      ·intro mq hh o;intro em Z en ab eo ac;have J:=SN.st j o;have Z:=Sl.sn H Z;have Z:Sl _ _ CJ em c.Au:=Z;have ab:=Sl.sn H ab;have ab:Sl _ _ CJ en c.Ac.B:=ab;have ac:=Sl.sn H ac;have ac:Sl _ _ CJ eo c.Ac.A:=ac;have ga:=J.fz;obtain⟨b0,a6,rfl,g8⟩:=(Z).len;obtain⟨b1,a7,rfl,g9⟩:=(ab).len;obtain⟨b2,a8,rfl,ha⟩:=(ac).len;refine IB (cs:=[(.slice b0 c.Au.length a6),(.slice b1 c.Ac.B.length a7),(.slice b2 c.Ac.A.length a8)]) lO O O O O O O O ga λhc hd b3 au=>?_;have ep:=ac.mono' au;have eq:=ab.mono' au;have er:=Z.mono' au;have b4:=b3.bxos (r:=(BX.sl CJ)) (l:=([c.Au,c.Ac.B,c.Ac.A]:List (List A9))) .head ⟨_,_,O,⟨_,O,er⟩,⟨_,_,O,⟨_,O,eq⟩,⟨_,_,O,⟨_,O,ep⟩,O⟩⟩⟩ (by simp [maxLen]);obtain⟨he,b5,hg,es⟩:=b4.pubs .head;have av:=Fz.done o EX b5;exact B7 av.1 ⟨Sl.mono' es av.2,_,O⟩
      refine AT.cons O ?_ ?_
      ·intro mq hh o;intro hi aw;have J:=SN.st j o;obtain⟨aw,gb,rfl⟩:=aw;refine Cj O O O rV O J (Rc (St.all _) (aw.mono J.ea.1 J.ea.2) bw) λhj hk hl gc hm bk p=>?_;obtain⟨rfl,eu,ge⟩:=p;exact B7 ⟨bk.siz,λb hb=>bk.same b hb⟩ ⟨O,eu⟩
      refine AT.cons O DM (AT.cons O ?_ ?_)
      ·intro mq hh o;intro hn ev ho ew;have J:=o.st j;cases ev;obtain⟨rfl,hp⟩:=ew;refine AU ?_;refine CR J (mt mh) O O sl_29.1 bx O λhq b6=>AU ?_;exact BR b6
      exact trivial
     intro hr ey ht ez hu e0;have b7:=SN.st j ey;obtain⟨rfl,e1⟩:=ez;obtain⟨e2,b8,E⟩:=bd E;refine JS (r:=AW) (l:=y) (i:=c.V) (x:=e2) O O (⟨_,O,O,e1⟩:Rd _ _ AW _ (BV (K+M))) e0 b8 RI.id ty_3.1 (λ_=>rfl) b7 (.tail .head) λhv U hx=>AU ?_;refine AE O E (λe3 E=>?_) (λe3 E=>?_)
     ·refine GZ 12 mo (by kernel_rfl) O U (AU ?_);obtain⟨hy,b9,E⟩:=bd E;refine CR U (mt mh) O O sl_29.1 b9 O λhz ca=>?_;obtain⟨bl,cb,E⟩:=bd E;have e4:=U.epAt (mt mh) cb Gs.id ca;refine G0 RG (λ_ x=>x) O e4 ty_3.1 O λh0=>AU ?_;refine A5 E O O O U2 O (λax cc h' o=>J4 (St.all h') bi bj cc) λax E e6=>?_;have h1:=e6;refine AU ?_;obtain⟨h2,cd,E⟩:=bd E;refine CR U (mt mh) O O sl_29.1 cd O λh4 ce=>ET λh5 cf h6=>?_;obtain⟨e7,cg,E⟩:=bd E;refine JS (r:=AW) (l:=(upd y c.V (BV (K+M)))) (i:=c.C) (x:=e7) O O (⟨_,O,O,(BY _)⟩:Rd _ _ AW _ (BV (bl+ax))) ce cg RI.id ty_3.1 (λ_=>rfl) cf (.tail .head) λh7 ch h8=>AU ?_;refine BP (WF.nil (λt u d g=>?_));have ci:=ch.sel [1] 1 O;exact⟨(upd (upd y c.V (BV (K+M))) c.C (BV (bl+ax))),_,_,d.sub (kp [33,32,3,34] O),g,ci,EX,E⟩
     refine AU ?_;refine BP (WF.nil (λt u d g=>?_));have cj:=U.sel [1] 1 O;exact⟨(upd y c.V (BV (K+M))),_,_,d.sub (kp [33,32,3,34] O),g,cj,EX,E⟩
    refine AU ?_;refine F2 (λa w=>∃(ay:Bool),IV B G H (128,[]) a w [(39,vI c.I),(7,vP z 0),(33,vI (↑k.D.length:Int)),(32,aq),(3,q),(34,vI Q),(74,.bool ay)] (Bx z 102 [.string c.O,vI c.I,vI c.V,vI c.C,bc,be,bf,vI c.X,vI c.Am,vI c.Aw,vI c.Ax,vI c.W,vI c.R,vI c.Ae,vI c.Ab,vI c.Aj,vI c.Ag,vI c.Y]::OS AW 3 q y::L) λ_ _=>DW N y c (CG N Q (BW N k (CH N) n3)) ay=some r) ?_ ?_
    ·refine AE O E (λe8 E=>?_) (λe8 E=>?_)
     ·refine AU ?_;refine WF.nil (λt u d g=>?_);exact⟨(decide (c.I=1)),_,_,d.sub (kp [39,7,33,32,3,34,74] O),g,j,(CX.refl G H),E⟩
     refine AU ?_;refine F2 (λa w=>∃(am:Bool),IV B G H (128,[]) a w [(39,vI c.I),(7,vP z 0),(33,vI (↑k.D.length:Int)),(32,aq),(3,q),(34,vI Q),(74,.bool am)] (Bx z 102 [.string c.O,vI c.I,vI c.V,vI c.C,bc,be,bf,vI c.X,vI c.Am,vI c.Aw,vI c.Ax,vI c.W,vI c.R,vI c.Ae,vI c.Ab,vI c.Aj,vI c.Ag,vI c.Y]::OS AW 3 q y::L) λ_ _=>JR N (DW N y c (CG N Q (BW N k (CH N) n3))) am=some r) ?_ ?_
     ·refine AE O E (λe9 E=>?_) (λe9 E=>?_)
      ·refine AU ?_;refine WF.nil (λt u d g=>?_);exact⟨(decide (c.I=5)),_,_,d.sub (kp [39,7,33,32,3,34,74] O),g,j,(CX.refl G H),E⟩
      refine AU ?_;refine WF.nil (λt u d g=>?_);exact⟨(decide (c.I=3)),_,_,d.sub (kp [39,7,33,32,3,34,74] O),g,j,(CX.refl G H),E⟩
     rintro t u ⟨am,h9,ia,d,g,ck,fa,E⟩;refine AI ?_ d g;clear d g u t;rw[JR] at E;refine WF.nil (λt u d g=>?_);exact⟨am,_,_,d.sub (kp [39,7,33,32,3,34,74] O),g,ck,fa,E⟩
    rintro t u ⟨ay,ib,ic,d,g,s,ie,E⟩;refine AI ?_ d g;clear d g u t;rw[DW] at E;refine AE O E (λfb E=>?_) (λfb E=>?_)
    ·refine GZ 12 mo (by kernel_rfl) O s (AU ?_);obtain⟨ig,cl,E⟩:=bd E;refine CR s (mt mh) O O sl_29.1 cl O λih cm=>?_;obtain⟨bm,cn,E⟩:=bd E;have fc:=s.epAt (mt mh) cn Gs.id cm;refine G0 RG (λ_ x=>x) O fc ty_3.1 O λii=>AU ?_;refine A5 E O O O U2 O (λaz co h' o=>J4 (St.all h') bg bh co) λaz E fd=>?_;have ij:=fd;refine AU ?_;obtain⟨ik,cp,E⟩:=bd E;refine CR s (mt mh) O O sl_29.1 cp O λil cq=>ET λim cr io=>?_;obtain⟨fe,ct,E⟩:=bd E;refine JS (r:=AW) (l:=y) (i:=c.V) (x:=fe) O O (⟨_,O,O,(BY _)⟩:Rd _ _ AW _ (BV (bm+az))) cq ct RI.id ty_3.1 (λ_=>rfl) cr (.tail .head) λip cu ir=>AU ?_;refine BP (WF.nil (λt u d g=>?_));have cv:=cu.sel [1] 1 O;exact⟨(upd y c.V (BV (bm+az))),_,_,d.sub (kp [33,32,3,34] O),g,cv,EX,E⟩
    refine AU ?_;refine AE O E (λff E=>?_) (λff E=>?_)
    ·refine AU ?_;refine GZ 13 mo (by kernel_rfl) O s (AU ?_);obtain⟨it,cw,E⟩:=bd E;refine CR s (mt mh) O O sl_29.1 cw O λiu cx=>?_;obtain⟨a0,cy,E⟩:=bd E;have fg:=s.epAt (mt mh) cy Gs.id cx;refine G0 RG (λ_ x=>x) O fg ty_3.1 O λiv=>AU ?_;refine A5 E O O O U2 O (λan cz h' o=>J4 (St.all h') bg bh cz) λan E fh=>?_;have iw:=fh;refine AU ?_;obtain⟨iy,c0,E⟩:=bd E;refine CR s (mt mh) O O sl_29.1 c0 O λiz c1=>ET λi0 c2 i1=>?_;obtain⟨fi,c3,E⟩:=bd E;refine JS (r:=AW) (l:=y) (i:=c.V) (x:=fi) O O (⟨_,O,O,(BY _)⟩:Rd _ _ AW _ (BV (a0+(BV (2*an))))) c1 c3 RI.id ty_3.1 (λ_=>rfl) c2 (.tail .head) λi2 af i3=>AU ?_;refine GZ 13 mo (by kernel_rfl) O af (AU ?_);obtain⟨i4,c4,E⟩:=bd E;refine CR af (mt mh) O O sl_29.1 c4 O λi5 c5=>?_;obtain⟨bn,c6,E⟩:=bd E;have fj:=af.epAt (mt mh) c6 Gs.id c5;refine G0 RG (λ_ x=>x) O fj ty_3.1 O λi6=>AU ?_;refine A5 E O O O U2 O (λa1 c7 h' o=>J4 (St.all h') bi bj c7) λa1 E fk=>?_;have i7:=fk;refine AU ?_;obtain⟨i8,c8,E⟩:=bd E;refine CR af (mt mh) O O sl_29.1 c8 O λi9 c9=>ET λja da jb=>?_;obtain⟨fm,db,E⟩:=bd E;refine JS (r:=AW) (l:=(upd y c.V (BV (a0+(BV (2*an)))))) (i:=c.C) (x:=fm) O O (⟨_,O,O,(BY _)⟩:Rd _ _ AW _ (BV (bn+(BV (2*a1))))) c9 db RI.id ty_3.1 (λ_=>rfl) da (.tail .head) λjc dc jd=>AU ?_;refine BP (WF.nil (λt u d g=>?_));have dd:=dc.sel [1] 1 O;exact⟨(upd (upd y c.V (BV (a0+(BV (2*an))))) c.C (BV (bn+(BV (2*a1))))),_,_,d.sub (kp [33,32,3,34] O),g,dd,EX,E⟩
    refine AU ?_;refine BP (WF.nil (λt u d g=>?_));have de:=s.sel [1] 1 O;exact⟨y,_,_,d.sub (kp [33,32,3,34] O),g,de,EX,E⟩
   rintro t u ⟨ak,je,jf,d,g,df,jg,E⟩;refine AI ?_ d g;clear d g u t;rw[CG] at E;refine AU ?_;refine WF.nil (λt u d g=>?_);exact⟨(BV (Q+1)),ak,_,_,d.sub (kp [33,32,3,34] O),g,df,EX,(BY _),E⟩
  refine WF.exit O (λt u d g=>?_);exact⟨y,_,_,d.sub (kp [3] O),g,ar,bb,E⟩
 rintro t u ⟨ap,a2,a3,d,g,dg,jh,E⟩;refine AI ?_ d g;clear d g u t;rw[CH] at E;refine AU ?_;refine AN (λa w=>IV B a2 a3 (128,[]) a w [] (L) λ_ _=>Dq N=some r) ?_ ?_
 ·refine BA (λn8=>λa w=>∃(ah:Int),IV B a2 a3 (128,[]) a w [(120,vI (↑ap.length:Int)),(119,q),(121,vI ah)] (OS AW 3 q ap::L) λ_ _=>AA ah∧Ct N ap (Dq N) n8 ah=some r) N ?_ ?_ ?_
  ·intro t u d g;exact⟨0,_,_,d.sub (kp [120,119,121] O),g,dg,(CX.refl a2 a3),(iq (n:=0) O),E⟩
  ·rintro t u ⟨_,_,_,_,_,_,_,_,E⟩;rw[Ct] at E;cases E
  rintro n8 t u ⟨ah,ji,jj,d,g,ag,bo,jk,E⟩;refine AI ?_ d g;clear d g u t;rw[Ct] at E;refine AU ?_;refine AE O E (λfn E=>?_) (λfn E=>?_)
  ·refine AU ?_;refine BG (AU ?_);obtain⟨jl,dh,E⟩:=bd E;refine CR ag mh O O sl_29.1 dh O λjm di=>?_;obtain⟨jn,dj,E⟩:=bd E;have fo:=ag.epAt mh dj Gs.id di;refine G0 K1 (λ_ x=>x) O fo ty_3.1 O λjo=>AU ?_;refine AE O E (λfp E=>?_) (λfp E=>?_)
   ·exact RT
   refine AU ?_;refine BP (AU ?_);refine WF.nil (λt u d g=>?_);exact⟨(BV (ah+1)),_,_,d.sub (kp [120,119,121] O),g,ag,bo,(BY _),E⟩
  refine WF.exit O (λt u d g=>?_);have dk:=ag.drop .head;exact⟨_,_,d.sub PJ,g,dk,bo,E⟩
 rintro t u ⟨jp,jq,d,g,gf,jr,E⟩;refine AI ?_ d g;clear d g u t;rw[Dq] at E;exact RT
def QO (hs:St S L h) {q:Value}{b:AH}(u:Rd S h B5 q b) {r:Bool}(E:Jn N b=some r):
 CA prog 42 #[q] S h (λv S' h'=>v= .bool r∧St S' (L) h'):=by
 refine A8 64 func42 O ntmps42 O λB=>?_;rw[Jn] at E;refine AU ?_;refine A6 O u CE O hs λq1 S2 h3 ax e5 k6=>?_;have k8:=k6.fl MR;obtain⟨v9,_,ay⟩:=k8.ll;refine AU ?_;refine AN (λa w=>IV B S2 h3 (64,[]) a w [(1,q1)] (L) λ_ _=>Eg N b=some r) ?_ ?_
 ·refine BA (λn1=>λa w=>∃(s:Int),IV B S2 h3 (64,[]) a w [(9,vI (↑b.Ak.length:Int)),(8,v9),(1,q1),(10,vI s)] (L) λ_ _=>AA s∧Ef N b (Eg N b) n1 s=some r) N ?_ ?_ ?_
  ·intro m p k l;exact⟨0,_,_,k.sub (kp [9,8,1,10] O),l,ax,(CX.refl S2 h3),(iq (n:=0) O),E⟩
  ·rintro m p ⟨_,_,_,_,_,_,_,_,E⟩;rw[Ef] at E;cases E
  rintro n1 m p ⟨s,b9,ca,k,l,x,I,cb,E⟩;refine AI ?_ k l;clear k l p m;rw[Ef] at E;refine AU ?_;refine AE O E (λaz E=>?_) (λaz E=>?_)
  ·refine AU ?_;refine BG (AU ?_);have a0:=ay.mono' I;refine AO E O O a0 sl_25.1 O λcc E cd a1=>?_;obtain⟨ce,_,a2⟩:=a1.lv;refine AU ?_;refine BZ Zn O x λcf cg J a3=>?_;have a4:=a2.mono a3;obtain⟨rfl,⟨ch,a5,a6,a7,a8,a9,ba⟩⟩:=Gn.ex a4;refine BI O O O O ty_114.1 O J .head O λci K cj=>AU ?_;refine WF.rc (.inl O) K ?_;have bb:=k6.nw;have bc:=bb.fl CS;obtain⟨ck,_,be⟩:=bc.ll;have bf:=be.le;refine AU ?_;refine BE E O O O UB O (λM Q h' o=>I9 (St.all h') a5 (MB bf) Q) λM E=>AU ?_;obtain⟨U,c,E⟩:=bd E;refine A0 5 26 (.bool U) ?_ ?_
   ·cases V:(!M)
    ·have c:=HX V c;refine AU ?_;refine BE c O O O MW O (λbg W h' o=>Cp (St.all h') a6 W) λbg c=>AU ?_;cases c;exact AZ O
    have c:=HU V c;cases c;exact BM O O
   refine AU ?_;obtain⟨X,d,E⟩:=bd E;refine A0 5 32 (.bool X) ?_ ?_
   ·cases Y:U
    ·have d:=HX Y d;refine AU ?_;refine BE d O O O Kg O (λbh Z h' o=>Ch (St.all h') a7 (iq (n:=0) O) (iq (n:=24) O) Z) λbh d=>AU ?_;cases d;exact AZ O
    have d:=HU Y d;cases d;exact BM O O
   refine AU ?_;obtain⟨ab,g,E⟩:=bd E;refine A0 5 38 (.bool ab) ?_ ?_
   ·cases ac:X
    ·have g:=HX ac g;refine AU ?_;refine BE g O O O Kg O (λbi ad h' o=>Ch (St.all h') a8 (iq (n:=0) O) (iq (n:=1073741824) O) ad) λbi g=>AU ?_;cases g;exact AZ O
    have g:=HU ac g;cases g;exact BM O O
   refine AU ?_;obtain⟨ae,i,E⟩:=bd E;refine A0 5 44 (.bool ae) ?_ ?_
   ·cases af:ab
    ·have i:=HX af i;refine AU ?_;refine BE i O O O MW O (λbj ag h' o=>Cp (St.all h') a9 ag) λbj i=>AU ?_;cases i;exact AZ O
    have i:=HU af i;cases i;exact BM O O
   refine AU ?_;obtain⟨bk,j,E⟩:=bd E;refine A0 5 50 (.bool bk) ?_ ?_
   ·cases ah:ae
    ·have j:=HX ah j;refine AU ?_;refine BE j O O O Kg O (λbl ai h' o=>Ch (St.all h') ba (iq (n:=0) O) (iq (n:=128) O) ai) λbl j=>AU ?_;cases j;exact AZ O
    have j:=HU ah j;cases j;exact BM O O
   refine BB (kp [50,9,8,1,10] O) λcl aj cm=>AE O E (λbm E=>?_) (λbm E=>?_)
   ·exact RT
   refine AU ?_;refine BP (AU ?_);refine WF.nil (λm p k l=>?_);have ak:=aj.drop .head;exact⟨(BV (s+1)),_,_,k.sub (kp [9,8,1,10] O),l,ak,EX,(BY _),E⟩
  refine WF.exit O (λm p k l=>?_);exact⟨_,_,k.sub (kp [1] O),l,x,I,E⟩
 rintro m p ⟨z,A,k,l,am,bn,E⟩;refine AI ?_ k l;clear k l p m;rw[Eg] at E;have bo:=k6.mono bn;have bp:=bo.fl MS;obtain⟨bq,_,br⟩:=bp.ll;refine AU ?_;refine AN (λa w=>IV B z A (64,[]) a w [] (L) λ_ _=>G8 N=some r) ?_ ?_
 ·refine BA (λn3=>λa w=>∃(t:Int),IV B z A (64,[]) a w [(54,vI (↑b.As.length:Int)),(53,bq),(55,vI t)] (L) λ_ _=>AA t∧Ee N b (G8 N) n3 t=some r) N ?_ ?_ ?_
  ·intro m p k l;exact⟨0,_,_,k.sub (kp [54,53,55] O),l,am,(CX.refl z A),(iq (n:=0) O),E⟩
  ·rintro m p ⟨_,_,_,_,_,_,_,_,E⟩;rw[Ee] at E;cases E
  rintro n3 m p ⟨t,cn,co,k,l,y,an,cp,E⟩;refine AI ?_ k l;clear k l p m;rw[Ee] at E;refine AU ?_;refine AE O E (λbs E=>?_) (λbs E=>?_)
  ·refine AU ?_;refine BG (AU ?_);have bt:=br.mono' an;refine AO E O O bt sl_28.1 O λbv E bw ao=>?_;obtain⟨bx,_,ap⟩:=ao.lv;refine AU ?_;refine BZ Zl O y λbz b0 C aq=>?_;have ar:=ap.mono aq;obtain⟨rfl,⟨b1,au⟩⟩:=DC.ex ar;refine BI O O O O ty_158.1 O C .head O λb2 D b3=>AU ?_;refine WF.rc (.inl O) D (AU ?_);refine BE E O O O Kg O (λav F h' o=>Ch (St.all h') au (iq (n:=0) O) (iq (n:=1073741824) O) F) λav E=>AU ?_;refine BB (kp [62,54,53,55] O) λb4 G b5=>AE O E (λaw E=>?_) (λaw E=>?_)
   ·exact RT
   refine AU ?_;refine BP (AU ?_);refine WF.nil (λm p k l=>?_);have H:=G.drop .head;exact⟨(BV (t+1)),_,_,k.sub (kp [54,53,55] O),l,H,EX,(BY _),E⟩
  refine WF.exit O (λm p k l=>?_);exact⟨_,_,k.sub PJ,l,y,an,E⟩
 rintro m p ⟨b6,b7,k,l,bu,b8,E⟩;refine AI ?_ k l;clear k l p m;rw[G8] at E;exact RT
def Po (hs:St S L h) {g:Value}{b:AH}(s:Rd S h B5 g b) {r:Bool}(E:JK N b=some r):
 CA prog 43 #[g] S h (λv S' h'=>v= .bool r∧St S' (L) h'):=by
 refine A8 47 func43 O ntmps43 O λB=>?_;rw[JK] at E;refine AU ?_;refine A6 O s CE O hs λq1 S2 h3 ad e5 k6=>?_;have k8:=k6.fl NE;obtain⟨v9,_,ae⟩:=k8.ll;refine AU ?_;refine AN (λa w=>IV B S2 h3 (47,[]) a w [] (L) λ_ _=>Gm N=some r) ?_ ?_
 ·refine BA (λn1=>λa w=>∃(j:Int),IV B S2 h3 (47,[]) a w [(8,vI (↑b.Ap.length:Int)),(7,v9),(1,q1),(9,vI j)] (L) λ_ _=>AA j∧EQ N b (Gm N) n1 j=some r) N ?_ ?_ ?_
  ·intro x y k m;exact⟨0,_,_,k.sub (kp [8,7,1,9] O),m,ad,(CX.refl S2 h3),(iq (n:=0) O),E⟩
  ·rintro x y ⟨_,_,_,_,_,_,_,_,E⟩;rw[EQ] at E;cases E
  rintro n1 x y ⟨j,a9,ba,k,m,t,C,bb,E⟩;refine AI ?_ k m;clear k m y x;rw[EQ] at E;refine AU ?_;refine AE O E (λaf E=>?_) (λaf E=>?_)
  ·refine AU ?_;refine BG (AU ?_);have ag:=ae.mono' C;refine AO E O O ag sl_26.1 O λbc E be ah=>?_;obtain⟨bf,_,ai⟩:=ah.lv;refine AU ?_;refine BZ Zm O t λbg bh G aj=>?_;have ak:=ai.mono aj;obtain⟨rfl,⟨bi,am,an,ao,ap⟩⟩:=ED.ex ak;refine BI O O O O ty_147.1 O G .head O λbj H bk=>AU ?_;refine WF.rc (.inl O) H (AU ?_);refine BE E O O O Kg O (λI J h' o=>Ch (St.all h') am (iq (n:=0) O) (iq (n:=2) O) J) λI E=>AU ?_;obtain⟨K,c,E⟩:=bd E;refine A0 5 22 (.bool K) ?_ ?_
   ·cases M:(!I)
    ·have c:=HX M c;refine AU ?_;refine BE c O O O Kg O (λaq Q h' o=>Ch (St.all h') ao (iq (n:=0) O) (iq (n:=1099511627776) O) Q) λaq c=>AU ?_;cases c;exact AZ O
    have c:=HU M c;cases c;exact BM O O
   refine AU ?_;obtain⟨ar,d,E⟩:=bd E;refine A0 5 28 (.bool ar) ?_ ?_
   ·cases U:K
    ·have d:=HX U d;refine AU ?_;refine BE d O O O Kg O (λau V h' o=>Ch (St.all h') ap (iq (n:=0) O) (iq (n:=1440) O) V) λau d=>AU ?_;cases d;exact AZ O
    have d:=HU U d;cases d;exact BM O O
   refine BB (kp [28,4,8,7,1,9] O) λbl W bm=>AE O E (λav E=>?_) (λav E=>?_)
   ·exact RT
   have A:=k6.nw;have aw:=A.fl CS;obtain⟨bn,_,ax⟩:=aw.ll;have ay:=ax.le;have az:=A.fl Ns;have a0:=az.i;have a1:=A.fl AH.f_Links;obtain⟨bo,_,a2⟩:=a1.ll;have a3:=a2.le;refine AU ?_;refine gJ (cs:=[vI (↑b.F.length:Int),vI b.T,vI (↑b.D.length:Int)]) nH O O O (AU ?_);refine BZ jG O W λbp bq X br=>?_;refine BI O O O O ty_167.1 O X .head O λbs u bt=>AU ?_;refine WF.rc (.inr ⟨mo,by kernel_rfl⟩) u (AU ?_);obtain⟨a4,q,E⟩:=bd E;have Y:=rH q;refine nX O O nG Y.1 Y.2 O (gE (l:=([(↑b.F.length:Int),b.T,(↑b.D.length:Int)]:List Int)) (Value.int .i64) RG u O mh O q ty_3.1 O ?_);have a5:AA a4:=rG (p:=λz=>AA z) (all_cons (MB ay) (all_cons a0 (all_cons (MB a3) fV))) q;refine BE E O O O UB O (λa6 Z h' o=>I9 (St.all h') an a5 Z) λa6 E=>AU ?_;refine BB (kp [45,8,7,1,9] O) λbu ab bv=>AE O E (λa7 E=>?_) (λa7 E=>?_)
   ·exact RT
   refine AU ?_;refine BP (AU ?_);refine WF.nil (λx y k m=>?_);have ac:=ab.sel [] 2 O;exact⟨(BV (j+1)),_,_,k.sub (kp [8,7,1,9] O),m,ac,EX,(BY _),E⟩
  refine WF.exit O (λx y k m=>?_);exact⟨_,_,k.sub PJ,m,t,C,E⟩
 rintro x y ⟨bw,bx,k,m,a8,bz,E⟩;refine AI ?_ k m;clear k m y x;rw[Gm] at E;exact RT
def QP (hs:St S L h) {k:Value}{l:AH}(t:Rd S h B5 k l) {r:Bool}(E:Jo N l=some r):
 CA prog 44 #[k] S h (λv S' h'=>v= .bool r∧St S' (L) h'):=by
 refine A8 80 func44 O ntmps44 O λB=>?_;rw[Jo] at E;refine AU ?_;refine A6 O t CE O hs λq1 S2 h3 aj e5 k6=>?_;have k8:=k6.fl Nr;obtain⟨v9,_,ak⟩:=k8.ll;refine AU ?_;refine AN (λa w=>IV B S2 h3 (80,[]) a w [] (L) λ_ _=>G9 N=some r) ?_ ?_
 ·refine BA (λn1=>λa w=>∃(m:Int),IV B S2 h3 (80,[]) a w [(7,vI (↑l.Aq.length:Int)),(6,v9),(1,q1),(8,vI m)] (L) λ_ _=>AA m∧Eh N l (G9 N) n1 m=some r) N ?_ ?_ ?_
  ·intro x y p q;exact⟨0,_,_,p.sub (kp [7,6,1,8] O),q,aj,(CX.refl S2 h3),(iq (n:=0) O),E⟩
  ·rintro x y ⟨_,_,_,_,_,_,_,_,E⟩;rw[Eh] at E;cases E
  rintro n1 x y ⟨m,bn,bo,p,q,u,A,bp,E⟩;refine AI ?_ p q;clear p q y x;rw[Eh] at E;refine AU ?_;refine AE O E (λam E=>?_) (λam E=>?_)
  ·refine AU ?_;refine BG (AU ?_);have an:=ak.mono' A;refine AO E O O an sl_27.1 O λs E bq ao=>?_;obtain⟨br,_,ap⟩:=ao.lv;refine AU ?_;refine BZ Zk O u λbs bt D aq=>?_;have ar:=ap.mono aq;obtain⟨rfl,⟨bu,au,av,aw,ax,ay,az⟩⟩:=Gp.ex ar;refine BI O O O O ty_160.1 O D .head O λbv F bw=>AU ?_;refine WF.rc (.inl O) F ?_;have G:=k6.nw;have a0:=G.fl MR;obtain⟨bx,_,a1⟩:=a0.ll;have a2:=a1.le;refine AU ?_;refine BE E O O O UB O (λH I h' o=>I9 (St.all h') au (MB a2) I) λH E=>AU ?_;obtain⟨J,b,E⟩:=bd E;refine A0 12 31 (.bool J) ?_ ?_
   ·cases K:(!H)
    ·have b:=HX K b;refine AU ?_;refine BE b O O O UB O (λa3 M h' o=>I9 (St.all h') av (BY _) M) λa3 b=>AU ?_;cases b;exact AZ O
    have b:=HU K b;cases b;exact BM O O
   refine AU ?_;obtain⟨Q,c,E⟩:=bd E;refine A0 5 44 (.bool Q) ?_ ?_
   ·cases U:(J||(decide (s.V=s.C)))
    ·have c:=HX U c;refine AU ?_;refine BE c O O O Kg O (λa4 W h' o=>Ch (St.all h') aw (iq (n:=1) O) (iq (n:=24) O) W) λa4 c=>AU ?_;cases c;exact AZ O
    have c:=HU U c;cases c;exact BM O O
   refine AU ?_;obtain⟨X,d,E⟩:=bd E;refine A0 5 50 (.bool X) ?_ ?_
   ·cases Y:Q
    ·have d:=HX Y d;refine AU ?_;refine BE d O O O Kg O (λa5 Z h' o=>Ch (St.all h') ax (iq (n:=0) O) (iq (n:=1073741824) O) Z) λa5 d=>AU ?_;cases d;exact AZ O
    have d:=HU Y d;cases d;exact BM O O
   refine AU ?_;obtain⟨a6,g,E⟩:=bd E;refine A0 5 56 (.bool a6) ?_ ?_
   ·cases ab:X
    ·have g:=HX ab g;refine AU ?_;refine BE g O O O MW O (λa7 ac h' o=>Cp (St.all h') az ac) λa7 g=>AU ?_;cases g;exact AZ O
    have g:=HU ab g;cases g;exact BM O O
   refine BB (kp [56,4,7,6,1,8] O) λbz ad a8=>AE O E (λa9 E=>?_) (λa9 E=>?_)
   ·exact RT
   refine AU ?_;refine WF.rc (.inl O) ad (AU ?_);obtain⟨ba,i,E⟩:=bd E;refine A0 13 78 (.bool ba) ?_ ?_
   ·cases ae:((decide (s.Bl=(-1)))&&(decide (s.Bm≠0)))
    ·have i:=HX ae i;refine AU ?_;obtain⟨bb,j,i⟩:=bd i;refine A0 8 77 (.bool bb) ?_ ?_
     ·cases af:(decide (s.Bl≠(-1)))
      ·have j:=HX af j;cases j;exact BM O O
      have j:=HU af j;have bc:=G.mono a8;have be:=bc.fl CS;obtain⟨b0,_,bf⟩:=be.ll;have bg:=bf.le;refine AU ?_;refine BE j O O O UB O (λbh ag h' o=>I9 (St.all h') ay (MB bg) ag) λbh j=>AU ?_;cases j;exact AZ O
     refine AU ?_;cases i;exact AZ O
    have i:=HU ae i;cases i;exact BM O O
   refine BB (kp [78,7,6,1,8] O) λb1 ah bj=>AE O E (λai E=>?_) (λai E=>?_)
   ·exact RT
   refine AU ?_;refine BP (AU ?_);refine WF.nil (λx y p q=>?_);have z:=ah.drop .head;exact⟨(BV (m+1)),_,_,p.sub (kp [7,6,1,8] O),q,z,EX,(BY _),E⟩
  refine WF.exit O (λx y p q=>?_);exact⟨_,_,p.sub PJ,q,u,A,E⟩
 rintro x y ⟨bk,bl,p,q,bi,bm,E⟩;refine AI ?_ p q;clear p q y x;rw[G9] at E;exact RT
def TO (hs:St S L h) {m:Value}{q:AH}(n:Rd S h B5 m q) {r:Bool}(E:KM N q=some r):
 CA prog 10 #[m] S h (λv S' h'=>v= .bool r∧St S' (L) h'):=by
 refine A8 37 func10 O ntmps10 O λB=>?_;rw[KM] at E;refine AU ?_;refine A6 O n CE O hs λq1 S2 h3 l e5 p=>AU ?_;refine WF.rc (.inl O) l ?_;obtain⟨v7,_,k8⟩:=p.lv;refine AU ?_;refine BE E O O O sW O (λy9 Z h' o=>Q3 (St.all h') (k8.mono (o.all l.1)) Z) λy9 E=>AU ?_;obtain⟨s,a,E⟩:=bd E;refine A0 3 8 (.bool s) ?_ ?_
 ·cases t:y9
  ·have a:=HX t a;cases a;exact BM O O
  have a:=HU t a;obtain⟨au,_,aa⟩:=p.lv;refine AU ?_;refine BE a O O O sV O (λab u h' o=>QQ (St.all h') (aa.mono (o.all l.1)) u) λab a=>AU ?_;cases a;exact AZ O
 refine AU ?_;obtain⟨w,b,E⟩:=bd E;refine A0 3 12 (.bool w) ?_ ?_
 ·cases x:s
  ·have b:=HX x b;cases b;exact BM O O
  have b:=HU x b;obtain⟨av,_,ac⟩:=p.lv;refine AU ?_;refine BE b O O O sU O (λad y h' o=>Pn (St.all h') (ac.mono (o.all l.1)) y) λad b=>AU ?_;cases b;exact AZ O
 refine AU ?_;obtain⟨z,c,E⟩:=bd E;refine A0 3 16 (.bool z) ?_ ?_
 ·cases A:w
  ·have c:=HX A c;cases c;exact BM O O
  have c:=HU A c;obtain⟨aw,_,ae⟩:=p.lv;refine AU ?_;refine BE c O O O sT O (λaf C h' o=>QR (St.all h') (ae.mono (o.all l.1)) C) λaf c=>AU ?_;cases c;exact AZ O
 refine AU ?_;obtain⟨D,d,E⟩:=bd E;refine A0 3 20 (.bool D) ?_ ?_
 ·cases F:z
  ·have d:=HX F d;cases d;exact BM O O
  have d:=HU F d;obtain⟨ax,_,ag⟩:=p.lv;refine AU ?_;refine BE d O O O sS O (λah G h' o=>O6 (St.all h') (ag.mono (o.all l.1)) G) λah d=>AU ?_;cases d;exact AZ O
 refine AU ?_;obtain⟨H,g,E⟩:=bd E;refine A0 3 24 (.bool H) ?_ ?_
 ·cases I:D
  ·have g:=HX I g;cases g;exact BM O O
  have g:=HU I g;obtain⟨ay,_,ai⟩:=p.lv;refine AU ?_;refine BE g O O O sR O (λaj J h' o=>Pm (St.all h') (ai.mono (o.all l.1)) J) λaj g=>AU ?_;cases g;exact AZ O
 refine AU ?_;obtain⟨K,i,E⟩:=bd E;refine A0 3 28 (.bool K) ?_ ?_
 ·cases M:H
  ·have i:=HX M i;cases i;exact BM O O
  have i:=HU M i;obtain⟨az,_,ak⟩:=p.lv;refine AU ?_;refine BE i O O O sQ O (λal Q h' o=>QO (St.all h') (ak.mono (o.all l.1)) Q) λal i=>AU ?_;cases i;exact AZ O
 refine AU ?_;obtain⟨U,j,E⟩:=bd E;refine A0 3 32 (.bool U) ?_ ?_
 ·cases V:K
  ·have j:=HX V j;cases j;exact BM O O
  have j:=HU V j;obtain⟨a0,_,am⟩:=p.lv;refine AU ?_;refine BE j O O O sP O (λan W h' o=>Po (St.all h') (am.mono (o.all l.1)) W) λan j=>AU ?_;cases j;exact AZ O
 refine AU ?_;obtain⟨ao,k,E⟩:=bd E;refine A0 3 36 (.bool ao) ?_ ?_
 ·cases X:U
  ·have k:=HX X k;cases k;exact BM O O
  have k:=HU X k;obtain⟨a1,_,ap⟩:=p.lv;refine AU ?_;refine BE k O O O sO O (λaq Y h' o=>QP (St.all h') (ap.mono (o.all l.1)) Y) λaq k=>AU ?_;cases k;exact AZ O
 refine AU ?_;exact BB (kp [2] O) λa2 ar a3=>RT
def Iy (i:St S L h) {b:Value}{d:AB}(c:Rd S h AC b d) {a:Int}(g:AA a) {r:Bool}(E:D4 N d a=some r):
 CA prog 58 #[b,vI a] S h (λv j h'=>v= .bool r∧St j (L) h'):=by
 refine A8 21 func58 O ntmps58 O λB=>?_;rw[D4] at E;refine AU ?_;exact A6 O c CE O i λl m n k o p=>RT
def Kq (i:St S L h) {a:Int}(c:AA a) {b:Int}(d:AA b) {r:Bool}(E:Fe N a b=some r):
 CA prog 59 #[vI a,vI b] S h (λv g h'=>v= .bool r∧St g (L) h'):=by
 refine A8 12 func59 O ntmps59 O λB=>?_;rw[Fe] at E;exact RT
def Pe (hs:St S L h) {D:Value}{s:AH}(ae:Rd S h B5 D s) {F:Value}{j:AX}(af:Rd S h DD F j) {r:Bool}(E:JE N s j=some r):
 CA prog 19 #[D,F] S h (λv S' h'=>v= .bool r∧St S' (L) h'):=by
 refine A8 188 func19 O ntmps19 O λB=>?_;rw[JE] at E;refine AU ?_;refine A6 O ae CE O hs λq1 S2 h3 c7 e5 k6=>?_;have k7:=af.mono e5;refine A6 O k7 CE O c7 λq8 S9 au bc be av=>?_;have e6:=k6.mono be;have e7:=k6.mono be;refine AU ?_;refine AE O E (λc8 E=>?_) (λc8 E=>?_)
 ·exact RT
 refine AU ?_;refine AN (λa w=>IV B S9 au (188,[]) a w [(3,q8),(2,q1)] (L) λ_ _=>H6 N s j=some r) ?_ ?_
 ·refine BA (λn1=>λa w=>∃(Q:Int),IV B S9 au (188,[]) a w [(3,q8),(2,q1),(5,vI Q)] (L) λ_ _=>AA Q∧FG N j (H6 N s j) n1 Q=some r) N ?_ ?_ ?_
  ·intro u y d g;exact⟨0,_,_,d.sub (kp [3,2,5] O),g,bc,(CX.refl S9 au),(iq (n:=0) O),E⟩
  ·rintro u y ⟨_,_,_,_,_,_,_,_,E⟩;rw[FG] at E;cases E
  rintro n1 u y ⟨Q,e8,e9,d,g,U,bf,fa,E⟩;refine AI ?_ d g;clear d g y u;rw[FG] at E;have c9:=av.mono bf;refine AU ?_;refine AE O E (λda E=>?_) (λda E=>?_)
  ·refine AU ?_;refine BG (AU ?_);refine WF.rc (.inl O) U ?_;have db:=c9.fl AX.f_Vol;obtain⟨fb,_,dc⟩:=db.ll;refine AU ?_;refine AO E O O dc sl_32.1 O λfc E fd dd=>?_;obtain⟨fe,_,de⟩:=dd.lv;refine AU ?_;refine BE E O O O YV O (λdf bg h' o=>Iy (St.all h') (de.mono (o.all U.1)) (iq (n:=1125899906842624) O) bg) λdf E=>AU ?_;refine BB (kp [50,3,2,5] O) λff bh fg=>AE O E (λdg E=>?_) (λdg E=>?_)
   ·exact RT
   refine AU ?_;refine BP (AU ?_);refine WF.nil (λu y d g=>?_);exact⟨(BV (Q+1)),_,_,d.sub (kp [3,2,5] O),g,bh,EX,(BY _),E⟩
  refine WF.exit O (λu y d g=>?_);exact⟨_,_,d.sub (kp [3,2] O),g,U,bf,E⟩
 rintro u y ⟨aw,ax,d,g,bi,fh,E⟩;refine AI ?_ d g;clear d g y u;rw[H6] at E;refine AU ?_;refine AN (λa w=>IV B aw ax (188,[]) a w [(3,q8),(2,q1)] (L) λ_ _=>H5 N s j=some r) ?_ ?_
 ·refine BA (λn3=>λa w=>∃(M:Int),IV B aw ax (188,[]) a w [(3,q8),(2,q1),(6,vI M)] (L) λ_ _=>AA M∧FE N s j (H5 N s j) n3 M=some r) N ?_ ?_ ?_
  ·intro u y d g;exact⟨0,_,_,d.sub (kp [3,2,6] O),g,bi,(CX.refl aw ax),(iq (n:=0) O),E⟩
  ·rintro u y ⟨_,_,_,_,_,_,_,_,E⟩;rw[FE] at E;cases E
  rintro n3 u y ⟨M,fi,fj,d,g,ag,dh,fk,E⟩;refine AI ?_ d g;clear d g y u;rw[FE] at E;have ay:=av.nw;refine AU ?_;refine AE O E (λdi E=>?_) (λdi E=>?_)
  ·refine AU ?_;refine BG ?_;have dj:=ay.fl AX.f_Queue;obtain⟨fm,_,dk⟩:=dj.ll;refine AU ?_;refine AO E O O dk sl_33.1 O λC E dm bj=>?_;obtain⟨dn,_,bk⟩:=bj.lv;refine AU ?_;refine BZ Sq O ag λdp dq az bl=>?_;have bm:=bk.mono bl;obtain⟨rfl,⟨dr,bn,bo,bp⟩⟩:=BU.ex bm;refine BI O O O O ty_93.1 O az .head O λds a0 dt=>AU ?_;refine WF.rc (.inl O) a0 (AU ?_);obtain⟨bq,a1,E⟩:=bd E;refine KN O O O YV O (λh' o=>Iy (St.all h') (AC.mk (x:=C.G) ⟨bo,bp⟩) (iq (n:=1125899906842624) O) a1) ?_;have du:=ay.nw;refine AU ?_;obtain⟨br,k,E⟩:=bd E;refine A0 8 88 (.bool br) ?_ ?_
   ·cases ah:(((!bq)||(decide (C.G.A=0)))||(decide (C.K<j.H)))
    ·have k:=HX ah k;have bs:=k6.nw;have bt:=bs.fl CS;obtain⟨dv,_,bu⟩:=bt.ll;have bv:=bu.le;refine AU ?_;refine BE k O O O YU O (λbw a2 h' o=>Kq (St.all h') bn (MB bv) a2) λbw k=>AU ?_;cases k;exact AZ O
    have k:=HU ah k;cases k;exact BM O O
   refine BB (kp [88,7,3,2,6] O) λdw a3 dx=>AE O E (λbx E=>?_) (λbx E=>?_)
   ·exact RT
   refine AU ?_;refine JL (.inr ⟨mo,by kernel_rfl⟩) (AU ?_);obtain⟨bz,b,E⟩:=bd E;refine A0 35 126 (.bool bz) ?_ ?_
   ·cases ai:(decide (0<M))
    ·have b:=HX ai b;cases b;exact BM O O
    have b:=HU ai b;have V:=ay.nw;have b0:=V.fl AX.f_Queue;obtain⟨dy,_,b1⟩:=b0.ll;refine AU ?_;refine AO b O O b1 sl_33.1 O λb2 b dz d0=>AU ?_;obtain⟨b3,c,b⟩:=bd b;refine A0 23 125 (.bool b3) ?_ ?_
    ·cases aj:(decide (C.K<b2.K))
     ·have c:=HX aj c;have b4:=V.fl AX.f_Queue;obtain⟨d1,_,b5⟩:=b4.ll;refine AU ?_;refine AO c O O b5 sl_33.1 O λb6 c d2 d3=>AU ?_;obtain⟨b7,l,c⟩:=bd c;refine A0 11 124 (.bool b7) ?_ ?_
      ·cases ak:(decide (b6.K=C.K))
       ·have l:=HX ak l;cases l;exact BM O O
       have l:=HU ak l;have b8:=V.fl AX.f_Queue;obtain⟨d4,_,b9⟩:=b8.ll;refine AU ?_;refine AO l O O b9 sl_33.1 O λd5 l d6 d7=>AU ?_;cases l;exact AZ O
      refine AU ?_;cases c;exact AZ O
     have c:=HU aj c;cases c;exact BM O O
    refine AU ?_;cases b;exact AZ O
   refine AU ?_;refine AE O E (λca E=>?_) (λca E=>?_)
   ·exact RT
   refine AU ?_;refine BP (AU ?_);refine WF.nil (λu y d g=>?_);have a4:=a3.drop .head;exact⟨(BV (M+1)),_,_,d.sub (kp [3,2,6] O),g,a4,EX,(BY _),E⟩
  refine WF.exit O (λu y d g=>?_);exact⟨_,_,d.sub (kp [3,2] O),g,ag,dh,E⟩
 rintro u y ⟨W,X,d,g,a5,d8,E⟩;refine AI ?_ d g;clear d g y u;rw[H5] at E;refine AU ?_;refine AN (λa w=>IV B W X (188,[]) a w [] (L) λ_ _=>H4 N=some r) ?_ ?_
 ·refine BA (λn5=>λa w=>∃(z:Int),IV B W X (188,[]) a w [(3,q8),(2,q1),(8,vI z)] (L) λ_ _=>AA z∧Dp N s j (H4 N) n5 z=some r) N ?_ ?_ ?_
  ·intro u y d g;exact⟨0,_,_,d.sub (kp [3,2,8] O),g,a5,(CX.refl W X),(iq (n:=0) O),E⟩
  ·rintro u y ⟨_,_,_,_,_,_,_,_,E⟩;rw[Dp] at E;cases E
  rintro n5 u y ⟨z,Y,d9,d,g,Z,cb,ea,E⟩;refine AI ?_ d g;clear d g y u;rw[Dp] at E;have cc:=av.nw;refine AU ?_;refine AE O E (λcd E=>?_) (λcd E=>?_)
  ·refine AU ?_;refine BG ?_;have ce:=cc.fl AX.f_Links;obtain⟨eb,_,cf⟩:=ce.ll;refine AU ?_;refine AO E O O cf sl_34.1 O λt E ec cg=>?_;obtain⟨ed,_,ch⟩:=cg.lv;refine AU ?_;refine BZ So O Z λam ee a6 ci=>?_;have cj:=ch.mono ci;obtain⟨rfl,⟨ck,cl,ef,cm,cn⟩⟩:=AJ.ex cj;refine BI O O O O ty_97.1 O a6 .head O λab ac eg=>?_;have ad:=k6.nw;have co:=ad.fl AH.f_Links;obtain⟨eh,_,cp⟩:=co.ll;refine AU ?_;refine AO E O O cp sl_24.1 O λcq E ei ej=>AU ?_;obtain⟨cr,m,E⟩:=bd E;refine A0 8 154 (.bool cr) ?_ ?_
   ·cases an:(decide (cq.I=5))
    ·have m:=HX an m;have cs:=ad.fl AH.f_Links;obtain⟨ek,_,ct⟩:=cs.ll;refine AU ?_;refine AO m O O ct sl_24.1 O λel m em en=>AU ?_;cases m;exact AZ O
    have m:=HU an m;cases m;exact BM O O
   refine AU ?_;refine F2 (λa w=>∃(J:Int),IV B Y ab (188,[]) a w [(9,vP am 0),(3,q8),(2,q1),(8,vI z),(10,vI J)] (Bx am 97 [vI t.P.B,vI t.P.A,vI t.S,vI t.N.B,vI t.N.A]::L) λ_ _=>AA J∧H3 N s z t (Dp N s j (H4 N) n5) J=some r) ?_ ?_
   ·refine AE O E (λcu E=>?_) (λcu E=>?_)
    ·refine AU ?_;refine WF.nil (λu y d g=>?_);exact⟨1,_,_,d.sub (kp [9,3,2,8,10] O),g,ac,(CX.refl Y ab),(iq (n:=1) O),E⟩
    refine AU ?_;refine WF.nil (λu y d g=>?_);exact⟨0,_,_,d.sub (kp [9,3,2,8,10] O),g,ac,(CX.refl Y ab),(iq (n:=0) O),E⟩
   rintro u y ⟨J,eo,ep,d,g,a7,cv,cw,E⟩;refine AI ?_ d g;clear d g y u;rw[H3] at E;refine AU ?_;refine WF.rc (.inr ⟨mo,by kernel_rfl⟩) a7 ?_;have ao:=ad.mono cv;have cx:=ao.fl AH.f_Links;obtain⟨eq,_,cy⟩:=cx.ll;refine AU ?_;refine AO E O O cy sl_24.1 O λer E es cz=>?_;have c0:=cz.fl Co;have c1:=c0.i;refine AU ?_;obtain⟨c2,a8,E⟩:=bd E;refine KN O O O YV O (λh' o=>Iy (St.all h') (AC.mk (x:=t.P) ⟨ck,cl⟩) c1 a8) (AU ?_);obtain⟨ap,p,E⟩:=bd E;refine A0 6 171 (.bool ap) ?_ ?_
   ·cases aq:(!c2)
    ·have p:=HX aq p;refine AU ?_;obtain⟨eu,a9,p⟩:=bd p;refine KN O O O YV O (λh' o=>Iy (St.all h') (AC.mk (x:=t.N) ⟨cm,cn⟩) cw a9) (AU ?_);cases p;exact AZ O
    have p:=HU aq p;cases p;exact BM O O
   refine AU ?_;obtain⟨c3,q,E⟩:=bd E;refine A0 10 187 (.bool c3) ?_ ?_
   ·cases ar:(ap||(decide (t.S<0)))
    ·have q:=HX ar q;have c4:=ao.fl AH.f_Links;obtain⟨ev,_,c5⟩:=c4.ll;refine AU ?_;refine AO q O O c5 sl_24.1 O λew q ey ez=>AU ?_;cases q;exact AZ O
    have q:=HU ar q;cases q;exact BM O O
   refine BB (kp [187,3,2,8] O) λe0 ba e1=>AE O E (λc6 E=>?_) (λc6 E=>?_)
   ·exact RT
   refine AU ?_;refine BP (AU ?_);refine WF.nil (λu y d g=>?_);have bb:=ba.drop .head;exact⟨(BV (z+1)),_,_,d.sub (kp [3,2,8] O),g,bb,EX,(BY _),E⟩
  refine WF.exit O (λu y d g=>?_);exact⟨_,_,d.sub PJ,g,Z,cb,E⟩
 rintro u y ⟨e2,e3,d,g,dl,e4,E⟩;refine AI ?_ d g;clear d g y u;rw[H4] at E;exact RT
def Di (k:St S L h) {a:Int}(c:AA a) {b:Int}(d:AA b) {r:Int}(E:Cy N a b=some r):
 CA prog 121 #[vI a,vI b] S h (λv g h'=>v=vI r∧AA r∧St g (L) h'):=by
 refine A8 24 func121 O ntmps121 O λB=>?_;rw[Cy] at E;refine AU ?_;refine AE O E (λi E=>?_) (λi E=>?_)
 ·exact RT
 refine AU ?_;refine AE O E (λj E=>?_) (λj E=>?_)
 ·exact RT
 exact RT
def MZ (q:St S L h) {a:Value}{c:AB}(b:Rd S h AC a c) {r:Int}(E:JJ N c=some r):
 CA prog 62 #[a] S h (λv s h'=>v=vI r∧AA r∧St s (L) h'):=by
 refine A8 8 func62 O ntmps62 O λB=>?_;rw[JJ] at E;refine AU ?_;refine A6 O b CE O q λz A C g D n=>AU ?_;refine WF.rc (.inl O) g ?_;have t:=n.fl AB.f_Hi;have u:=t.i;have j:=n.fl AB.f_Lo;have k:=j.i;refine AU ?_;refine A5 E O O O Ni O (λl d h' o=>Di (St.all h') u k d) λl E m=>?_;have w:=m;refine AU ?_;exact BB (kp [2] O) λx p y=>RT
def DU (k:St S L h) {a:Int}(c:AA a) {b:Int}(d:AA b) {r:Int}(E:DG N a b=some r):
 CA prog 63 #[vI a,vI b] S h (λv g h'=>v=vI r∧AA r∧St g (L) h'):=by
 refine A8 24 func63 O ntmps63 O λB=>?_;rw[DG] at E;refine AU ?_;refine AE O E (λi E=>?_) (λi E=>?_)
 ·exact RT
 refine AU ?_;refine AE O E (λj E=>?_) (λj E=>?_)
 ·exact RT
 exact RT
def QL (hs:St S L h) {j:Value}{d:AX}(t:Rd S h DD j d) {r:Int}(E:Jl N d=some r):
 CA prog 21 #[j] S h (λv S' h'=>v=vI r∧AA r∧St S' (L) h'):=by
 refine A8 42 func21 O ntmps21 O λB=>?_;rw[Jl] at E;refine AU ?_;refine A6 O t CE O hs λX Y Z ab e5 k6=>AU ?_;refine AN (λa w=>∃(z:Int),IV B Y Z (42,[]) a w [(1,X),(3,vI z)] (L) λ_ _=>AA z∧IM N d z=some r) ?_ ?_
 ·refine BA (λn1=>λa w=>∃(k:Int) (l:Int),IV B Y Z (42,[]) a w [(1,X),(3,vI k),(4,vI l)] (L) λ_ _=>AA k∧AA l∧Fs N d (IM N d) n1 k l=some r) N ?_ ?_ ?_
  ·intro g i b c;exact⟨0,0,_,_,b.sub (kp [1,3,4] O),c,ab,(CX.refl Y Z),(iq (n:=0) O),(iq (n:=0) O),E⟩
  ·rintro g i ⟨_,_,_,_,_,_,_,_,_,_,E⟩;rw[Fs] at E;cases E
  rintro n1 g i ⟨k,l,a5,a6,b,c,m,A,C,a7,E⟩;refine AI ?_ b c;clear b c i g;rw[Fs] at E;have ac:=k6.mono A;refine AU ?_;refine AE O E (λad E=>?_) (λad E=>?_)
  ·refine AU ?_;refine BG (AU ?_);refine WF.rc (.inl O) m ?_;have ae:=ac.fl AX.f_Vol;obtain⟨a8,_,af⟩:=ae.ll;refine AU ?_;refine AO E O O af sl_32.1 O λa9 E ba ag=>?_;obtain⟨bb,_,ah⟩:=ag.lv;refine AU ?_;refine A5 E O O O iS O (λai D h' o=>MZ (St.all h') (ah.mono (o.all m.1)) D) λai E aj=>?_;have ak:=aj;refine AU ?_;refine BB (kp [5,1,3,4] O) λbc F be=>WF.rc (.inl O) F (AU ?_);refine A5 E O O O PM O (λG H h' o=>DU (St.all h') C ak H) λG E al=>?_;have am:=al;refine AU ?_;refine BB (kp [3,1,4] O) λbf I bg=>BP (AU ?_);refine WF.nil (λg i b c=>?_);exact⟨G,(BV (l+1)),_,_,b.sub (kp [1,3,4] O),c,I,EX,am,(BY _),E⟩
  refine WF.exit O (λg i b c=>?_);exact⟨k,_,_,b.sub (kp [1,3] O),c,m,A,C,E⟩
 rintro g i ⟨z,x,y,b,c,J,bh,r8,E⟩;refine AI ?_ b c;clear b c i g;rw[IM] at E;refine AU ?_;refine AN (λa w=>∃(u:Int),IV B x y (42,[]) a w [(3,vI u)] (L) λ_ _=>AA u∧Js N u=some r) ?_ ?_
 ·refine BA (λn3=>λa w=>∃(p:Int) (q:Int),IV B x y (42,[]) a w [(1,X),(3,vI p),(6,vI q)] (L) λ_ _=>AA p∧AA q∧Fq N d (Js N) n3 p q=some r) N ?_ ?_ ?_
  ·intro g i b c;exact⟨z,0,_,_,b.sub (kp [1,3,6] O),c,J,(CX.refl x y),r8,(iq (n:=0) O),E⟩
  ·rintro g i ⟨_,_,_,_,_,_,_,_,_,_,E⟩;rw[Fq] at E;cases E
  rintro n3 g i ⟨p,q,bi,bj,b,c,s,an,K,bk,E⟩;refine AI ?_ b c;clear b c i g;rw[Fq] at E;have ao:=k6.nw;refine AU ?_;refine AE O E (λap E=>?_) (λap E=>?_)
  ·refine AU ?_;refine BG (AU ?_);refine WF.rc (.inl O) s ?_;have aq:=ao.fl AX.f_Queue;obtain⟨bl,_,ar⟩:=aq.ll;refine AU ?_;refine AO E O O ar sl_33.1 O λbm E bn au=>?_;have av:=au.fl AY.f_Vol;obtain⟨bo,_,aw⟩:=av.lv;refine AU ?_;refine A5 E O O O iS O (λax M h' o=>MZ (St.all h') (aw.mono (o.all s.1)) M) λax E ay=>?_;have az:=ay;refine AU ?_;refine BB (kp [7,1,3,6] O) λbp Q bq=>WF.rc (.inl O) Q (AU ?_);refine A5 E O O O PM O (λU V h' o=>DU (St.all h') K az V) λU E a0=>?_;have a1:=a0;refine AU ?_;refine BB (kp [3,1,6] O) λbr W bs=>BP (AU ?_);refine WF.nil (λg i b c=>?_);exact⟨U,(BV (q+1)),_,_,b.sub (kp [1,3,6] O),c,W,EX,a1,(BY _),E⟩
  refine WF.exit O (λg i b c=>?_);exact⟨p,_,_,b.sub (kp [3] O),c,s,an,K,E⟩
 rintro g i ⟨u,bt,a3,b,c,a2,a4,bu,E⟩;refine AI ?_ b c;clear b c i g;rw[Js] at E;exact RT
def Tv (z:St S L h) {b:Value}{c:(List Int)}(i:Sl S h AW b c) {r:Bool}(E:ME N c=some r):
 CA prog 154 #[b] S h (λv A h'=>v= .bool r∧St A (L) h'):=by
 refine A8 24 func154 O ntmps154 O λB=>?_;rw[ME] at E;refine AU ?_;refine AN (λa w=>IV B S h (24,[]) a w [] (L) λ_ _=>J1 N=some r) ?_ ?_
 ·refine BA (λx=>λa w=>∃(o:Int) (p:Int),IV B S h (24,[]) a w [(7,vI (↑c.length:Int)),(6,b),(3,vI o),(8,vI p)] (L) λ_ _=>AA o∧AA p∧IJ N c (J1 N) x o p=some r) N ?_ ?_ ?_
  ·intro k l d g;exact⟨0,0,_,_,d.sub (kp [7,6,3,8] O),g,z,(CX.refl S h),(iq (n:=0) O),(iq (n:=0) O),E⟩
  ·rintro k l ⟨_,_,_,_,_,_,_,_,_,_,E⟩;rw[IJ] at E;cases E
  rintro x k l ⟨o,p,C,D,d,g,j,m,K,M,E⟩;refine AI ?_ d g;clear d g l k;rw[IJ] at E;refine AU ?_;refine AE O E (λq E=>?_) (λq E=>?_)
  ·refine AU ?_;refine BG (AU ?_);have s:=i.mono' m;refine AO E O O s sl_29.1 O λt E F G=>AU ?_;refine AE O E (λu E=>?_) (λu E=>?_)
   ·exact RT
   refine AU ?_;refine BP (AU ?_);refine WF.nil (λk l d g=>?_);exact⟨(BV (o+t)),(BV (p+1)),_,_,d.sub (kp [7,6,3,8] O),g,j,m,(BY _),(BY _),E⟩
  refine WF.exit O (λk l d g=>?_);exact⟨_,_,d.sub PJ,g,j,m,E⟩
 rintro k l ⟨H,I,d,g,y,J,E⟩;refine AI ?_ d g;clear d g l k;rw[J1] at E;exact RT
def P6 (k:St S L h) {c:Value}{d:(List Int)}(g:Sl S h AW c d) {a:Int}(i:AA a) {r:Bool}(E:LR N d a=some r):
 CA prog 122 #[c,vI a] S h (λv m h'=>v= .bool r∧St m (L) h'):=by
 refine A8 21 func122 O ntmps122 O λB=>?_;rw[LR] at E;refine AU ?_;refine WF.rc (.inl O) k (AU ?_);obtain⟨n,b,E⟩:=bd E;refine A0 3 20 (.bool n) ?_ ?_
 ·cases l:(((decide (0≤a))&&(decide (a≤16)))&&(decide ((↑d.length:Int)=a)))
  ·have b:=HX l b;cases b;exact BM O O
  have b:=HU l b;refine AU ?_;refine BE b O O O mH O (λp j h' o=>Tv (St.all h') (g.mono' (o.all k.1)) j) λp b=>AU ?_;cases b;exact AZ O
 refine AU ?_;exact BB (kp [4] O) λt q s=>RT
def Tk (i:St S L h) {b:Int}(d:AA b) {a:Int}(c:AA a) {r:Bool}(E:NM N b a=some r):
 CA prog 123 #[vI b,vI a] S h (λv g h'=>v= .bool r∧St g (L) h'):=by
 refine A8 12 func123 O ntmps123 O λB=>?_;rw[NM] at E;exact RT
def TG (hs:St S L h) {p:Value}{j:AH}(F:Rd S h B5 p j) {q:Value}{i:BQ}(G:Rd S h DX q i) {r:Int×Bool}(E:Lh N j i=some r):
 CA prog 64 #[p,q] S h (λv S' h'=>v= .tuple #[vI r.1,.bool r.2]∧AA r.1∧St S' (L) h'):=by
 refine A8 76 func64 O ntmps64 O λB=>?_;rw[Lh] at E;refine AU ?_;refine A6 O F CE O hs λq1 S2 h3 bg e5 k6=>?_;have k7:=G.mono e5;refine A6 O k7 CE O bg λq8 S9 Y aj cr ak=>?_;have bh:=ak.fl LV;obtain⟨bi,_,bj⟩:=bh.ll;refine AU ?_;refine AN (λa w=>∃(u:Int),IV B S9 Y (76,[]) a w [(3,q8),(2,q1),(6,vI u)] (L) λ_ _=>AA u∧Fa N j i u=some r) ?_ ?_
 ·refine BA (λn1=>λa w=>∃(s:Int) (x:Int),IV B S9 Y (76,[]) a w [(14,vI (↑i.Af.length:Int)),(13,bi),(3,q8),(2,q1),(6,vI s),(15,vI x)] (L) λ_ _=>AA s∧AA x∧FZ N j i (Fa N j i) n1 s x=some r) N ?_ ?_ ?_
  ·intro k l b g;exact⟨0,0,_,_,b.sub (kp [14,13,3,2,6,15] O),g,aj,(CX.refl S9 Y),(iq (n:=0) O),(iq (n:=0) O),E⟩
  ·rintro k l ⟨_,_,_,_,_,_,_,_,_,_,E⟩;rw[FZ] at E;cases E
  rintro n1 k l ⟨s,x,cs,ct,b,g,y,am,bk,cu,E⟩;refine AI ?_ b g;clear b g l k;rw[FZ] at E;refine AU ?_;refine AE O E (λbl E=>?_) (λbl E=>?_)
  ·refine AU ?_;refine BG (AU ?_);have bm:=bj.mono' am;refine AO E O O bm sl_67.1 O λcv E cw bn=>?_;obtain⟨cx,_,an⟩:=bn.ll;refine AU ?_;refine WF.rc (.inl O) y ?_;have bo:=k6.nw;have bp:=bo.fl JC;obtain⟨cy,_,bq⟩:=bp.ll;have br:=bq.le;refine AU ?_;refine BE E O O O cU O (λbs ao h' o=>P6 (St.all h') (an.mono' (o.all y.1)) (MB br) ao) λbs E=>AU ?_;refine BB (kp [24,8,14,13,3,2,6,15] O) λcz z bt=>AE O E (λbu E=>?_) (λbu E=>?_)
   ·refine AU ?_;refine WF.ret (λk l b g=>?_);cases E;exact Jw b O g (Hr (K5 b (v:=_) O) (Hr (K5 b (v:=_) O) Jr)) O EX ⟨O,(iq (n:=0) O),z⟩
   refine AU ?_;refine WF.rc (.inl O) z (AU ?_);have bv:=an.mono' bt;refine A5 E O O O U3 O (λap aq h' o=>KU (St.all h') (bv.mono' (o.all z.1)) aq) λap E bw=>?_;have c0:=bw;refine AU ?_;refine BB (kp [6,14,13,3,2,15] O) λc1 J c2=>AU ?_;refine AE O E (λbx E=>?_) (λbx E=>?_)
   ·refine AU ?_;refine WF.ret (λk l b g=>?_);cases E;exact Jw b O g (Hr (K5 b (v:=_) O) (Hr (K5 b (v:=_) O) Jr)) O EX ⟨O,(iq (n:=0) O),J⟩
   refine AU ?_;refine BP (AU ?_);refine WF.nil (λk l b g=>?_);exact⟨(BV (s+ap)),(BV (x+1)),_,_,b.sub (kp [14,13,3,2,6,15] O),g,J,EX,(BY _),(BY _),E⟩
  refine WF.exit O (λk l b g=>?_);exact⟨s,_,_,b.sub (kp [3,2,6] O),g,y,am,bk,E⟩
 rintro k l ⟨u,Z,ab,b,g,ar,bz,b0,E⟩;refine AI ?_ b g;clear b g l k;rw[Fa] at E;have au:=ak.mono bz;have b1:=au.fl BQ.f_Queue;obtain⟨b2,_,b3⟩:=b1.ll;refine AU ?_;refine AN (λa w=>∃(I:Int),IV B Z ab (76,[]) a w [(6,vI I)] (L) λ_ _=>AA I∧Jc N I=some r) ?_ ?_
 ·refine BA (λn3=>λa w=>∃(t:Int) (A:Int),IV B Z ab (76,[]) a w [(34,vI (↑i.E.length:Int)),(33,b2),(3,q8),(2,q1),(6,vI t),(35,vI A)] (L) λ_ _=>AA t∧AA A∧Ha N j i (Jc N) n3 t A=some r) N ?_ ?_ ?_
  ·intro k l b g;exact⟨u,0,_,_,b.sub (kp [34,33,3,2,6,35] O),g,ar,(CX.refl Z ab),b0,(iq (n:=0) O),E⟩
  ·rintro k l ⟨_,_,_,_,_,_,_,_,_,_,E⟩;rw[Ha] at E;cases E
  rintro n3 k l ⟨t,A,c3,c4,b,g,M,av,b4,c5,E⟩;refine AI ?_ b g;clear b g l k;rw[Ha] at E;refine AU ?_;refine AE O E (λb5 E=>?_) (λb5 E=>?_)
  ·refine AU ?_;refine BG (AU ?_);have b6:=b3.mono' av;refine AO E O O b6 sl_68.1 O λb7 E c6 b8=>?_;obtain⟨c7,_,b9⟩:=b8.lv;refine AU ?_;refine BZ Zi O M λc8 c9 aw ca=>?_;have cb:=b9.mono ca;obtain⟨cd,rfl,ce,ax,Q⟩:=Gq.ex cb;refine G1 O O O ON ty_83.1 O aw .head O λcf C ay=>AU ?_;refine WF.rc (.inl O) C ?_;have cg:=au.nw;refine AU ?_;obtain⟨U,c,E⟩:=bd E;refine A0 8 52 (.bool U) ?_ ?_
   ·cases V:(decide (b7.K<i.H))
    ·have c:=HX V c;have az:=k6.nw;have a0:=az.fl CS;obtain⟨ch,_,a1⟩:=a0.ll;have a2:=a1.le;refine AU ?_;refine BE c O O O mT O (λa3 ac h' o=>Tk (St.all h') ax (MB a2) ac) λa3 c=>AU ?_;cases c;exact AZ O
    have c:=HU V c;cases c;exact BM O O
   refine AU ?_;obtain⟨a4,d,E⟩:=bd E;refine A0 8 61 (.bool a4) ?_ ?_
   ·cases W:U
    ·have d:=HX W d;have a5:=k6.nw;have a6:=a5.fl JC;obtain⟨ci,_,a7⟩:=a6.ll;have a8:=a7.le;refine AU ?_;have a9:=Q.mono' ay;refine BE d O O O cU O (λba ad h' o=>P6 (St.all h') (a9.mono' (o.all C.1)) (MB a8) ad) λba d=>AU ?_;cases d;exact AZ O
    have d:=HU W d;cases d;exact BM O O
   refine BB (kp [61,10,34,33,3,2,6,35] O) λcj m ck=>AE O E (λbb E=>?_) (λbb E=>?_)
   ·refine AU ?_;refine WF.ret (λk l b g=>?_);have ae:=m.drop .head;cases E;exact Jw b O g (Hr (K5 b (v:=_) O) (Hr (K5 b (v:=_) O) Jr)) O EX ⟨O,(iq (n:=0) O),ae⟩
   refine AU ?_;refine WF.rc (.inl O) m (AU ?_);have bc:=Q.nw;refine A5 E O O O U3 O (λX af h' o=>KU (St.all h') (bc.mono' (o.all m.1)) af) λX E be=>?_;have cl:=be;refine AU ?_;refine BB (kp [11,34,33,3,2,6,35] O) λcm D cn=>AU ?_;refine AE O E (λbf E=>?_) (λbf E=>?_)
   ·refine AU ?_;refine WF.ret (λk l b g=>?_);have ag:=D.drop .head;cases E;exact Jw b O g (Hr (K5 b (v:=_) O) (Hr (K5 b (v:=_) O) Jr)) O EX ⟨O,(iq (n:=0) O),ag⟩
   refine AU ?_;refine BP (AU ?_);refine WF.nil (λk l b g=>?_);have ah:=D.drop .head;exact⟨(BV (t+X)),(BV (A+1)),_,_,b.sub (kp [34,33,3,2,6,35] O),g,ah,EX,(BY _),(BY _),E⟩
  refine WF.exit O (λk l b g=>?_);exact⟨t,_,_,b.sub (kp [6] O),g,M,av,b4,E⟩
 rintro k l ⟨I,co,cp,b,g,ai,cq,cc,E⟩;refine AI ?_ b g;clear b g l k;rw[Jc] at E;refine AU ?_;refine WF.ret (λk l b g=>?_);cases E;exact Jw b O g (Hr (K5 b (v:=_) O) (Hr (K5 b (v:=_) O) Jr)) O EX ⟨O,cc,ai⟩
def OP (F:St S L h) {c:Value}{i:(List Int)}(l:Sl S h AW c i) {b:Int}(q:AA b) {r:Int×Bool}(E:KW N i b=some r):
 CA prog 65 #[c,vI b] S h (λv G h'=>v= .tuple #[vI r.1,.bool r.2]∧AA r.1∧St G (L) h'):=by
 refine A8 29 func65 O ntmps65 O λB=>?_;rw[KW] at E;refine AU ?_;refine AN (λa w=>∃(u:Int),IV B S h (29,[]) a w [(6,vI u)] (L) λ_ _=>AA u∧Ir N u=some r) ?_ ?_
 ·refine BA (λD=>λa w=>∃(s:Int) (j:Int),IV B S h (29,[]) a w [(10,vI (↑i.length:Int)),(9,c),(1,vI b),(6,vI s),(11,vI j)] (L) λ_ _=>AA s∧AA j∧G3 N i b (Ir N) D s j=some r) N ?_ ?_ ?_
  ·intro m o d g;exact⟨0,0,_,_,d.sub (kp [10,9,1,6,11] O),g,F,(CX.refl S h),(iq (n:=0) O),(iq (n:=0) O),E⟩
  ·rintro m o ⟨_,_,_,_,_,_,_,_,_,_,E⟩;rw[G3] at E;cases E
  rintro D m o ⟨s,j,H,I,d,g,k,p,J,K,E⟩;refine AI ?_ d g;clear d g o m;rw[G3] at E;refine AU ?_;refine AE O E (λx E=>?_) (λx E=>?_)
  ·refine AU ?_;refine BG (AU ?_);have y:=l.mono' p;refine AO E O O y sl_29.1 O λz E M Q=>AU ?_;refine AE O E (λA E=>?_) (λA E=>?_)
   ·refine AU ?_;refine WF.ret (λm o d g=>?_);cases E;exact Jw d O g (Hr (K5 d (v:=_) O) (Hr (K5 d (v:=_) O) Jr)) O p ⟨O,(iq (n:=0) O),k⟩
   refine AU ?_;refine BP (AU ?_);refine WF.nil (λm o d g=>?_);exact⟨(BV (s+z)),(BV (j+1)),_,_,d.sub (kp [10,9,1,6,11] O),g,k,p,(BY _),(BY _),E⟩
  refine WF.exit O (λm o d g=>?_);exact⟨s,_,_,d.sub (kp [6] O),g,k,p,J,E⟩
 rintro m o ⟨u,U,V,d,g,t,C,W,E⟩;refine AI ?_ d g;clear d g o m;rw[Ir] at E;refine AU ?_;refine WF.ret (λm o d g=>?_);cases E;exact Jw d O g (Hr (K5 d (v:=_) O) (Hr (K5 d (v:=_) O) Jr)) O C ⟨O,W,t⟩
def Tm (hs:St S L h) {p:Value}{c:AH}(C:Rd S h B5 p c) {q:Value}{d:BQ}(G:Rd S h DX q d) {r:Bool}(E:MD N c d=some r):
 CA prog 22 #[p,q] S h (λv S' h'=>v= .bool r∧St S' (L) h'):=by
 refine A8 168 func22 O ntmps22 O λB=>?_;rw[MD] at E;refine AU ?_;refine A6 O C CE O hs λq1 S2 h3 b5 e5 k6=>?_;have k7:=G.mono e5;refine A6 O k7 CE O b5 λq8 S9 V ak s W=>?_;have en:=k6.mono s;have eo:=k6.mono s;have ep:=k6.mono s;have eq:=k6.mono s;have er:=k6.mono s;refine AU ?_;refine AE O E (λb6 E=>?_) (λb6 E=>?_)
 ·exact RT
 have am:=k6.mono s;have b7:=am.fl CS;obtain⟨b8,_,b9⟩:=b7.ll;refine AU ?_;refine AN (λa w=>IV B S9 V (168,[]) a w [(3,q8),(2,q1)] (L) λ_ _=>HM N c d=some r) ?_ ?_
 ·refine BA (λn1=>λa w=>∃(t:Int),IV B S9 V (168,[]) a w [(68,vI (↑c.F.length:Int)),(67,b8),(3,q8),(2,q1),(69,vI t)] (L) λ_ _=>AA t∧HK N c d (HM N c d) n1 t=some r) N ?_ ?_ ?_
  ·intro k l g i;exact⟨0,_,_,g.sub (kp [68,67,3,2,69] O),i,ak,(CX.refl S9 V),(iq (n:=0) O),E⟩
  ·rintro k l ⟨_,_,_,_,_,_,_,_,E⟩;rw[HK] at E;cases E
  rintro n1 k l ⟨t,es,eu,g,i,H,an,ev,E⟩;refine AI ?_ g i;clear g i l k;rw[HK] at E;refine AU ?_;refine AE O E (λca E=>?_) (λca E=>?_)
  ·refine AU ?_;refine BG (AU ?_);have cb:=b9.mono' an;refine AO E O O cb sl_23.1 O λew E ey ao=>?_;obtain⟨cd,_,ap⟩:=ao.lv;refine AU ?_;refine BZ PH O H λce cf X aq=>AU ?_;have ar:=ap.mono aq;obtain⟨cg,ch,ci,rfl,cj,ck,cl,cm,cn,co,cp,cq,cr,cs,ct,cu⟩:=B3.ex ar;refine G1 O O O ON ty_57.1 O X .head O λcv Y cw=>AU ?_;refine JL (.inr ⟨mo,by kernel_rfl⟩) ?_;have I:=W.nw;have au:=I.fl PD;obtain⟨cx,_,av⟩:=au.ll;refine AU ?_;refine AO E O O av sl_29.1 O λaw E cy cz=>AU ?_;obtain⟨ax,b,E⟩:=bd E;refine A0 11 91 (.bool ax) ?_ ?_
   ·cases J:(decide (aw<0))
    ·have b:=HX J b;have ay:=I.fl PD;obtain⟨c0,_,az⟩:=ay.ll;refine AU ?_;refine AO b O O az sl_29.1 O λc1 b c2 c3=>AU ?_;refine Lc O O O (AU ?_);cases b;exact AZ O
    have b:=HU J b;cases b;exact BM O O
   refine AU ?_;refine AE O E (λa0 E=>?_) (λa0 E=>?_)
   ·exact RT
   refine AU ?_;refine BP (AU ?_);refine WF.nil (λk l g i=>?_);have Z:=Y.drop .head;exact⟨(BV (t+1)),_,_,g.sub (kp [68,67,3,2,69] O),i,Z,EX,(BY _),E⟩
  refine WF.exit O (λk l g i=>?_);exact⟨_,_,g.sub (kp [3,2] O),i,H,an,E⟩
 rintro k l ⟨u,x,g,i,ab,a1,E⟩;refine AI ?_ g i;clear g i l k;rw[HM] at E;have K:=am.mono a1;have a2:=K.fl AH.f_Links;obtain⟨a3,_,a4⟩:=a2.ll;refine AU ?_;refine AN (λa w=>IV B u x (168,[]) a w [(3,q8),(2,q1)] (L) λ_ _=>HL N c d=some r) ?_ ?_
 ·refine BA (λn3=>λa w=>∃(j:Int),IV B u x (168,[]) a w [(95,vI (↑c.D.length:Int)),(94,a3),(3,q8),(2,q1),(96,vI j)] (L) λ_ _=>AA j∧HJ N c d (HL N c d) n3 j=some r) N ?_ ?_ ?_
  ·intro k l g i;exact⟨0,_,_,g.sub (kp [95,94,3,2,96] O),i,ab,(CX.refl u x),(iq (n:=0) O),E⟩
  ·rintro k l ⟨_,_,_,_,_,_,_,_,E⟩;rw[HJ] at E;cases E
  rintro n3 k l ⟨j,c4,c5,g,i,y,M,c6,E⟩;refine AI ?_ g i;clear g i l k;rw[HJ] at E;refine AU ?_;refine AE O E (λa5 E=>?_) (λa5 E=>?_)
  ·refine AU ?_;refine BG (AU ?_);have a6:=a4.mono' M;refine AO E O O a6 sl_24.1 O λc7 E c8 a7=>?_;obtain⟨c9,_,a8⟩:=a7.lv;refine AU ?_;refine BZ NW O y λda db ac a9=>AU ?_;have ba:=a8.mono a9;obtain⟨dc,dd,de,rfl,df,dg,dh,di,dj,dk,dl,dm,dn,dp,dq,dr,ds,dt,du,dv,dw,dx⟩:=BL.ex ba;refine G1 O O O ON ty_102.1 O ac .head O λdy ad dz=>?_;have bb:=W.nw;have bc:=bb.fl Jq;obtain⟨d0,_,be⟩:=bc.ll;refine AU ?_;refine AO E O O be sl_69.1 O λd1 E d2 bf=>?_;obtain⟨d3,_,bg⟩:=bf.lv;refine AU ?_;refine BZ Rl O ad λd4 d5 ae bh=>?_;have bi:=bg.mono bh;obtain⟨rfl,⟨d6,d7⟩⟩:=FU.ex bi;refine BI O O O O ty_81.1 O ae .head O λd8 af d9=>AU ?_;refine AE O E (λbj E=>?_) (λbj E=>?_)
   ·exact RT
   refine AU ?_;refine AE O E (λbk E=>?_) (λbk E=>?_)
   ·exact RT
   refine AU ?_;refine BP (AU ?_);refine WF.nil (λk l g i=>?_);have ag:=af.sel [] 2 O;exact⟨(BV (j+1)),_,_,g.sub (kp [95,94,3,2,96] O),i,ag,EX,(BY _),E⟩
  refine WF.exit O (λk l g i=>?_);exact⟨_,_,g.sub (kp [3,2] O),i,y,M,E⟩
 rintro k l ⟨ea,eb,g,i,m,bl,E⟩;refine AI ?_ g i;clear g i l k;rw[HL] at E;refine AU ?_;refine WF.rc (.inl O) m ?_;have bm:=K.mono bl;obtain⟨ec,_,bn⟩:=bm.lv;have Q:=W.nw;obtain⟨ed,_,bo⟩:=Q.lv;refine AU ?_;refine A5 E O O O sG O (λbp ah h' o=>TG (St.all h') (bn.mono (o.all m.1)) (bo.mono (o.all m.1)) ah) λbp E bq=>?_;have ee:=bq;refine AU ?_;refine BB (kp [11,10,3] O) λef z br=>AU ?_;refine AE O E (λbs E=>?_) (λbs E=>?_)
 ·exact RT
 refine AU ?_;refine WF.rc (.inl O) z ?_;have U:=Q.mono br;have bt:=U.fl TD;obtain⟨eg,_,bu⟩:=bt.ll;refine AU ?_;refine A5 E O O O iR O (λbv ai h' o=>OP (St.all h') (bu.mono' (o.all z.1)) (iq (n:=1152921504606846976) O) ai) λbv E bw=>?_;have eh:=bw;refine AU ?_;refine BB (kp [11,12,10,3] O) λei A bx=>AU ?_;refine AE O E (λbz E=>?_) (λbz E=>?_)
 ·exact RT
 refine AU ?_;refine WF.rc (.inl O) A ?_;have b0:=U.mono bx;have b1:=b0.fl SO;obtain⟨ej,_,b2⟩:=b1.ll;refine AU ?_;refine A5 E O O O iR O (λb3 aj h' o=>OP (St.all h') (b2.mono' (o.all A.1)) (BY _) aj) λb3 E b4=>?_;have ek:=b4;refine AU ?_;exact BB (kp [11] O) λel cc em=>RT
end Go.Proofs.YtibidnaedddfdaaGreat
