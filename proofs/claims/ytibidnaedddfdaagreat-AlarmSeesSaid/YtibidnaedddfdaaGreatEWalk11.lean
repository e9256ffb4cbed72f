import Derived.Test.YtibidnaedddfdaaGreatEFacts
import Derived.Test.YtibidnaedddfdaaGreatEForms
import Derived.Test.YtibidnaedddfdaaGreatEInsert
import Derived.Test.YtibidnaedddfdaaGreatEWalk8
import Derived.Test.YtibidnaedddfdaaGreatEWalk10
namespace Go.Proofs.YtibidnaedddfdaaGreat
set_option linter.all false
open Go.RowKit
open Go.Proofs.Tryz
set_option maxRecDepth 10000
set_option maxHeartbeats 2000000
variable {N:Nat}{S:Nat→Prop}{L:List HP}{h:AX}
def Ou (hs:St S L h) {aj:Value}{k:AF}(a4:Rd S h B7 aj k) {r:Bool}(E:Fl N k=some r):
 CD prog 41 #[aj] S h (λv S' h'=>v= .bool r∧St S' (L) h'):=by
 refine A7 128 func41 O ntmps41 O λB=>?_;rw[Fl] at E;refine AU ?_;refine AT O a4 CE O hs λq1 S2 h3 fq e5 k6=>AU ?_;obtain⟨dl,E⟩:=RM E;refine Tc (r:=AY) (zx:=0) Z3 O ⟨O,by unfold AA;omega⟩ O O dl O O fq λq bp dm fr=>?_;have dn:=k6.mono fr;have fs:=dn.fl Ck;obtain⟨ft,_,fu⟩:=fs.ll;refine AU ?_;refine AQ (λa w=>∃(a5:List Int),IV B S2 bp (128,[]) a w [(3,q),(1,q1)] (OS AY 3 q a5::L) λ_ _=>Cf N k a5=some r) ?_ ?_
 ·refine BJ (λn1=>λa w=>∃(ai:Int) (ao:List Int),IV B S2 bp (128,[]) a w [(16,vI (↑k.E.length:Int)),(15,ft),(3,q),(1,q1),(17,vI ai)] (OS AY 3 q ao::L) λ_ _=>AA ai∧Cu N k (Cf N k) n1 ai ao=some r) N ?_ ?_ ?_
  ·intro t u d g;exact⟨0,(List.replicate ((↑k.E.length:Int):Int).toNat (0:Int)),_,_,d.sub (kp [16,15,3,1,17] O),g,dm,(Cc.refl S2 bp),(iq (n:=0) O),E⟩
  ·rintro t u ⟨_,_,_,_,_,_,_,_,_,E⟩;rw[Cu] at E;cases E
  rintro n1 t u ⟨ai,ao,js,jt,d,g,a9,dp,ju,E⟩;refine AI ?_ d g;clear d g u t;rw[Cu] at E;refine AU ?_;refine AE O E (λfv E=>?_) (λfv E=>?_)
  ·refine AU ?_;refine BQ (AU ?_);have fw:=fu.mono' dp;refine AN E O O fw sl_23.1 O λjv E jw fx=>?_;obtain⟨jx,_,fy⟩:=fx.lv;refine AU ?_;refine BZ Qh O a9 λjy jz dq f0=>AU ?_;have f1:=fy.mono f0;obtain⟨j0,j1,j2,rfl,j3,j4,j5,j6,j7,j8,f2,f3,j9,ka,kb,kc⟩:=B4.ex f1;refine Hv O O O ON ty_57.1 O dq .head O λkd dr ke=>AU ?_;refine Ej (AU ?_);refine Hb E O O O UJ O dr (λbq ds=>Jk (St.all _) f2 f3 ds) λbq E kf kg kh ba ki kj p=>?_;obtain⟨rfl,f4,gg⟩:=p;refine AU ?_;obtain⟨kk,dt,E⟩:=bd E;refine CS ba (mt mh) O O sl_29.1 dt O λkl du=>AU ?_;obtain⟨f5,dv,E⟩:=bd E;refine JD (r:=AY) (l:=ao) (i:=ai) (x:=f5) O O (⟨_,O,O,f4⟩:Rd _ _ AY _ bq) du dv QD.id ty_3.1 (λ_=>rfl) ba (.tail .head) λkm dw kn=>AU ?_;refine B3 (AU ?_);refine WF.nil (λt u d g=>?_);have dx:=dw.sel [1] 1 O;exact⟨(BR (ai+1)),(upd ao ai bq),_,_,d.sub (kp [16,15,3,1,17] O),g,dx,EX,(B1 _),E⟩
  refine WF.exit O (λt u d g=>?_);exact⟨ao,_,_,d.sub (kp [3,1] O),g,a9,dp,E⟩
 rintro t u ⟨a5,br,bs,d,g,dy,f6,E⟩;refine AI ?_ d g;clear d g u t;rw[Cf] at E;have f7:=dn.mono f6;have f8:=f7.fl AF.f_Links;obtain⟨aq,_,f9⟩:=f8.ll;refine AU ?_;refine AQ (λa w=>∃(ap:List Int),IV B br bs (128,[]) a w [(3,q)] (OS AY 3 q ap::L) λ_ _=>CI N ap=some r) ?_ ?_
 ·refine BJ (λn3=>λa w=>∃(U:Int) (y:List Int),IV B br bs (128,[]) a w [(33,vI (↑k.D.length:Int)),(32,aq),(3,q),(34,vI U)] (OS AY 3 q y::L) λ_ _=>AA U∧BP N k (CI N) n3 U y=some r) N ?_ ?_ ?_
  ·intro t u d g;exact⟨0,a5,_,_,d.sub (kp [33,32,3,34] O),g,dy,(Cc.refl br bs),(iq (n:=0) O),E⟩
  ·rintro t u ⟨_,_,_,_,_,_,_,_,_,E⟩;rw[BP] at E;cases E
  rintro n3 t u ⟨U,y,G,dz,d,g,ar,bb,ko,E⟩;refine AI ?_ d g;clear d g u t;rw[BP] at E;refine AU ?_;refine AE O E (λd0 E=>?_) (λd0 E=>?_)
  ·refine AU ?_;refine AQ (λa w=>∃(ak:List Int),IV B G dz (128,[]) a w [(33,vI (↑k.D.length:Int)),(32,aq),(3,q),(34,vI U)] (OS AY 3 q ak::L) λ_ _=>CH N U (BP N k (CI N) n3) ak=some r) ?_ ?_
   ·refine AU ?_;have d1:=f9.mono' bb;refine AN E O O d1 sl_24.1 O λc E gh d2=>?_;obtain⟨gi,_,d3⟩:=d2.lv;refine AU ?_;refine BZ Nb O ar λz gj bt d4=>?_;have d5:=d3.mono d4;obtain⟨bc,be,bf,rfl,gk,gl,gm,gn,d6,d7,d8,gp,gq,gr,gs,bg,bh,gu,gv,bi,bj,gw⟩:=BI.ex d5;refine Hv O O O ON ty_102.1 O bt .head O λH j gx=>AU ?_;refine BQ (AU ?_);refine AE O E (λd9 E=>?_) (λd9 E=>?_)
    ·refine AU ?_;obtain⟨gy,bu,E⟩:=bd E;obtain⟨J,bv,E⟩:=bd E;obtain⟨K,bw,E⟩:=bd E;obtain⟨gz,bx,E⟩:=bd E;refine QC (m:=[(7,vP z 0),(33,vI (↑k.D.length:Int)),(32,aq),(3,q),(34,vI U)]) 17 (λi v hh=>match i with|0=>v=q|1=>v=vP z 2|2=>v=vI c.P∧AA c.P|3=>EP q (c.P.toNat*(AY).sz+0) v|4=>v=vI J∧AA J|5=>v=vP z 4|6=>Sl G hh B8 v c.Av|7=>v=vP z 5|8=>v=vP z 5|9=>Sl G hh B8 v c.Ac.B|10=>v=vP z 5|11=>v=vP z 6|12=>Sl G hh B8 v c.Ac.A|13=>Sl (SN G H hh) hh (BU.sl B8) v ([c.Av,c.Ac.B,c.Ac.A]:List (List AV))∧∃ad,v= .slice (some ad) 3 3|14=>v=vI K∧AA K|15=>v=vI (BR (J+K))∧AA (BR (J+K))|16=>EP q (c.P.toNat*(AY).sz+0) v|_=>False) [[],[],[(1,43)],[(0,42),(2,44)],[(3,45)],[],[(5,47)],[],[(7,49)],[(8,50)],[],[(10,52)],[(11,53)],[(6,48),(9,51),(12,54)],[(13,55)],[(4,46),(14,56)],[(0,42),(2,44)]] [(15,57),(16,58)] mo (by kernel_rfl) [7,33,32,3,34] O (by kernel_rfl) (by kernel_rfl) (by kernel_rfl) (kp [7,33,32,3,34] O) MO ?_ ?_
     ·refine BM.cons O EY (BM.cons O EY (BM.cons O EY (BM.cons O ?_ ?_)))
      ·intro mq hh o;intro g0 eb g1 ec;have I:=o.st j;cases eb;obtain⟨rfl,g2⟩:=ec;refine AU ?_;refine CS I (mt mh) O O sl_29.1 bu O λg3 bz=>AU ?_;exact B0 bz
      refine BM.cons O ?_ ?_
      ·intro mq hh o;intro g4 ed;have I:=o.st j;refine AU ?_;have ee:=I.epAt (mt mh) bv GC.id ed;refine GS KP (λ_ x=>x) O ee ty_3.1 O λef=>AU ?_;exact B0 ⟨O,ef⟩
      refine BM.cons O EY (BM.cons O ?_ ?_)
      ·intro mq hh o;intro g5 eg;have I:=o.st j;cases eg;refine AU ?_;have eh:=d6.nw;exact B0 eh
      refine BM.cons O EY (BM.cons O EY (BM.cons O ?_ ?_))
      ·intro mq hh o;intro g6 ei;have I:=o.st j;cases ei;refine AU ?_;have ej:=d7.nw;exact B0 ej
      refine BM.cons O EY (BM.cons O EY (BM.cons O ?_ ?_))
      ·intro mq hh o;intro g7 ek;have I:=o.st j;cases ek;refine AU ?_;have el:=d8.nw;exact B0 el
      refine BM.cons O ?_ ?_
      ·intro mq hh o;intro em Z en ab eo ac;have I:=SN.st j o;have Z:=Sl.sn H Z;have Z:Sl _ _ B8 em c.Av:=Z;have ab:=Sl.sn H ab;have ab:Sl _ _ B8 en c.Ac.B:=ab;have ac:=Sl.sn H ac;have ac:Sl _ _ B8 eo c.Ac.A:=ac;have ga:=I.fz;obtain⟨b0,a6,rfl,g8⟩:=(Z).len;obtain⟨b1,a7,rfl,g9⟩:=(ab).len;obtain⟨b2,a8,rfl,ha⟩:=(ac).len;refine Io (cs:=[(.slice b0 c.Av.length a6),(.slice b1 c.Ac.B.length a7),(.slice b2 c.Ac.A.length a8)]) kH O O O O O O O ga λhc hd b3 au=>?_;have ep:=ac.mono' au;have eq:=ab.mono' au;have er:=Z.mono' au;have b4:=b3.bxos (r:=(BU.sl B8)) (l:=([c.Av,c.Ac.B,c.Ac.A]:List (List AV))) .head ⟨_,_,O,⟨_,O,er⟩,⟨_,_,O,⟨_,O,eq⟩,⟨_,_,O,⟨_,O,ep⟩,O⟩⟩⟩ (by simp [maxLen]);obtain⟨he,b5,hg,es⟩:=b4.pubs .head;have av:=Fz.done o EX b5;exact EB av.1 ⟨Sl.mono' es av.2,_,O⟩
      refine BM.cons O ?_ ?_
      ·intro mq hh o;intro hi aw;have I:=SN.st j o;obtain⟨aw,gb,rfl⟩:=aw;refine EQ O O O pT O I (Qc (St.all _) (aw.mono I.ea.1 I.ea.2) bw) λhj hk hl gc hm bk p=>?_;obtain⟨rfl,eu,ge⟩:=p;exact EB ⟨bk.siz,λb hb=>bk.same b hb⟩ ⟨O,eu⟩
      refine BM.cons O EY (BM.cons O ?_ ?_)
      ·intro mq hh o;intro hn ev ho ew;have I:=o.st j;cases ev;obtain⟨rfl,hp⟩:=ew;refine AU ?_;refine CS I (mt mh) O O sl_29.1 bx O λhq b6=>AU ?_;exact B0 b6
      exact trivial
     intro hr ey ht ez hu e0;have b7:=SN.st j ey;obtain⟨rfl,e1⟩:=ez;obtain⟨e2,b8,E⟩:=bd E;refine JD (r:=AY) (l:=y) (i:=c.P) (x:=e2) O O (⟨_,O,O,e1⟩:Rd _ _ AY _ (BR (J+K))) e0 b8 QD.id ty_3.1 (λ_=>rfl) b7 (.tail .head) λhv W hx=>AU ?_;refine AE O E (λe3 E=>?_) (λe3 E=>?_)
     ·refine Gs 12 mo (by kernel_rfl) O W (AU ?_);obtain⟨hy,b9,E⟩:=bd E;refine CS W (mt mh) O O sl_29.1 b9 O λhz ca=>?_;obtain⟨bl,cb,E⟩:=bd E;have e4:=W.epAt (mt mh) cb GC.id ca;refine GS SO (λ_ x=>x) O e4 ty_3.1 O λh0=>AU ?_;refine BB E O O O UJ O (λax cc h' o=>Jk (St.all h') bi bj cc) λax E e6=>?_;have h1:=e6;refine AU ?_;obtain⟨h2,cd,E⟩:=bd E;refine CS W (mt mh) O O sl_29.1 cd O λh4 ce=>Em λh5 cf h6=>?_;obtain⟨e7,cg,E⟩:=bd E;refine JD (r:=AY) (l:=(upd y c.P (BR (J+K)))) (i:=c.C) (x:=e7) O O (⟨_,O,O,(B1 _)⟩:Rd _ _ AY _ (BR (bl+ax))) ce cg QD.id ty_3.1 (λ_=>rfl) cf (.tail .head) λh7 ch h8=>AU ?_;refine B3 (WF.nil (λt u d g=>?_));have ci:=ch.sel [1] 1 O;exact⟨(upd (upd y c.P (BR (J+K))) c.C (BR (bl+ax))),_,_,d.sub (kp [33,32,3,34] O),g,ci,EX,E⟩
     refine AU ?_;refine B3 (WF.nil (λt u d g=>?_));have cj:=W.sel [1] 1 O;exact⟨(upd y c.P (BR (J+K))),_,_,d.sub (kp [33,32,3,34] O),g,cj,EX,E⟩
    refine AU ?_;refine Er (λa w=>∃(ay:Bool),IV B G H (128,[]) a w [(39,vI c.F),(7,vP z 0),(33,vI (↑k.D.length:Int)),(32,aq),(3,q),(34,vI U),(74,.bool ay)] (Bx z 102 [.string c.M,vI c.F,vI c.P,vI c.C,bc,be,bf,vI c.Y,vI c.An,vI c.Az,vI c.Au,vI c.V,vI c.Q,vI c.Ae,vI c.Aa,vI c.Ak,vI c.Af,vI c.X]::OS AY 3 q y::L) λ_ _=>DX N y c (CH N U (BP N k (CI N) n3)) ay=some r) ?_ ?_
    ·refine AE O E (λe8 E=>?_) (λe8 E=>?_)
     ·refine AU ?_;refine WF.nil (λt u d g=>?_);exact⟨(decide (c.F=1)),_,_,d.sub (kp [39,7,33,32,3,34,74] O),g,j,(Cc.refl G H),E⟩
     refine AU ?_;refine Er (λa w=>∃(am:Bool),IV B G H (128,[]) a w [(39,vI c.F),(7,vP z 0),(33,vI (↑k.D.length:Int)),(32,aq),(3,q),(34,vI U),(74,.bool am)] (Bx z 102 [.string c.M,vI c.F,vI c.P,vI c.C,bc,be,bf,vI c.Y,vI c.An,vI c.Az,vI c.Au,vI c.V,vI c.Q,vI c.Ae,vI c.Aa,vI c.Ak,vI c.Af,vI c.X]::OS AY 3 q y::L) λ_ _=>I9 N (DX N y c (CH N U (BP N k (CI N) n3))) am=some r) ?_ ?_
     ·refine AE O E (λe9 E=>?_) (λe9 E=>?_)
      ·refine AU ?_;refine WF.nil (λt u d g=>?_);exact⟨(decide (c.F=5)),_,_,d.sub (kp [39,7,33,32,3,34,74] O),g,j,(Cc.refl G H),E⟩
      refine AU ?_;refine WF.nil (λt u d g=>?_);exact⟨(decide (c.F=3)),_,_,d.sub (kp [39,7,33,32,3,34,74] O),g,j,(Cc.refl G H),E⟩
     rintro t u ⟨am,h9,ia,d,g,ck,fa,E⟩;refine AI ?_ d g;clear d g u t;rw[I9] at E;refine WF.nil (λt u d g=>?_);exact⟨am,_,_,d.sub (kp [39,7,33,32,3,34,74] O),g,ck,fa,E⟩
    rintro t u ⟨ay,ib,ic,d,g,s,ie,E⟩;refine AI ?_ d g;clear d g u t;rw[DX] at E;refine AE O E (λfb E=>?_) (λfb E=>?_)
    ·refine Gs 12 mo (by kernel_rfl) O s (AU ?_);obtain⟨ig,cl,E⟩:=bd E;refine CS s (mt mh) O O sl_29.1 cl O λih cm=>?_;obtain⟨bm,cn,E⟩:=bd E;have fc:=s.epAt (mt mh) cn GC.id cm;refine GS SO (λ_ x=>x) O fc ty_3.1 O λii=>AU ?_;refine BB E O O O UJ O (λaz co h' o=>Jk (St.all h') bg bh co) λaz E fd=>?_;have ij:=fd;refine AU ?_;obtain⟨ik,cp,E⟩:=bd E;refine CS s (mt mh) O O sl_29.1 cp O λil cq=>Em λim cr io=>?_;obtain⟨fe,ct,E⟩:=bd E;refine JD (r:=AY) (l:=y) (i:=c.P) (x:=fe) O O (⟨_,O,O,(B1 _)⟩:Rd _ _ AY _ (BR (bm+az))) cq ct QD.id ty_3.1 (λ_=>rfl) cr (.tail .head) λip cu ir=>AU ?_;refine B3 (WF.nil (λt u d g=>?_));have cv:=cu.sel [1] 1 O;exact⟨(upd y c.P (BR (bm+az))),_,_,d.sub (kp [33,32,3,34] O),g,cv,EX,E⟩
    refine AU ?_;refine AE O E (λff E=>?_) (λff E=>?_)
    ·refine AU ?_;refine Gs 13 mo (by kernel_rfl) O s (AU ?_);obtain⟨it,cw,E⟩:=bd E;refine CS s (mt mh) O O sl_29.1 cw O λiu cx=>?_;obtain⟨a0,cy,E⟩:=bd E;have fg:=s.epAt (mt mh) cy GC.id cx;refine GS SO (λ_ x=>x) O fg ty_3.1 O λiv=>AU ?_;refine BB E O O O UJ O (λan cz h' o=>Jk (St.all h') bg bh cz) λan E fh=>?_;have iw:=fh;refine AU ?_;obtain⟨iy,c0,E⟩:=bd E;refine CS s (mt mh) O O sl_29.1 c0 O λiz c1=>Em λi0 c2 i1=>?_;obtain⟨fi,c3,E⟩:=bd E;refine JD (r:=AY) (l:=y) (i:=c.P) (x:=fi) O O (⟨_,O,O,(B1 _)⟩:Rd _ _ AY _ (BR (a0+(BR (2*an))))) c1 c3 QD.id ty_3.1 (λ_=>rfl) c2 (.tail .head) λi2 af i3=>AU ?_;refine Gs 13 mo (by kernel_rfl) O af (AU ?_);obtain⟨i4,c4,E⟩:=bd E;refine CS af (mt mh) O O sl_29.1 c4 O λi5 c5=>?_;obtain⟨bn,c6,E⟩:=bd E;have fj:=af.epAt (mt mh) c6 GC.id c5;refine GS SO (λ_ x=>x) O fj ty_3.1 O λi6=>AU ?_;refine BB E O O O UJ O (λa1 c7 h' o=>Jk (St.all h') bi bj c7) λa1 E fk=>?_;have i7:=fk;refine AU ?_;obtain⟨i8,c8,E⟩:=bd E;refine CS af (mt mh) O O sl_29.1 c8 O λi9 c9=>Em λja da jb=>?_;obtain⟨fm,db,E⟩:=bd E;refine JD (r:=AY) (l:=(upd y c.P (BR (a0+(BR (2*an)))))) (i:=c.C) (x:=fm) O O (⟨_,O,O,(B1 _)⟩:Rd _ _ AY _ (BR (bn+(BR (2*a1))))) c9 db QD.id ty_3.1 (λ_=>rfl) da (.tail .head) λjc dc jd=>AU ?_;refine B3 (WF.nil (λt u d g=>?_));have dd:=dc.sel [1] 1 O;exact⟨(upd (upd y c.P (BR (a0+(BR (2*an))))) c.C (BR (bn+(BR (2*a1))))),_,_,d.sub (kp [33,32,3,34] O),g,dd,EX,E⟩
    refine AU ?_;refine B3 (WF.nil (λt u d g=>?_));have de:=s.sel [1] 1 O;exact⟨y,_,_,d.sub (kp [33,32,3,34] O),g,de,EX,E⟩
   rintro t u ⟨ak,je,jf,d,g,df,jg,E⟩;refine AI ?_ d g;clear d g u t;rw[CH] at E;refine AU ?_;refine WF.nil (λt u d g=>?_);exact⟨(BR (U+1)),ak,_,_,d.sub (kp [33,32,3,34] O),g,df,EX,(B1 _),E⟩
  refine WF.exit O (λt u d g=>?_);exact⟨y,_,_,d.sub (kp [3] O),g,ar,bb,E⟩
 rintro t u ⟨ap,a2,a3,d,g,dg,jh,E⟩;refine AI ?_ d g;clear d g u t;rw[CI] at E;refine AU ?_;refine AQ (λa w=>IV B a2 a3 (128,[]) a w [] (L) λ_ _=>Dx N=some r) ?_ ?_
 ·refine BJ (λn8=>λa w=>∃(ah:Int),IV B a2 a3 (128,[]) a w [(120,vI (↑ap.length:Int)),(119,q),(121,vI ah)] (OS AY 3 q ap::L) λ_ _=>AA ah∧Ct N ap (Dx N) n8 ah=some r) N ?_ ?_ ?_
  ·intro t u d g;exact⟨0,_,_,d.sub (kp [120,119,121] O),g,dg,(Cc.refl a2 a3),(iq (n:=0) O),E⟩
  ·rintro t u ⟨_,_,_,_,_,_,_,_,E⟩;rw[Ct] at E;cases E
  rintro n8 t u ⟨ah,ji,jj,d,g,ag,bo,jk,E⟩;refine AI ?_ d g;clear d g u t;rw[Ct] at E;refine AU ?_;refine AE O E (λfn E=>?_) (λfn E=>?_)
  ·refine AU ?_;refine BQ (AU ?_);obtain⟨jl,dh,E⟩:=bd E;refine CS ag mh O O sl_29.1 dh O λjm di=>?_;obtain⟨jn,dj,E⟩:=bd E;have fo:=ag.epAt mh dj GC.id di;refine GS KP (λ_ x=>x) O fo ty_3.1 O λjo=>AU ?_;refine AE O E (λfp E=>?_) (λfp E=>?_)
   ·exact RT
   refine AU ?_;refine B3 (AU ?_);refine WF.nil (λt u d g=>?_);exact⟨(BR (ah+1)),_,_,d.sub (kp [120,119,121] O),g,ag,bo,(B1 _),E⟩
  refine WF.exit O (λt u d g=>?_);have dk:=ag.drop .head;exact⟨_,_,d.sub Ob,g,dk,bo,E⟩
 rintro t u ⟨jp,jq,d,g,gf,jr,E⟩;refine AI ?_ d g;clear d g u t;rw[Dx] at E;exact RT
def PT (hs:St S L h) {q:Value}{b:AF}(u:Rd S h B7 q b) {r:Bool}(E:JX N b=some r):
 CD prog 42 #[q] S h (λv S' h'=>v= .bool r∧St S' (L) h'):=by
 refine A7 64 func42 O ntmps42 O λB=>?_;rw[JX] at E;refine AU ?_;refine AT O u CE O hs λq1 S2 h3 ax e5 k6=>?_;have k8:=k6.fl GT;obtain⟨v9,_,ay⟩:=k8.ll;refine AU ?_;refine AQ (λa w=>IV B S2 h3 (64,[]) a w [(1,q1)] (L) λ_ _=>Ex N b=some r) ?_ ?_
 ·refine BJ (λn1=>λa w=>∃(s:Int),IV B S2 h3 (64,[]) a w [(9,vI (↑b.Ad.length:Int)),(8,v9),(1,q1),(10,vI s)] (L) λ_ _=>AA s∧Ew N b (Ex N b) n1 s=some r) N ?_ ?_ ?_
  ·intro m p k l;exact⟨0,_,_,k.sub (kp [9,8,1,10] O),l,ax,(Cc.refl S2 h3),(iq (n:=0) O),E⟩
  ·rintro m p ⟨_,_,_,_,_,_,_,_,E⟩;rw[Ew] at E;cases E
  rintro n1 m p ⟨s,b9,ca,k,l,x,I,cb,E⟩;refine AI ?_ k l;clear k l p m;rw[Ew] at E;refine AU ?_;refine AE O E (λaz E=>?_) (λaz E=>?_)
  ·refine AU ?_;refine BQ (AU ?_);have a0:=ay.mono' I;refine AN E O O a0 sl_25.1 O λcc E cd a1=>?_;obtain⟨ce,_,a2⟩:=a1.lv;refine AU ?_;refine BZ Sf O x λcf cg J a3=>?_;have a4:=a2.mono a3;obtain⟨rfl,⟨ch,a5,a6,a7,a8,a9,ba⟩⟩:=Dn.ex a4;refine AW O O O O ty_114.1 O J .head O λci K cj=>AU ?_;refine WF.rc (.inl O) K ?_;have bb:=k6.nw;have bc:=bb.fl Ck;obtain⟨ck,_,be⟩:=bc.ll;have bf:=be.le;refine AU ?_;refine BC E O O O TN O (λM Q h' o=>Im (St.all h') a5 (M0 bf) Q) λM E=>AU ?_;obtain⟨U,c,E⟩:=bd E;refine A6 5 26 (.bool U) ?_ ?_
   ·cases V:(!M)
    ·have c:=H8 V c;refine AU ?_;refine BC c O O O Lv O (λbg W h' o=>Co (St.all h') a6 W) λbg c=>AU ?_;cases c;exact A5 O
    have c:=H7 V c;cases c;exact BO O O
   refine AU ?_;obtain⟨X,d,E⟩:=bd E;refine A6 5 32 (.bool X) ?_ ?_
   ·cases Y:U
    ·have d:=H8 Y d;refine AU ?_;refine BC d O O O KD O (λbh Z h' o=>Ch (St.all h') a7 (iq (n:=0) O) (iq (n:=24) O) Z) λbh d=>AU ?_;cases d;exact A5 O
    have d:=H7 Y d;cases d;exact BO O O
   refine AU ?_;obtain⟨ab,g,E⟩:=bd E;refine A6 5 38 (.bool ab) ?_ ?_
   ·cases ac:X
    ·have g:=H8 ac g;refine AU ?_;refine BC g O O O KD O (λbi ad h' o=>Ch (St.all h') a8 (iq (n:=0) O) (iq (n:=1073741824) O) ad) λbi g=>AU ?_;cases g;exact A5 O
    have g:=H7 ac g;cases g;exact BO O O
   refine AU ?_;obtain⟨ae,i,E⟩:=bd E;refine A6 5 44 (.bool ae) ?_ ?_
   ·cases af:ab
    ·have i:=H8 af i;refine AU ?_;refine BC i O O O Lv O (λbj ag h' o=>Co (St.all h') a9 ag) λbj i=>AU ?_;cases i;exact A5 O
    have i:=H7 af i;cases i;exact BO O O
   refine AU ?_;obtain⟨bk,j,E⟩:=bd E;refine A6 5 50 (.bool bk) ?_ ?_
   ·cases ah:ae
    ·have j:=H8 ah j;refine AU ?_;refine BC j O O O KD O (λbl ai h' o=>Ch (St.all h') ba (iq (n:=0) O) (iq (n:=128) O) ai) λbl j=>AU ?_;cases j;exact A5 O
    have j:=H7 ah j;cases j;exact BO O O
   refine BD (kp [50,9,8,1,10] O) λcl aj cm=>AE O E (λbm E=>?_) (λbm E=>?_)
   ·exact RT
   refine AU ?_;refine B3 (AU ?_);refine WF.nil (λm p k l=>?_);have ak:=aj.drop .head;exact⟨(BR (s+1)),_,_,k.sub (kp [9,8,1,10] O),l,ak,EX,(B1 _),E⟩
  refine WF.exit O (λm p k l=>?_);exact⟨_,_,k.sub (kp [1] O),l,x,I,E⟩
 rintro m p ⟨z,A,k,l,am,bn,E⟩;refine AI ?_ k l;clear k l p m;rw[Ex] at E;have bo:=k6.mono bn;have bp:=bo.fl Ls;obtain⟨bq,_,br⟩:=bp.ll;refine AU ?_;refine AQ (λa w=>IV B z A (64,[]) a w [] (L) λ_ _=>G6 N=some r) ?_ ?_
 ·refine BJ (λn3=>λa w=>∃(t:Int),IV B z A (64,[]) a w [(54,vI (↑b.At.length:Int)),(53,bq),(55,vI t)] (L) λ_ _=>AA t∧Ev N b (G6 N) n3 t=some r) N ?_ ?_ ?_
  ·intro m p k l;exact⟨0,_,_,k.sub (kp [54,53,55] O),l,am,(Cc.refl z A),(iq (n:=0) O),E⟩
  ·rintro m p ⟨_,_,_,_,_,_,_,_,E⟩;rw[Ev] at E;cases E
  rintro n3 m p ⟨t,cn,co,k,l,y,an,cp,E⟩;refine AI ?_ k l;clear k l p m;rw[Ev] at E;refine AU ?_;refine AE O E (λbs E=>?_) (λbs E=>?_)
  ·refine AU ?_;refine BQ (AU ?_);have bt:=br.mono' an;refine AN E O O bt sl_28.1 O λbv E bw ao=>?_;obtain⟨bx,_,ap⟩:=ao.lv;refine AU ?_;refine BZ Y9 O y λbz b0 C aq=>?_;have ar:=ap.mono aq;obtain⟨rfl,⟨b1,au⟩⟩:=DB.ex ar;refine AW O O O O ty_158.1 O C .head O λb2 D b3=>AU ?_;refine WF.rc (.inl O) D (AU ?_);refine BC E O O O KD O (λav F h' o=>Ch (St.all h') au (iq (n:=0) O) (iq (n:=1073741824) O) F) λav E=>AU ?_;refine BD (kp [62,54,53,55] O) λb4 G b5=>AE O E (λaw E=>?_) (λaw E=>?_)
   ·exact RT
   refine AU ?_;refine B3 (AU ?_);refine WF.nil (λm p k l=>?_);have H:=G.drop .head;exact⟨(BR (t+1)),_,_,k.sub (kp [54,53,55] O),l,H,EX,(B1 _),E⟩
  refine WF.exit O (λm p k l=>?_);exact⟨_,_,k.sub Ob,l,y,an,E⟩
 rintro m p ⟨b6,b7,k,l,bu,b8,E⟩;refine AI ?_ k l;clear k l p m;rw[G6] at E;exact RT
def Ow (hs:St S L h) {g:Value}{b:AF}(s:Rd S h B7 g b) {r:Bool}(E:Iw N b=some r):
 CD prog 43 #[g] S h (λv S' h'=>v= .bool r∧St S' (L) h'):=by
 refine A7 47 func43 O ntmps43 O λB=>?_;rw[Iw] at E;refine AU ?_;refine AT O s CE O hs λq1 S2 h3 ac e5 k6=>?_;have k8:=k6.fl H5;obtain⟨v9,_,ad⟩:=k8.ll;refine AU ?_;refine AQ (λa w=>IV B S2 h3 (47,[]) a w [] (L) λ_ _=>Gq N=some r) ?_ ?_
 ·refine BJ (λn1=>λa w=>∃(j:Int),IV B S2 h3 (47,[]) a w [(8,vI (↑b.Ab.length:Int)),(7,v9),(1,q1),(9,vI j)] (L) λ_ _=>AA j∧Eg N b (Gq N) n1 j=some r) N ?_ ?_ ?_
  ·intro x y k m;exact⟨0,_,_,k.sub (kp [8,7,1,9] O),m,ac,(Cc.refl S2 h3),(iq (n:=0) O),E⟩
  ·rintro x y ⟨_,_,_,_,_,_,_,_,E⟩;rw[Eg] at E;cases E
  rintro n1 x y ⟨j,a8,a9,k,m,t,C,ba,E⟩;refine AI ?_ k m;clear k m y x;rw[Eg] at E;refine AU ?_;refine AE O E (λae E=>?_) (λae E=>?_)
  ·refine AU ?_;refine BQ (AU ?_);have af:=ad.mono' C;refine AN E O O af sl_26.1 O λbb E bc ag=>?_;obtain⟨be,_,ah⟩:=ag.lv;refine AU ?_;refine BZ QL O t λbf bg F ai=>?_;have aj:=ah.mono ai;obtain⟨rfl,⟨bh,ak,am,an,ao⟩⟩:=De.ex aj;refine AW O O O O ty_147.1 O F .head O λbi G bj=>AU ?_;refine WF.rc (.inl O) G (AU ?_);refine BC E O O O KD O (λH I h' o=>Ch (St.all h') ak (iq (n:=0) O) (iq (n:=2) O) I) λH E=>AU ?_;obtain⟨J,c,E⟩:=bd E;refine A6 5 22 (.bool J) ?_ ?_
   ·cases K:(!H)
    ·have c:=H8 K c;refine AU ?_;refine BC c O O O KD O (λap M h' o=>Ch (St.all h') an (iq (n:=0) O) (iq (n:=1099511627776) O) M) λap c=>AU ?_;cases c;exact A5 O
    have c:=H7 K c;cases c;exact BO O O
   refine AU ?_;obtain⟨aq,d,E⟩:=bd E;refine A6 5 28 (.bool aq) ?_ ?_
   ·cases Q:J
    ·have d:=H8 Q d;refine AU ?_;refine BC d O O O KD O (λar U h' o=>Ch (St.all h') ao (iq (n:=0) O) (iq (n:=1440) O) U) λar d=>AU ?_;cases d;exact A5 O
    have d:=H7 Q d;cases d;exact BO O O
   refine BD (kp [28,4,8,7,1,9] O) λbk V bl=>AE O E (λau E=>?_) (λau E=>?_)
   ·exact RT
   have A:=k6.nw;have av:=A.fl Ck;obtain⟨bm,_,aw⟩:=av.ll;have ax:=aw.le;have ay:=A.fl NI;have az:=ay.i;have a0:=A.fl AF.f_Links;obtain⟨bn,_,a1⟩:=a0.ll;have a2:=a1.le;refine AU ?_;refine fD (cs:=[vI (↑b.E.length:Int),vI b.S,vI (↑b.D.length:Int)]) mG O O O (AU ?_);refine BZ iB O V λbo bp W bq=>?_;refine AW O O O O ty_167.1 O W .head O λbr u bs=>AU ?_;refine WF.rc (.inr ⟨mo,by kernel_rfl⟩) u (AU ?_);obtain⟨a3,q,E⟩:=bd E;have X:=gF q;refine mU O O mF X.1 X.2 O (eX (l:=([(↑b.E.length:Int),b.S,(↑b.D.length:Int)]:List Int)) (Value.int .i64) SO u O mh O q ty_3.1 O ?_);have a4:AA a3:=pK (p:=λz=>AA z) (all_cons (M0 ax) (all_cons az (all_cons (M0 a2) eJ))) q;refine BC E O O O TN O (λa5 Y h' o=>Im (St.all h') am a4 Y) λa5 E=>AU ?_;refine BD (kp [45,8,7,1,9] O) λbt Z bu=>AE O E (λa6 E=>?_) (λa6 E=>?_)
   ·exact RT
   refine AU ?_;refine B3 (AU ?_);refine WF.nil (λx y k m=>?_);have ab:=Z.sel [] 2 O;exact⟨(BR (j+1)),_,_,k.sub (kp [8,7,1,9] O),m,ab,EX,(B1 _),E⟩
  refine WF.exit O (λx y k m=>?_);exact⟨_,_,k.sub Ob,m,t,C,E⟩
 rintro x y ⟨bv,bw,k,m,a7,bx,E⟩;refine AI ?_ k m;clear k m y x;rw[Gq] at E;exact RT
end Go.Proofs.YtibidnaedddfdaaGreat
