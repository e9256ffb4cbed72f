import Derived.Test.YtblcgjadhemlbaaGreatWWalk18
namespace Go.Proofs.YtblcgjadhemlbaaGreat
set_option linter.all false
open Go.RowKit
open Go.Proofs.Tryz
set_option maxRecDepth 10000
set_option maxHeartbeats 2000000
variable {N:Nat}{S:Nat→Prop}{L:List HP}{h:BM}
def L8 (hs:St S L h) {bl:Value}{y:AU}(dx:Rd S h C2 bl y) {bm:Value}{j:A7}(dy:Rd S h DE bm j) {a2:Value}{Q:DO}(cz:Rd S h G0 a2 Q) {c:Int}(co:AH c) {d:Int}(cp:AH d) {r:Bool}(E:Gm N y j Q c d=some r):
 DK prog 8 #[bl,bm,a2,vI c,vI d] S h (λv S' h'=>v= .bool r∧St S' (L) h'):=by
 refine B0 (l:=[bl,bm,a2,vI c,vI d]) 246 func8 O ntmps8 O λB=>?_
 rw[Gm] at E
 refine WF.sl (C3 O dx (λe=>by cases e) O hs λq1 S2 h3 j7 e5 k6=>C3 O (dy.mono e5) (λe=>by cases e) O j7 λq8 S9 p0 gh ba j8=>C3 O (cz.mono (e5.trans ba)) (λe=>by cases e) O gh λbn ep p1 gi bb j9=>AF 1 (A0 O (AD (AZ (kp [7,6,5,3,4] O) (AE (Cn (.inl O) gi ?_))))))
 obtain⟨z,gj,E⟩:=bd E
 refine BU O O O pK O (λh' o=>Mx (St.all h') gj) (A0 O (B9 (kp [11,7,6,5,3,4] O) λp2 aw a3=>AE (AE (Cn (.inl O) aw ?_))))
 have dz:=k6.mono (ba.trans (bb.trans a3))
 refine Cq CQ aw.1 O dz H2 (λe=>by cases e) O λp3 ka=>?_
 have d0:=j8.mono (bb.trans a3)
 refine Cq CQ aw.1 O d0 G6 (λe=>by cases e) O λp4 kb=>?_
 have d1:=j9.mono a3
 refine Cq CQ aw.1 O d1 Tn (λe=>by cases e) O λp5 kc=>?_
 obtain⟨bq,gl,E⟩:=bd E
 refine BU O O O nS O (λh' o=>NQ (St.all h') (ka.mono (o.all aw.1)) (kb.mono (o.all aw.1)) (kc.mono (o.all aw.1)) gl) (CI O (AA O (AW 3 38 (.bool ((!bq)||(decide (c<0)))) ?_ ?_)))
 ·cases p6:(!bq)
  ·exact AB O (AA O (AB O (BI O (AL O (AV O)))))
  exact A4 O O
 refine AA O (AW 6 45 (.bool (((!bq)||(decide (c<0)))||(decide ((↑y.A.length:Int)≤c)))) ?_ ?_)
 ·cases p7:((!bq)||(decide (c<0)))
  ·exact AB O (AA O (AB O (A8 O dz B8 D1 O λp8 kd=>AB O (BF CQ aw.1 O kd G7 O λp9 ke=>AB O (BE O ke GL O λqa=>AB O (HY O (AL O (AV O))))))))
  exact A4 O O
 refine AA O (AW 3 49 (.bool ((((!bq)||(decide (c<0)))||(decide ((↑y.A.length:Int)≤c)))||(decide (d<0)))) ?_ ?_)
 ·cases qb:(((!bq)||(decide (c<0)))||(decide ((↑y.A.length:Int)≤c)))
  ·exact AB O (AA O (AB O (BI O (AL O (AV O)))))
  exact A4 O O
 refine AA O (AW 3 53 (.bool (((((!bq)||(decide (c<0)))||(decide ((↑y.A.length:Int)≤c)))||(decide (d<0)))||(decide (1125899906842624<d)))) ?_ ?_)
 ·cases qc:((((!bq)||(decide (c<0)))||(decide ((↑y.A.length:Int)≤c)))||(decide (d<0)))
  ·exact AB O (AA O (AB O (CV O (AL O (AV O)))))
  exact A4 O O
 refine B9 (kp [53,11,7,6,5,3,4] O) λeq d5 aj=>AY O E (λkf E=>?_) (λkf E=>?_)
 ·refine AI (AA O (AM O (kp [10] O) (A5 (λK M s t=>?_))))
  cases E
  exact Em s t O O (e5.trans (ba.trans (bb.trans (a3.trans aj)))) ⟨O,d5⟩
 refine AS (AI (AM O (kp [12,11,7,6,5,3,4] O) (AE (AI (AM O (kp [13,12,11,7,6,5,3,4] O) (BH (λa w=>IV B ep eq (246,[]) a w [(12,vI 2),(11,.bool z),(7,bn),(6,q8),(5,q1),(3,vI c),(4,vI d)] (L) λ_ _=>Ec N y j Q c d z=some r) ?_ ?_))))))
 ·refine BV (λn1=>λa w=>∃(c0:Int),IV B ep eq (246,[]) a w [(12,vI 2),(11,.bool z),(7,bn),(6,q8),(5,q1),(3,vI c),(4,vI d),(13,vI c0)] (L) λ_ _=>AH c0∧C4 N Q c z (Ec N y j Q c d z) n1 c0=some r) N ?_ ?_ ?_
  ·intro K M s t
   exact⟨0,_,_,s.sub (kp [12,11,7,6,5,3,4,13] O),t,d5,(C9.refl ep eq),(iq (n:=0) O),E⟩
  ·rintro K M ⟨_,_,_,_,_,_,_,_,E⟩
   rw[C4] at E;cases E
  rintro n1 K M ⟨c0,qd,qe,s,t,bc,d2,qf,E⟩
  refine A6 ?_ s t
  clear s t M K
  rw[C4] at E
  refine AE (AI (AA O ?_))
  have gm:=d1.mono (aj.trans d2)
  refine A8 O gm Lk QR O λqg kg=>BF Bu bc.1 O kg Vq O λqh kh=>BE O kh T0 O λqi=>BI O (AN (kp [59,12,11,7,6,5,3,4,13] O) (AY O E (λki E=>?_) (λki E=>?_)))
  ·refine AS (AE (BY (AI (A8 O gm Lk QR O λqj kj=>BF Bu bc.1 O kj Vq O λqk kk=>AA O ?_))))
   obtain⟨ql,gn,E⟩:=bd E
   refine B1 O O kk T0 gn O λqm kl=>A8 O kl G9.f_Place WU O λqn km=>BC Bu bc.1 O km BA O λqo=>AA O (B6 O (AN (kp [69,12,11,7,6,5,3,4,13] O) (AY O E (λkn E=>?_) (λkn E=>?_))))
   ·refine AI (AA O (AM O (kp [10] O) (A5 (λK M s t=>?_))))
    cases E
    exact Em s t O O (e5.trans (ba.trans (bb.trans (a3.trans (aj.trans d2))))) ⟨O,bc⟩
   refine AS (B7 (CL (.inl O) (AA O (A9 O (AM O (kp [13,12,11,7,6,5,3,4] O) (WF.nil (λK M s t=>?_)))))))
   exact⟨(Bw (c0+1)),_,_,s.sub (kp [12,11,7,6,5,3,4,13] O),t,bc,d2,(B5 _),E⟩
  refine By O (λK M s t=>?_)
  exact⟨_,_,s.sub (kp [12,11,7,6,5,3,4] O),t,bc,d2,E⟩
 rintro K M ⟨er,es,s,t,gp,a1,E⟩
 refine A6 ?_ s t
 clear s t M K
 rw[Ec] at E
 refine AE (AI (AM O (kp [14,12,11,7,6,5,3,4] O) (BH (λa w=>∃(X:Int),IV B er es (246,[]) a w [(11,.bool z),(7,bn),(6,q8),(5,q1),(3,vI c),(4,vI d),(12,vI X)] (L) λ_ _=>AH X∧D3 N y j Q c d z X=some r) ?_ ?_)))
 ·refine BV (λn3=>λa w=>∃(ci:Int) (cj:Int),IV B er es (246,[]) a w [(11,.bool z),(7,bn),(6,q8),(5,q1),(3,vI c),(4,vI d),(12,vI ci),(14,vI cj)] (L) λ_ _=>AH ci∧AH cj∧CY N y c z (D3 N y j Q c d z) n3 ci cj=some r) N ?_ ?_ ?_
  ·intro K M s t
   exact⟨2,0,_,_,s.sub (kp [11,7,6,5,3,4,12,14] O),t,gp,(C9.refl er es),(iq (n:=2) O),(iq (n:=0) O),E⟩
  ·rintro K M ⟨_,_,_,_,_,_,_,_,_,_,E⟩
   rw[CY] at E;cases E
  rintro n3 K M ⟨ci,cj,ko,kq,s,t,br,d3,gq,qp,E⟩
  refine A6 ?_ s t
  clear s t M K
  rw[CY] at E
  refine AE (AI (AA O ?_))
  have gr:=dz.mono (aj.trans (a1.trans d3))
  refine A8 O gr Er Hn O λqq gs=>BF Bu br.1 O gs KF O λky gu=>BE O gu Ie O λkz=>BI O (AN (kp [75,11,7,6,5,3,4,12,14] O) (AY O E (λgv E=>?_) (λgv E=>?_)))
  ·refine AS (AE (BH (λa w=>∃(bs:Int),IV B ko kq (246,[]) a w [(11,.bool z),(7,bn),(6,q8),(5,q1),(3,vI c),(4,vI d),(14,vI cj),(12,vI bs)] (L) λ_ _=>AH bs∧Fh N cj (CY N y c z (D3 N y j Q c d z) n3) bs=some r) ?_ ?_))
   ·refine WF.sl (AF 5 (A8 O gr Er Hn O λk0 gw=>BF Bu br.1 O gw KF O λk1 gx=>AA O ?_))
    obtain⟨g,et,E⟩:=bd E
    refine B1 O O gx Ie et O λk2 gz=>Cq Bu br.1 O gz IM (λe=>by cases e) O λk3 g0=>AD (Di OX O br λk4 k5 eu cq=>?_)
    obtain⟨d6,d7,d8,rfl,k7,k8,k9,la,g1,g2,g3,lb,lc,le,lf,lg,lh,li,lj,ll,lm,lo⟩:=Ct.ex (g0.mono cq)
    refine Ht (vs:=[.string g.H,vI g.B,vI g.G,vI g.C,d6,d7,d8,vI g.R,vI g.Ab,vI g.Aj,vI g.Al,vI g.L,vI g.I,vI g.Ah,vI g.Ai,vI g.Ac,vI g.Aa,vI g.N]) (cs':=[.string g.H,vI g.B,vI g.G,vI g.C,d6,d7,d8,vI g.R,vI g.Ab,vI g.Aj,vI g.Al,vI g.L,vI g.I,vI g.Ah,vI g.Ai,vI g.Ac,vI g.Aa,vI g.N]) O O O (AC O (AC O (AC O (AC O (AC g1.one (AC g2.one (AC g3.one (AC O (AC O (AC O (AC O (AC O (AC O (AC O (AC O (AC O (AC O (AC O Es)))))))))))))))))) IM O eu .head O O λlp ak c1=>AZ (kp [15,11,7,6,5,3,4,12,14] O) (AE (AI (AG Jb O (AT Bu ak O mh O BA O (AA O (B6 O (AA O (AW 4 91 (.bool ((decide (g.G=c))&&(decide (g.B=3)))) ?_ ?_))))))))
    ·cases lq:(decide (g.G=c))
     ·exact A4 O O
     exact AB O (AG HA O (AB O (AT Bu ak O mh O BA O (AB O (B6 O (AL O (AV O)))))))
    refine AN (kp [91,15,11,7,6,5,3,4,12,14] O) (AY O E (λg4 E=>?_) (λg4 E=>?_))
    ·refine AI (AA O (AM O (kp [10] O) (A5 (λK M s t=>?_))))
     have ev:=ak.drop .head
     cases E
     exact Em s t O O (e5.trans (ba.trans (bb.trans (a3.trans (aj.trans (a1.trans (d3.trans (cq.trans c1)))))))) ⟨O,ev⟩
    refine AS (AI (AG Jb O (AT Bu ak O mh O BA O (AA O (B6 O (AA O (AW 5 102 (.bool ((decide (g.G=c))||(decide (g.C=c)))) ?_ ?_)))))))
    ·cases lr:(decide (g.G=c))
     ·exact AB O (AG Ia O (AB O (AT Bu ak O mh O BA O (AB O (AA O (AB O (B6 O (AL O (AV O)))))))))
     exact A4 O O
    refine AN (kp [102,11,7,6,5,3,4,12,14] O) (AY O E (λg5 E=>?_) (λg5 E=>?_))
    ·refine CL (.inl O) (AA O (A9 O (AM O (kp [12,11,7,6,5,3,4,14] O) (WF.nil (λK M s t=>?_)))))
     have ew:=ak.drop .head
     exact⟨(Bw (ci+2)),_,_,s.sub (kp [11,7,6,5,3,4,14,12] O),t,ew,(cq.trans c1),(B5 _),E⟩
    refine AS (WF.nil (λK M s t=>?_))
    have ey:=ak.drop .head
    exact⟨ci,_,_,s.sub (kp [11,7,6,5,3,4,14,12] O),t,ey,(cq.trans c1),gq,E⟩
   rintro K M ⟨bs,ls,lt,s,t,ez,g6,g7,E⟩
   refine A6 ?_ s t
   clear s t M K
   rw[Fh] at E
   refine CL (.inl O) (AA O (A9 O (AM O (kp [14,11,7,6,5,3,4,12] O) (WF.nil (λK M s t=>?_)))))
   exact⟨bs,(Bw (cj+1)),_,_,s.sub (kp [11,7,6,5,3,4,12,14] O),t,ez,(d3.trans g6),g7,(B5 _),E⟩
  refine By O (λK M s t=>?_)
  exact⟨ci,_,_,s.sub (kp [11,7,6,5,3,4,12] O),t,br,d3,gq,E⟩
 rintro K M ⟨X,c2,c3,s,t,e0,ac,qr,E⟩
 refine A6 ?_ s t
 clear s t M K
 rw[D3] at E
 refine AI (AM O (kp [16,11,7,6,5,3,4,12] O) (AE (AI (AM O (kp [17,16,11,7,6,5,3,4,12] O) (BH (λa w=>∃(bt:Int),IV B c2 c3 (246,[]) a w [(11,.bool z),(7,bn),(6,q8),(5,q1),(3,vI c),(4,vI d),(12,vI X),(16,vI bt)] (L) λ_ _=>AH bt∧Fg N y j Q c d z X bt=some r) ?_ ?_)))))
 ·refine BV (λn6=>λa w=>∃(be:Int) (bu:Int),IV B c2 c3 (246,[]) a w [(11,.bool z),(7,bn),(6,q8),(5,q1),(3,vI c),(4,vI d),(12,vI X),(16,vI be),(17,vI bu)] (L) λ_ _=>AH be∧AH bu∧DL N Q (Fg N y j Q c d z X) n6 be bu=some r) N ?_ ?_ ?_
  ·intro K M s t
   exact⟨0,0,_,_,s.sub (kp [11,7,6,5,3,4,12,16,17] O),t,e0,(C9.refl c2 c3),(iq (n:=0) O),(iq (n:=0) O),E⟩
  ·rintro K M ⟨_,_,_,_,_,_,_,_,_,_,E⟩
   rw[DL] at E;cases E
  rintro n6 K M ⟨be,bu,lu,lv,s,t,a4,c4,g8,lw,E⟩
  refine A6 ?_ s t
  clear s t M K
  rw[DL] at E
  refine AE (AI (AA O ?_))
  have d9:=d1.mono (aj.trans (a1.trans (ac.trans c4)))
  refine A8 O d9 DO.f_Rain O1 O λlx g9=>BF Bu a4.1 O g9 CH O λly ha=>BE O ha CA O λlz=>BI O (AN (kp [109,11,7,6,5,3,4,12,16,17] O) (AY O E (λhc E=>?_) (λhc E=>?_)))
  ·refine AS (AE (BY (CL (.inl O) (AA O (A8 O d9 DO.f_Rain O1 O λl0 hd=>BF Bu a4.1 O hd CH O λl1 he=>AA O ?_)))))
   obtain⟨hg,e1,E⟩:=bd E
   refine B1 O O he CA e1 O λl2 hi=>BC Bu a4.1 O hi BA O λl3=>PY O O O (RB O O O (A9 O (AM O (kp [16,11,7,6,5,3,4,12,17] O) (B7 (CL (.inl O) (AA O (A9 O (AM O (kp [17,16,11,7,6,5,3,4,12] O) (WF.nil (λK M s t=>?_))))))))))
   exact⟨(Bw (be+(min (max hg 0) 1125899906842624))),(Bw (bu+1)),_,_,s.sub (kp [11,7,6,5,3,4,12,16,17] O),t,a4,c4,(B5 _),(B5 _),E⟩
  refine By O (λK M s t=>?_)
  exact⟨be,_,_,s.sub (kp [11,7,6,5,3,4,12,16] O),t,a4,c4,g8,E⟩
 rintro K M ⟨bt,hj,hk,s,t,Y,an,l4,E⟩
 refine A6 ?_ s t
 clear s t M K
 rw[Fg] at E
 refine AE (AE ?_)
 obtain⟨l5,c5,E⟩:=bd E
 obtain⟨hl,c6,E⟩:=bd E
 obtain⟨hm,Z,E⟩:=bd E
 refine He (λa w=>IV B hj hk (246,[]) a w [(136,.bool hm),(11,.bool z),(7,bn),(6,q8),(5,q1),(3,vI c),(4,vI d),(12,vI X)] (L) λ_ _=>True) ?_ ?_
 ·rcases Zd (decide (1125899906842624<(Bw ((Bw (hl+bt))+d)))) with bv|bv
  ·have Z:=Hj bv Z
   obtain⟨l6,e2,Z⟩:=bd Z
   have hn:=qS Z
   subst hn
   refine FG (AF 1 ?_)
   have ea:=d0.mono (aj.trans (a1.trans (ac.trans an)))
   refine Cq Bu Y.1 O ea G6 (λe=>by cases e) O λl7 ho=>AD (CG O O O Za O Y (LY (St.all _) (ho.mono ⟨λb hb=>Y.1 b hb,λ_ _=>rfl,qX _⟩) c5) λl8 l9 ma kr eb hp p=>?_)
   have e3:=p
   have ck:=Y.join hp e3 ⟨OS.flat (λ{_ _ _ _ _ _} k=>k),trivial⟩
   simp only[rW,rQ] at ck
   refine CG O O O Un O ck (Hk (St.all _) (ck.oslAll mh) c6) λmb mc md cl ec me p=>?_
   obtain⟨rfl,mf,ks⟩:=p
   refine AF 1 (AA O (AD (AF 1 (A9 O (AD (AF 1 (AA O (AD (AF 1 (A9 O (AD (AF 1 (CV O (AD (Ha bv (AF 1 (AA O (AD (AF 1 (AB O (A8 O (ea.mono (eb.trans ec)) KD Kl O λmg hq=>AD (AF 1 (AB O (BF Bu cl.1 O hq CH O λmi ht=>AD (G8 O O O (CG O O O Un O cl (Hk (St.all _) (ht.mono (λb hb=>cl.1 b hb) (λ_ _=>rfl)) e2) λmj ml mm e4 hu mn p=>?_))))))))))))))))))))))))))
   obtain⟨rfl,mp,kt⟩:=p
   refine AF 1 (AB O (AA O (AD (AF 1 (AB O (A9 O (AD (AF 1 (AB O (CV O (AD (AF 1 (AL O (AD (AZ (kp [136,11,7,6,5,3,4,12] O) ?_)))))))))))))))
   have e6:=e4.drop .head
   exact WF.nil (λK M s t=>⟨_,_,s.sub (kp [136,11,7,6,5,3,4,12] O),t,e6,(eb.trans (ec.trans hu)),trivial⟩)
  have Z:=Hi bv Z
  have hv:=qS Z
  subst hv
  refine FG (AF 1 (Cq Bu Y.1 O (d0.mono (aj.trans (a1.trans (ac.trans an)))) G6 (λe=>by cases e) O λmr hx=>AD (CG O O O Za O Y (LY (St.all _) (hx.mono ⟨λb hb=>Y.1 b hb,λ_ _=>rfl,qX _⟩) c5) λms mu mv ku hy hz p=>?_)))
  have e7:=p
  have cm:=Y.join hz e7 ⟨OS.flat (λ{_ _ _ _ _ _} k=>k),trivial⟩
  simp only[rW,rQ] at cm
  refine CG O O O Un O cm (Hk (St.all _) (cm.oslAll mh) c6) λmw mx my e8 h0 mz p=>?_
  obtain⟨rfl,m0,kv⟩:=p
  refine AF 1 (AA O (AD (AF 1 (A9 O (AD (AF 1 (AA O (AD (AF 1 (A9 O (AD (AF 1 (CV O (AD (Ha bv (AF 1 (AA O (AD (AF 1 (PZ O O O O O (AD (AF 1 (PZ O O O O O (AD (AF 1 (PZ O O O O O (AD (AF 1 (PZ O O O O O ?_)))))))))))))))))))))))))))))
  refine AD (AF 1 (PZ O O O O O (AD (AF 1 (PZ O O O O O (AD (AF 1 (AL O (AD (AZ (kp [136,11,7,6,5,3,4,12] O) ?_))))))))))
  have e9:=e8.drop .head
  exact WF.nil (λK M s t=>⟨_,_,s.sub (kp [136,11,7,6,5,3,4,12] O),t,e9,(hy.trans h0),trivial⟩)
 rintro K M ⟨m1,m2,s,t,cn,a5,_⟩
 refine A6 ?_ s t
 clear s t M K
 refine AY O E (λh4 E=>?_) (λh4 E=>?_)
 ·refine AI (AA O (AM O (kp [10] O) (A5 (λK M s t=>?_))))
  cases E
  exact Em s t O O (e5.trans (ba.trans (bb.trans (a3.trans (aj.trans (a1.trans (ac.trans (an.trans a5)))))))) ⟨O,cn⟩
 refine AS (WF.sl (AF 1 ?_))
 have c7:=aj.trans (a1.trans (ac.trans (an.trans a5)))
 have ed:=d0.mono c7
 refine Cq Bu cn.1 O ed G6 (λe=>by cases e) O λm3 h5=>AD (Di N7 O cn λee m4 fb ax=>?_)
 obtain⟨ef,bw,bx,bz,b0,b1,rfl,eg,h6,c8,c9,da,db,dc⟩:=DE.ex (h5.mono ax)
 refine Ht (vs:=[vI j.D,ef,bw,bx,bz,b0,b1]) (cs':=[vI j.D,ef,bw,bx,bz,b0,b1]) O O O (AC O (AC h6.one (AC c8.one (AC c9.one (AC da.one (AC db.one (AC dc.one Es))))))) G6 O fb .head O O λm5 fc ao=>AZ (kp [18,11,7,6,5,3,4,12] O) (WF.sl (Vd (r:=(BZ.sl AJ)) Ud O O fc λm6 m7 dd ap=>AF 2 ?_))
 have de:=ed.mono (ax.trans (ao.trans ap))
 refine A8 O de I0 EF O λm8 h7=>BF Bu dd.1 O h7 HO O λm9 h8=>AD ?_
 obtain⟨fd,E⟩:=LO E
 refine J3 (r:=(BZ.sl AJ)) (l:=([]:List (List Int))) (xs:=j.F) O O Ud O (Sl.src h8) O fd O dd (λ_=> .head) λna nb df ad=>AF 1 (AG EF O (AD ?_))
 obtain⟨ar,ab,rfl,nc⟩:=df.oslen mh
 refine Iq (vs:=[(.slice ar (([]:List (List Int))++j.F).length ab)]) (cs':=[vI j.D,(.slice ar (([]:List (List Int))++j.F).length ab),bw,bx,bz,b0,b1]) O O O O HO O df (.tail .head) O O λnd dg ae=>AZ (kp [18,11,7,6,5,3,4,12] O) (WF.sl (AF 3 ?_))
 have eh:=dz.mono (c7.trans (ax.trans (ao.trans (ap.trans (ad.trans ae)))))
 refine A8 O eh Eq Ib O λne h9=>BF Bu dg.1 O h9 LA O λnf ia=>BE O ia Ku O λng=>AD ?_
 obtain⟨fe,E⟩:=LO E
 refine Jl (r:=AJ) (zx:=0) GM O ⟨O,by unfold AH;omega⟩ O O fe O O dg λib nh dh af=>AF 1 (A0 O (AD (AZ (kp [19,18,11,7,6,5,3,4,12] O) (WF.sl (AF 3 (AA O (AA O ?_)))))))
 obtain⟨ni,ff,E⟩:=bd E
 refine BX dh mh O O CA ff O λnj fg=>AD ?_
 obtain⟨ic,fh,E⟩:=bd E
 refine Fd (r:=AJ) (l:=(List.replicate ((↑y.J.length:Int):Int).toNat (0:Int))) (i:=0) (x:=ic) O O (⟨_,O,O,cp⟩:Rd _ _ AJ _ d) fg fh MS.id BA (λ_=>rfl) dh .head λdi fi ag=>AZ (kp [19,18,11,7,6,5,3,4,12] O) (AE ?_)
 obtain⟨ay,u,ah,ie⟩:=fi.pubs .head
 obtain⟨cr,fj,E⟩:=bd E
 obtain⟨cs,fk,E⟩:=bd E
 obtain⟨nk,fl,E⟩:=bd E
 refine NX (m:=[(19,ib),(18,vP ee 0),(11,.bool z),(7,bn),(6,q8),(5,q1),(3,vI c),(4,vI d),(12,vI X)]) 11 (λi v hh=>match i with|0=>v=vP ee 1|1=>v=(.slice ar (([]:List (List Int))++j.F).length ab)|2=>v=vI c∧AH c|3=>Pt ay hh (BZ.sl (BZ.sl AJ)) v j.F|4=>Sl ay hh (BZ.sl AJ) v j.F|5=>v=vI c∧AH c|6=>Pt ay hh (BZ.sl AJ) v cr|7=>Sl ay hh AJ v cr|8=>Sl ay hh AJ v (upd (List.replicate ((↑y.J.length:Int):Int).toNat (0:Int)) 0 d)|9=>Sl (SN ay di hh) hh AJ v cs|10=>EP (.slice ar (([]:List (List Int))++j.F).length ab) (c.toNat*((BZ.sl AJ)).sz+0) v|_=>False) [[],[(0,151)],[],[],[(3,154)],[],[(4,155),(5,156)],[(6,157)],[],[(7,158),(8,159)],[(1,152),(2,153)]] [(9,160),(10,161)] mo (by kernel_rfl) [19,18,11,7,6,5,3,4,12] O (by kernel_rfl) (by kernel_rfl) (by kernel_rfl) (kp [19,18,11,7,6,5,3,4,12] O) (λi v h1 h2 o1 o2 hr=>?_) ?_ ?_
 ·match i,hr with
   |0,hr|1,hr|2,hr|5,hr|10,hr=>exact hr
   |3,hr|6,hr=>exact OV.mono hr (o2.ext λb hb=>qZ (u.1 b hb) o1.siz)
   |4,hr|7,hr|8,hr=>exact Sl.mono' hr (o2.ext λb hb=>qZ (u.1 b hb) o1.siz)
   |9,hr=>exact Sl.mono' hr (SN.mono u.1 o1 o2)
   |_+11,hr=>exact hr.elim
 ·refine BQ.cons O (λ_ _ _=>AF 1 (AG EF O (AO O))) (BQ.cons O (λ_ _ o _ ig=>by cases ig;exact AF 1 (AT Bu (o.st u) O (mt mh) O HO O (AO O))) (BQ.cons O (λ_ _ _=>AF 1 (AA O (AO ⟨O,co⟩))) (BQ.cons O (λ_ _ o=>AF 1 (A8 O (de.mono (ad.trans (ae.trans (af.trans (ag.trans (ah.trans (o.ext u.1))))))) I0 EF O λnl ih=>AO ih)) (BQ.cons O (λ_ _ o ii dj=>by have dj:Pt _ _ (BZ.sl (BZ.sl AJ)) ii j.F:=dj;exact AF 1 (BF Bu (o.st u).1 O dj HO O λnm ij=>AO ij)) (BQ.cons O (λ_ _ _=>AF 1 (AA O (AO ⟨O,co⟩))) (BQ.cons O (λ_ _ _=>by intro ik dk nn il;have dk:Sl _ _ (BZ.sl AJ) ik j.F:=dk;obtain ⟨rfl,no⟩:=il;exact AF 1 (B1 O O dk Fl fj O λnp im=>AO im)) (BQ.cons O (λ_ _ o io dl=>by have dl:Pt _ _ (BZ.sl AJ) io cr:=dl;exact AF 1 (BF Bu (o.st u).1 O dl CH O λnq ip=>AO ip)) (BQ.cons O (λ_ _ o=>AF 1 (AA O (AO (ie.mono' (o.ext u.1))))) ?_))))))))
  refine BQ.cons O ?_ ?_
  ·intro mq hh o
   intro ir b2 it b3
   have kw:=SN.st u o
   have b2:=Sl.mono' (S':=(SN ay di hh)) b2 ⟨λb hb=> .inl hb,λ_ _=>rfl,qX _⟩
   have b2:Sl _ _ AJ ir cr:=b2
   have b3:=Sl.mono' (S':=(SN ay di hh)) b3 ⟨λb hb=> .inl hb,λ_ _=>rfl,qX _⟩
   have b3:Sl _ _ AJ it (upd (List.replicate ((↑y.J.length:Int):Int).toNat (0:Int)) 0 d):=b3
   have d4:=kw.fz
   refine CG O O O Wi O d4 (LK (St.all _) (b2.mono (λb hb=>d4.1 b hb) (λ_ _=>rfl)) (b3.mono (λb hb=>d4.1 b hb) (λ_ _=>rfl)) fk) λnr ns nt kx iu iv p=>?_
   have fm:=p
   have dm:=d4.join iv fm ⟨OS.flat (λ{_ _ _ _ _ _} k=>k),trivial⟩
   simp only[rW,rQ] at dm
   obtain⟨nu,fn,iw,iy⟩:=dm.pubs .head
   have dn:=Fz.done o (iu.trans iw) fn
   exact Dt dn.1 (Sl.mono' iy dn.2)
  exact BQ.cons O (λ_ _ o=>by intro nv iz nw i0;cases iz;obtain ⟨rfl,nx⟩:=i0;exact AF 1 (BX (o.st u) mh O O Fl fl O λny fo=>AO fo)) trivial
 intro nz ai i1 dp n0 i2
 have fp:=SN.st u ai
 have dp:Sl _ _ AJ i1 cs:=dp
 obtain⟨i3,fq,E⟩:=bd E
 refine Fd (r:=(BZ.sl AJ)) (l:=(([]:List (List Int))++j.F)) (i:=c) (x:=i3) O O (Ml dp) i2 fq MS.id CH (λ_=>rfl) fp .head λn2 W aq=>AZ (kp [18,11,7,6,5,3,4,12] O) (AE (AE (Cn (.inl O) W ?_)))
 have ei:=eh.mono (af.trans (ag.trans (ah.trans ((SN.ext u.1 ai).trans aq))))
 refine Cq CQ W.1 O ei H2 (λe=>by cases e) O λn4 i4=>ES (vs:=[vI j.D,(.slice ar (([]:List (List Int))++j.F).length ab),bw,bx,bz,b0,b1]) CQ W O (mt mh) O O G6 O O ?_
 have a6:=ao.trans (ap.trans (ad.trans (ae.trans (af.trans (ag.trans (ah.trans ((SN.ext u.1 ai).trans aq)))))))
 obtain⟨n5,fr,E⟩:=bd E
 refine BU O O O Wj O (λh' o=>KG (St.all h') (i4.mono (o.all W.1)) (DE.mk (x:=({ j with F:=(upd (([]:List (List Int))++j.F) c cs)}:A7)) eg ((W.oslAll mh).mono (λb hb=>qZ hb o.siz) (λb hb=>o.same b hb)) ((c8.mono' a6).mono' (o.all W.1)) ((c9.mono' a6).mono' (o.all W.1)) ((da.mono' a6).mono' (o.all W.1)) ((db.mono' a6).mono' (o.all W.1)) ((dc.mono' a6).mono' (o.all W.1))) fr) (CI O (B9 (kp [165,18,11,7,6,5,3,4,12] O) λn7 a7 az=>AY O E (λi5 E=>?_) (λi5 E=>?_)))
 ·refine AI (AA O (AM O (kp [10] O) (A5 (λK M s t=>?_))))
  have fs:=a7.sel [] 2 O
  cases E
  exact Em s t O O (e5.trans (ba.trans (bb.trans (a3.trans (aj.trans (a1.trans (ac.trans (an.trans (a5.trans (ax.trans (ao.trans (ap.trans (ad.trans (ae.trans (af.trans (ag.trans (ah.trans ((SN.ext u.1 ai).trans (aq.trans az))))))))))))))))))) ⟨O,fs⟩
 refine AS (WF.sl (AF 3 ?_))
 have ej:=ei.mono az
 refine Cq Bu a7.1 O ej H2 (λe=>by cases e) O λn9 i6=>Cq Bu a7.1 O (de.mono (ad.trans (ae.trans (af.trans (ag.trans (ah.trans ((SN.ext u.1 ai).trans (aq.trans az)))))))) G6 (λe=>by cases e) O λoa i7=>?_
 have ek:=d1.mono (aj.trans (a1.trans (ac.trans (an.trans (a5.trans (ax.trans (ao.trans (ap.trans (ad.trans (ae.trans (af.trans (ag.trans (ah.trans ((SN.ext u.1 ai).trans (aq.trans az)))))))))))))))
 refine Cq Bu a7.1 O ek Tn (λe=>by cases e) O λob i8=>AD ?_
 obtain⟨U,ft,E⟩:=bd E
 refine Dj O O O Wk O (Kj a7 i6 i7 i8 ft) λoc od oe b4 p=>?_
 obtain⟨og,oh,ct,rfl,i9,fu⟩:=p
 refine AF 4 (AA O (CX O (CX O (CX O (AD (Di N7 O fu λbf oi fv bg=>?_))))))
 obtain⟨b5,b6,b7,b8,b9,ca,rfl,oj,el,ja,jb,jc,jd,je⟩:=DE.ex (i9.mono bg)
 refine Ht (vs:=[vI U.1.D,b5,b6,b7,b8,b9,ca]) (cs':=[vI U.1.D,b5,b6,b7,b8,b9,ca]) O O O (AC O (AC el.one (AC ja.one (AC jb.one (AC jc.one (AC jd.one (AC je.one Es))))))) G6 O fv .head O O λok bo bh=>AF 2 (A0 O (A0 O (AD (AZ (kp [22,20,18,11,7,5,3,4,12] O) (WF.sl (AF 3 ?_))))))
 have dq:=b4.trans (bg.trans bh)
 have em:=ej.mono dq
 refine Cq Bu bo.1 O em H2 (λe=>by cases e) O λol jf=>ES (vs:=[vI j.D,(.slice ar (([]:List (List Int))++j.F).length ab),bw,bx,bz,b0,b1]) Bu bo O (mt (mt (mt (mt mh)))) O O G6 O O (Cq Bu bo.1 O (ek.mono dq) Tn (λe=>by cases e) O λom jg=>AD ?_)
 obtain⟨oo,fw,a0,jh⟩:=bo.pubs (.tail (.tail (.tail .head)))
 have a8:=ao.trans (ap.trans (ad.trans (ae.trans (af.trans (ag.trans (ah.trans ((SN.ext u.1 ai).trans (aq.trans (az.trans (b4.trans (bg.trans (bh.trans a0))))))))))))
 obtain⟨V,fx,E⟩:=bd E
 refine Dj O O O Wk O (Kj fw (jf.mono a0) (DE.mk (x:=({ j with F:=(upd (([]:List (List Int))++j.F) c cs)}:A7)) eg jh (c8.mono' a8) (c9.mono' a8) (da.mono' a8) (db.mono' a8) (dc.mono' a8)) (jg.mono a0) fx) λop dr oq cb p=>?_
 obtain⟨os,ot,cu,rfl,ji,fy⟩:=p
 refine AF 4 (AA O (CX O (CX O (CX O (AD (Di N7 O fy λbi ou f0 bj=>?_))))))
 obtain⟨cc,cd,ce,cf,cg,ch,rfl,ov,en,jj,jk,jl,jm,jn⟩:=DE.ex (ji.mono bj)
 refine Ht (vs:=[vI V.1.D,cc,cd,ce,cf,cg,ch]) (cs':=[vI V.1.D,cc,cd,ce,cf,cg,ch]) O O O (AC O (AC en.one (AC jj.one (AC jk.one (AC jl.one (AC jm.one (AC jn.one Es))))))) G6 O f0 .head O O λds au bk=>AF 2 (A0 O (A0 O (AD (AZ (kp [25,23,22,20,11,5,3,4,12] O) (AE (AI (AA O (L3 au (mt (mt (mt (mt (mt mh))))) O CA O λow=>?_))))))))
 have dt:=em.mono (a0.trans (cb.trans (bj.trans bk)))
 refine A8 O dt B8 D1 O λox jo=>BF Bu au.1 O jo G7 O λoy jp=>BE O jp GL O λoz=>Cg O (AA O (AW 7 196 (.bool ((decide ((↑U.2.2.length:Int)≠(↑y.A.length:Int)))||(decide ((↑V.2.2.length:Int)≠(↑y.A.length:Int))))) ?_ ?_))
 ·cases o0:(decide ((↑U.2.2.length:Int)≠(↑y.A.length:Int)))
  ·exact AB O (AA O (AB O (L3 au (mt (mt mh)) O CA O λo3=>AB O (A8 O dt B8 D1 O λo4 jq=>AB O (BF Bu au.1 O jq G7 O λo5 jr=>AB O (BE O jr GL O λo6=>AB O (Cg O (AL O (AV O)))))))))
  exact A4 O O
 refine AN (kp [196,25,23,22,20,11,5,3,4,12] O) (AY O E (λjs E=>?_) (λjs E=>?_))
 ·refine AI (AM O (kp [10] O) (A5 (λK M s t=>?_)))
  have f1:=au.sel [] 7 O
  cases E
  exact Em s t O O (e5.trans (ba.trans (bb.trans (a3.trans (aj.trans (a1.trans (ac.trans (an.trans (a5.trans (ax.trans (ao.trans (ap.trans (ad.trans (ae.trans (af.trans (ag.trans (ah.trans ((SN.ext u.1 ai).trans (aq.trans (az.trans (b4.trans (bg.trans (bh.trans (a0.trans (cb.trans (bj.trans bk)))))))))))))))))))))))))) ⟨O,f1⟩
 refine AS (AE (AI (AM O (kp [26,25,23,22,20,11,5,3,4,12] O) (BH (λa w=>IV B dr ds (246,[]) a w [(23,vP bi 0),(20,vP bf 0),(11,.bool z),(3,vI c),(4,vI d),(12,vI X)] (Bx bi 36 [vI V.1.D,cc,cd,ce,cf,cg,ch]::Bx bf 36 [vI U.1.D,b5,b6,b7,b8,b9,ca]::L) λ_ _=>Eb N c d z X U V=some r) ?_ ?_))))
 ·refine BV (λn8=>λa w=>∃(a9:Int),IV B dr ds (246,[]) a w [(25,cu),(23,vP bi 0),(22,ct),(20,vP bf 0),(11,.bool z),(5,q1),(3,vI c),(4,vI d),(12,vI X),(26,vI a9)] (Bx bi 36 [vI V.1.D,cc,cd,ce,cf,cg,ch]::OS AJ 3 cu V.2.2::Bx bf 36 [vI U.1.D,b5,b6,b7,b8,b9,ca]::OS AJ 3 ct U.2.2::L) λ_ _=>AH a9∧Co N y c d U V (Eb N c d z X U V) n8 a9=some r) N ?_ ?_ ?_
  ·intro K M s t
   have f2:=au.sel [0,1,1,2] 3 O
   exact⟨0,_,_,s.sub (kp [25,23,22,20,11,5,3,4,12,26] O),t,f2,(C9.refl dr ds),(iq (n:=0) O),E⟩
  ·rintro K M ⟨_,_,_,_,_,_,_,_,E⟩
   rw[Co] at E;cases E
  rintro n8 K M ⟨a9,du,dv,s,t,bp,cv,o7,E⟩
  refine A6 ?_ s t
  clear s t M K
  rw[Co] at E
  refine AE (AI (AA O (A8 O (dt.mono cv) B8 D1 O λo8 jt=>BF Bu bp.1 O jt G7 O λo9 ju=>BE O ju GL O λpa=>BI O (AN (kp [201,25,23,22,20,11,5,3,4,12,26] O) (AY O E (λjv E=>?_) (λjv E=>?_))))))
  ·refine AS (AE (BY (AI (AM O (kp [27,25,23,22,20,11,5,3,4,12,26] O) (AE (AI (AA O (AA O (B6 O (AN (kp [206,27,25,23,22,20,11,5,3,4,12,26] O) (He (λa w=>∃(cw:Int),IV B du dv (246,[]) a w [(25,cu),(23,vP bi 0),(22,ct),(20,vP bf 0),(11,.bool z),(5,q1),(3,vI c),(4,vI d),(12,vI X),(26,vI a9),(27,vI cw)] (Bx bi 36 [vI V.1.D,cc,cd,ce,cf,cg,ch]::OS AJ 3 cu V.2.2::Bx bf 36 [vI U.1.D,b5,b6,b7,b8,b9,ca]::OS AJ 3 ct U.2.2::L) λ_ _=>AH cw∧Ff N U V a9 (Co N y c d U V (Eb N c d z X U V) n8) cw=some r) ?_ ?_)))))))))))
   ·refine AY O E (λjw E=>?_) (λjw E=>?_)
    ·refine CL (.inl O) (AA O (AM O (kp [27,25,23,22,20,11,5,3,4,12,26] O) (WF.nil (λK M s t=>?_))))
     exact⟨d,_,_,s.sub (kp [25,23,22,20,11,5,3,4,12,26,27] O),t,bp,(C9.refl du dv),cp,E⟩
    refine AS (WF.nil (λK M s t=>?_))
    exact⟨0,_,_,s.sub (kp [25,23,22,20,11,5,3,4,12,26,27] O),t,bp,(C9.refl du dv),(iq (n:=0) O),E⟩
   rintro K M ⟨cw,pb,pc,s,t,av,eo,pd,E⟩
   refine A6 ?_ s t
   clear s t M K
   rw[Ff] at E
   refine AE (CL (.inr ⟨mo,by kernel_rfl⟩) (AA O (AA O ?_)))
   obtain⟨pe,f3,E⟩:=bd E
   refine BX av (mt mh) O O CA f3 O λpf f4=>?_
   obtain⟨pg,f5,E⟩:=bd E
   have jx:=av.epAt (mt mh) f5 GO.id f4
   refine BC Bu (λ_ x=>x) O jx BA O λph=>AA O (AA O ?_)
   obtain⟨pi,f6,E⟩:=bd E
   refine BX av (mt (mt (mt mh))) O O CA f6 O λpj f7=>?_
   obtain⟨pk,f8,E⟩:=bd E
   have jy:=av.epAt (mt (mt (mt mh))) f8 GO.id f7
   refine BC Bu (λ_ x=>x) O jy BA O λpl=>AA O (A9 O (Cg O (AN (kp [218,25,23,22,20,11,5,3,4,12,26] O) (AY O E (λjz E=>?_) (λjz E=>?_)))))
   ·refine AI (AM O (kp [10] O) (A5 (λK M s t=>?_)))
    have f9:=av.sel [] 4 O
    cases E
    exact Em s t O O (e5.trans (ba.trans (bb.trans (a3.trans (aj.trans (a1.trans (ac.trans (an.trans (a5.trans (ax.trans (ao.trans (ap.trans (ad.trans (ae.trans (af.trans (ag.trans (ah.trans ((SN.ext u.1 ai).trans (aq.trans (az.trans (b4.trans (bg.trans (bh.trans (a0.trans (cb.trans (bj.trans (bk.trans (cv.trans eo)))))))))))))))))))))))))))) ⟨O,f9⟩
   refine AS (B7 (CL (.inl O) (AA O (A9 O (AM O (kp [26,25,23,22,20,11,5,3,4,12] O) (WF.nil (λK M s t=>?_)))))))
   exact⟨(Bw (a9+1)),_,_,s.sub (kp [25,23,22,20,11,5,3,4,12,26] O),t,av,(cv.trans eo),(B5 _),E⟩
  refine By O (λK M s t=>?_)
  have ga:=bp.sel [0,1] 2 O
  exact⟨_,_,s.sub (kp [23,20,11,3,4,12] O),t,ga,cv,E⟩
 rintro K M ⟨pm,pn,s,t,am,dw,E⟩
 refine A6 ?_ s t
 clear s t M K
 rw[Eb] at E
 refine AE (Cn (.inr ⟨mo,by kernel_rfl⟩) am (AG EF O (AT CQ am O mh O HO O (AA O ?_))))
 obtain⟨po,gb,E⟩:=bd E
 refine B1 O O (en.mono' (bk.trans dw)) Fl gb O λpp j0=>BF CQ am.1 O j0 CH O λpq j1=>?_
 obtain⟨cx,gc,E⟩:=bd E
 refine DW O O O Un O (λh' o=>Hk (St.all h') (j1.mono' (o.all am.1)) gc) λj2=>?_
 have pr:=j2
 refine AG EF O (AT CQ am O (mt mh) O HO O (AA O ?_))
 obtain⟨ps,gd,E⟩:=bd E
 refine B1 O O (el.mono' (bh.trans (a0.trans (cb.trans (bj.trans (bk.trans dw)))))) Fl gd O λpu j3=>BF CQ am.1 O j3 CH O λpv j4=>?_
 obtain⟨cy,ge,E⟩:=bd E
 refine DW O O O Un O (λh' o=>Hk (St.all h') (j4.mono' (o.all am.1)) ge) λj5=>?_
 have pw:=j5
 refine Dl O (A0 O (B9 (kp [28,11,4,12] O) λpx gf j6=>AI (AA O (AA O (AW 5 238 (.bool (z&&(decide ((Bw (0-X))≤(Bw (cx-cy)))))) ?_ ?_)))))
 ·cases py:z
  ·exact A4 O O
  exact AB O (AA O (AB O (AA O (AB O (bU O O (AB O (HY O (AL O (AV O)))))))))
 refine AA O (AW 6 245 (.bool ((z&&(decide ((Bw (0-X))≤(Bw (cx-cy)))))&&(decide ((Bw (cx-cy))≤(Bw (d+X)))))) ?_ ?_)
 ·cases pz:(z&&(decide ((Bw (0-X))≤(Bw (cx-cy)))))
  ·exact A4 O O
  exact AB O (AA O (AB O (AA O (AB O (AA O (AB O (A9 O (AB O (HX O (AL O (AV O)))))))))))
 refine AM O (kp [10] O) (A5 (λK M s t=>?_))
 have gg:=gf.sel [] 2 O
 cases E
 exact Em s t O O (e5.trans (ba.trans (bb.trans (a3.trans (aj.trans (a1.trans (ac.trans (an.trans (a5.trans (ax.trans (ao.trans (ap.trans (ad.trans (ae.trans (af.trans (ag.trans (ah.trans ((SN.ext u.1 ai).trans (aq.trans (az.trans (b4.trans (bg.trans (bh.trans (a0.trans (cb.trans (bj.trans (bk.trans (dw.trans j6)))))))))))))))))))))))))))) ⟨O,gg⟩
end Go.Proofs.YtblcgjadhemlbaaGreat
