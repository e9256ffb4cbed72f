import Derived.Test.YtblcgjadhemlbaaGreatWWalk5
namespace Go.Proofs.YtblcgjadhemlbaaGreat
set_option linter.all false
open Go.RowKit
open Go.Proofs.Tryz
set_option maxRecDepth 10000
set_option maxHeartbeats 2000000
variable {N:Nat}{S:Nat→Prop}{L:List HP}{h:BM}
def ME (H:St S L h) {c:Value}{i:(List Int)}(j:Sl S h AJ c i) {b:Int}(t:AH b) {r:Int×Bool}(E:Ih N i b=some r):
 DK prog 38 #[c,vI b] S h (λv S' h'=>v= .tuple #[vI r.1,.bool r.2]∧AH r.1∧St S' (L) h'):=by
 refine B0 (l:=[c,vI b]) 29 func38 O ntmps38 O λB=>?_
 rw[Ih] at E
 refine AI (A0 O (AM O (kp [0,1] O) (AI (AM O (kp [6,0,1] O) (AE (AI (AA O (BE O j CA O λZ=>AA O (AN (kp [11,10,9,6,1] O) (BH (λa w=>∃(z:Int),IV B S h (29,[]) a w [(6,vI z)] (L) λ_ _=>AH z∧HR N z=some r) ?_ ?_))))))))))
 ·refine BV (λG=>λa w=>∃(u:Int) (m:Int),IV B S h (29,[]) a w [(10,vI (↑i.length:Int)),(9,c),(1,vI b),(6,vI u),(11,vI m)] (L) λ_ _=>AH u∧AH m∧Fm N i b (HR N) G u m=some r) N ?_ ?_ ?_
  ·intro o p d g
   exact⟨0,0,_,_,d.sub (kp [10,9,1,6,11] O),g,H,(C9.refl S h),(iq (n:=0) O),(iq (n:=0) O),E⟩
  ·rintro o p ⟨_,_,_,_,_,_,_,_,_,_,E⟩
   rw[Fm] at E;cases E
  rintro G o p ⟨u,m,I,J,d,g,k,q,K,M,E⟩
  refine A6 ?_ d g
  clear d g p o
  rw[Fm] at E
  refine AI (BI O (AN (kp [12,10,9,1,6,11] O) (AE (AY O E (λA E=>?_) (λA E=>?_)))))
  ·refine AS (AE (BY (AI ?_)))
   obtain⟨s,x,E⟩:=bd E
   refine B1 O O (j.mono' q) CA x O λQ C=>BC Bu k.1 O C BA O λU=>AM O (kp [8,10,9,1,6,11] O) (AE (AI (AA O (BI O (AA O (AW 6 23 (.bool ((decide (s<0))||(decide ((Bw (b-u))<s)))) ?_ ?_))))))
   ·cases V:(decide (s<0))
    ·exact AB O (AA O (AB O (AA O (AB O (AA O (AB O (Dl O (AB O (CV O (AL O (AV O)))))))))))
    exact A4 O O
   refine AN (kp [23,8,10,9,1,6,11] O) (AY O E (λD E=>?_) (λD E=>?_))
   ·refine AI (A0 O (AM O (kp [5,4] O) (A5 (λo p d g=>?_))))
    cases E
    exact K5 d O g (JD (Jm d (v:=_) O) (JD (Jm d (v:=_) O) K4)) O q ⟨O,(iq (n:=0) O),k⟩
   refine AS (CL (.inl O) (AA O (AA O (A9 O (AM O (kp [6,10,9,1,11] O) (B7 (CL (.inl O) (A9 O (AA O (AN (kp [11,6,10,9,1] O) (WF.nil (λo p d g=>?_))))))))))))
   exact⟨(Bw (u+s)),(Bw (m+1)),_,_,d.sub (kp [10,9,1,6,11] O),g,k,q,(B5 _),(B5 _),E⟩
  refine By O (λo p d g=>?_)
  exact⟨u,_,_,d.sub (kp [6] O),g,k,q,K,E⟩
 rintro o p ⟨z,W,X,d,g,y,F,Y,E⟩
 refine A6 ?_ d g
 clear d g p o
 rw[HR] at E
 refine AI (AA O (A0 O (AM O (kp [5,4] O) (A5 (λo p d g=>?_)))))
 cases E
 exact K5 d O g (JD (Jm d (v:=_) O) (JD (Jm d (v:=_) O) K4)) O F ⟨O,Y,y⟩
def KG (hs:St S L h) {V:Value}{d:AU}(ax:Rd S h C2 V d) {X:Value}{b:A7}(ay:Rd S h DE X b) {r:Bool}(E:IQ N d b=some r):
 DK prog 14 #[V,X] S h (λv S' h'=>v= .bool r∧St S' (L) h'):=by
 refine B0 (l:=[V,X]) 168 func14 O ntmps14 O λB=>?_
 rw[IQ] at E
 refine WF.sl (C3 O ax (λe=>by cases e) O hs λq1 S2 h3 c1 e5 k6=>C3 O (ay.mono e5) (λe=>by cases e) O c1 λq8 S9 bb j u M=>AF 1 (A0 O (AD (AZ (kp [3,2] O) (AE (AI (A8 O M A7.f_Hour Jc O λf2 c2=>BC Bu j.1 O c2 BA O λf3=>BI O (AA O (AW 4 20 (.bool ((decide (b.D<0))||(decide (16777216<b.D)))) ?_ ?_)))))))))
 ·cases f4:(decide (b.D<0))
  ·exact AB O (A8 O M A7.f_Hour Jc O λf5 c3=>AB O (BC Bu j.1 O c3 BA O λf6=>AB O (CV O (AL O (AV O)))))
  exact A4 O O
 refine AA O (AW 8 29 (.bool (((decide (b.D<0))||(decide (16777216<b.D)))||(decide ((↑b.F.length:Int)≠(↑d.A.length:Int))))) ?_ ?_)
 ·cases f7:((decide (b.D<0))||(decide (16777216<b.D)))
  ·exact AB O (A8 O M I0 EF O λf8 c4=>AB O (BF Bu j.1 O c4 HO O λf9 c5=>AB O (BE O c5 Fl O λga=>AB O (A8 O (k6.mono u) B8 D1 O λgb c6=>AB O (BF Bu j.1 O c6 G7 O λgc c7=>AB O (BE O c7 GL O λgd=>AB O (Cg O (AL O (AV O)))))))))
  exact A4 O O
 refine AA O (AW 8 38 (.bool ((((decide (b.D<0))||(decide (16777216<b.D)))||(decide ((↑b.F.length:Int)≠(↑d.A.length:Int))))||(decide ((↑b.O.length:Int)≠(↑d.A.length:Int))))) ?_ ?_)
 ·cases ge:(((decide (b.D<0))||(decide (16777216<b.D)))||(decide ((↑b.F.length:Int)≠(↑d.A.length:Int))))
  ·exact AB O (A8 O M KT Kn O λgf c8=>AB O (BF Bu j.1 O c8 CH O λgg c9=>AB O (BE O c9 CA O λgh=>AB O (A8 O (k6.mono u) B8 D1 O λgi da=>AB O (BF Bu j.1 O da G7 O λgj db=>AB O (BE O db GL O λgl=>AB O (Cg O (AL O (AV O)))))))))
  exact A4 O O
 refine AA O (AW 8 47 (.bool (((((decide (b.D<0))||(decide (16777216<b.D)))||(decide ((↑b.F.length:Int)≠(↑d.A.length:Int))))||(decide ((↑b.O.length:Int)≠(↑d.A.length:Int))))||(decide ((↑b.P.length:Int)≠(↑d.E.length:Int))))) ?_ ?_)
 ·cases gm:((((decide (b.D<0))||(decide (16777216<b.D)))||(decide ((↑b.F.length:Int)≠(↑d.A.length:Int))))||(decide ((↑b.O.length:Int)≠(↑d.A.length:Int))))
  ·exact AB O (A8 O M KU Iv O λgn dc=>AB O (BF Bu j.1 O dc LW O λgp dd=>AB O (BE O dd LB O λgq=>AB O (A8 O (k6.mono u) Er Hn O λgr de=>AB O (BF Bu j.1 O de KF O λgs df=>AB O (BE O df Ie O λgu=>AB O (Cg O (AL O (AV O)))))))))
  exact A4 O O
 refine AA O (AW 8 56 (.bool ((((((decide (b.D<0))||(decide (16777216<b.D)))||(decide ((↑b.F.length:Int)≠(↑d.A.length:Int))))||(decide ((↑b.O.length:Int)≠(↑d.A.length:Int))))||(decide ((↑b.P.length:Int)≠(↑d.E.length:Int))))||(decide ((↑b.S.length:Int)≠(↑d.J.length:Int))))) ?_ ?_)
 ·cases gv:(((((decide (b.D<0))||(decide (16777216<b.D)))||(decide ((↑b.F.length:Int)≠(↑d.A.length:Int))))||(decide ((↑b.O.length:Int)≠(↑d.A.length:Int))))||(decide ((↑b.P.length:Int)≠(↑d.E.length:Int))))
  ·exact AB O (A8 O M KD Kl O λgw dg=>AB O (BF Bu j.1 O dg CH O λgx dh=>AB O (BE O dh CA O λgy=>AB O (A8 O (k6.mono u) Eq Ib O λgz di=>AB O (BF Bu j.1 O di LA O λg0 dj=>AB O (BE O dj Ku O λg1=>AB O (Cg O (AL O (AV O)))))))))
  exact A4 O O
 refine AA O (AW 8 65 (.bool (((((((decide (b.D<0))||(decide (16777216<b.D)))||(decide ((↑b.F.length:Int)≠(↑d.A.length:Int))))||(decide ((↑b.O.length:Int)≠(↑d.A.length:Int))))||(decide ((↑b.P.length:Int)≠(↑d.E.length:Int))))||(decide ((↑b.S.length:Int)≠(↑d.J.length:Int))))||(decide ((↑b.U.length:Int)≠(↑d.J.length:Int))))) ?_ ?_)
 ·cases g2:((((((decide (b.D<0))||(decide (16777216<b.D)))||(decide ((↑b.F.length:Int)≠(↑d.A.length:Int))))||(decide ((↑b.O.length:Int)≠(↑d.A.length:Int))))||(decide ((↑b.P.length:Int)≠(↑d.E.length:Int))))||(decide ((↑b.S.length:Int)≠(↑d.J.length:Int))))
  ·exact AB O (A8 O M LQ KO O λg3 dk=>AB O (BF Bu j.1 O dk CH O λg4 dl=>AB O (BE O dl CA O λg5=>AB O (A8 O (k6.mono u) Eq Ib O λg6 dm=>AB O (BF Bu j.1 O dm LA O λg7 dn=>AB O (BE O dn Ku O λg8=>AB O (Cg O (AL O (AV O)))))))))
  exact A4 O O
 refine AN (kp [65,3,2] O) (AY O E (λdp E=>?_) (λdp E=>?_))
 ·refine AI (AM O (kp [4] O) (A5 (λz K k m=>?_)))
  cases E
  exact Em k m O O (e5.trans u) ⟨O,j⟩
 refine AS (AE (AI ?_))
 have bt:=k6.mono u
 refine A8 O bt B8 D1 O λg9 dq=>BF Bu j.1 O dq G7 O λdr bu=>BE O bu GL O λha=>AA O (AN (kp [69,68,67,3,2] O) (BH (λa w=>IV B S9 bb (168,[]) a w [(3,q8),(2,q1)] (L) λ_ _=>GJ N d b=some r) ?_ ?_))
 ·refine BV (λn1=>λa w=>∃(am:Int),IV B S9 bb (168,[]) a w [(68,vI (↑d.A.length:Int)),(67,dr),(3,q8),(2,q1),(69,vI am)] (L) λ_ _=>AH am∧GH N d b (GJ N d b) n1 am=some r) N ?_ ?_ ?_
  ·intro z K k m
   exact⟨0,_,_,k.sub (kp [68,67,3,2,69] O),m,j,(C9.refl S9 bb),(iq (n:=0) O),E⟩
  ·rintro z K ⟨_,_,_,_,_,_,_,_,E⟩
   rw[GH] at E;cases E
  rintro n1 z K ⟨am,hb,hc,k,m,an,ao,hd,E⟩
  refine A6 ?_ k m
  clear k m K z
  rw[GH] at E
  refine AI (BI O (AN (kp [70,68,67,3,2,69] O) (AE (AY O E (λds E=>?_) (λds E=>?_)))))
  ·refine AS (AE (BY (WF.sl (AF 3 (AA O ?_)))))
   obtain⟨p,bv,E⟩:=bd E
   refine B1 O O (bu.mono' ao) GL bv O λhe bw=>Cq Bu an.1 O bw Kt (λe=>by cases e) O λdt bx=>AD (Di Pb O an λdu dv bc ah=>AF 1 (A0 O (AD ?_)))
   obtain⟨az,a0,a1,rfl,dw,dx,dy,dz,bz,b0,d0,d1,d2,d3,d4,b1⟩:=Cw.ex (bx.mono ah)
   refine Ht (vs:=[.string p.H,vI p.B,vI p.As,vI p.Ae,az,a0,vI p.L,vI p.I,vI p.Aq,vI p.N,vI p.Bc,a1]) (cs':=[.string p.H,vI p.B,vI p.As,vI p.Ae,az,a0,vI p.L,vI p.I,vI p.Aq,vI p.N,vI p.Bc,a1]) O O O (AC O (AC O (AC O (AC O (AC bz.one (AC b0.one (AC O (AC O (AC O (AC O (AC O (AC b1.one Es)))))))))))) Kt O bc .head O O λd5 t ap=>AZ (kp [5,6,68,67,3,2,69] O) (AE (CL (.inr ⟨mo,by kernel_rfl⟩) ?_))
   have a2:=M.mono (ao.trans (ah.trans ap))
   refine A8 O a2 KT Kn O λd6 b2=>BF Bu t.1 O b2 CH O λd7 b3=>AA O ?_
   obtain⟨b4,be,E⟩:=bd E
   refine B1 O O b3 CA be O λd8 b5=>BC Bu t.1 O b5 BA O λd9=>BI O (AA O ?_)
   obtain⟨b6,s,E⟩:=bd E
   refine AW 11 91 (.bool b6) ?_ ?_
   ·cases a3:(decide (b4<0))
    ·have s:=Hj a3 s
     refine AB O (A8 O a2 KT Kn O λea b7=>AB O (BF Bu t.1 O b7 CH O λeb b8=>AB O (AA O (AB O ?_))))
     obtain⟨ec,bf,s⟩:=bd s
     refine B1 O O b8 CA bf O λed b9=>AB O (BC Bu t.1 O b9 BA O λee=>AB O (AG Lx O (AB O (AT Bu t O mh O BA O (AB O (Dl O (AB O (PY O O O (AB O (CV O (AL O ?_)))))))))))
     cases s
     exact AV O
    have s:=Hi a3 s
    cases s
    exact A4 O O
   refine AN (kp [91,68,67,3,2,69] O) (AY O E (λca E=>?_) (λca E=>?_))
   ·refine AI (AM O (kp [4] O) (A5 (λz K k m=>?_)))
    have bg:=t.drop .head
    cases E
    exact Em k m O O (e5.trans (u.trans (ao.trans (ah.trans ap)))) ⟨O,bg⟩
   refine AS (B7 (CL (.inl O) (A9 O (AA O (AN (kp [69,68,67,3,2] O) (WF.nil (λz K k m=>?_)))))))
   have bh:=t.drop .head
   exact⟨(Bw (am+1)),_,_,k.sub (kp [68,67,3,2,69] O),m,bh,(ao.trans (ah.trans ap)),(B5 _),E⟩
  refine By O (λz K k m=>?_)
  exact⟨_,_,k.sub (kp [3,2] O),m,an,ao,E⟩
 rintro z K ⟨aq,ar,k,m,au,x,E⟩
 refine A6 ?_ k m
 clear k m K z
 rw[GJ] at E
 refine AE (AI ?_)
 have a4:=bt.mono x
 refine A8 O a4 Er Hn O λef cb=>BF Bu au.1 O cb KF O λcc a5=>BE O a5 Ie O λeg=>AA O (AN (kp [96,95,94,3,2] O) (BH (λa w=>IV B aq ar (168,[]) a w [(3,q8),(2,q1)] (L) λ_ _=>GI N d b=some r) ?_ ?_))
 ·refine BV (λn3=>λa w=>∃(ac:Int),IV B aq ar (168,[]) a w [(95,vI (↑d.E.length:Int)),(94,cc),(3,q8),(2,q1),(96,vI ac)] (L) λ_ _=>AH ac∧GG N d b (GI N d b) n3 ac=some r) N ?_ ?_ ?_
  ·intro z K k m
   exact⟨0,_,_,k.sub (kp [95,94,3,2,96] O),m,au,(C9.refl aq ar),(iq (n:=0) O),E⟩
  ·rintro z K ⟨_,_,_,_,_,_,_,_,E⟩
   rw[GG] at E;cases E
  rintro n3 z K ⟨ac,eh,ei,k,m,af,Q,ej,E⟩
  refine A6 ?_ k m
  clear k m K z
  rw[GG] at E
  refine AI (BI O (AN (kp [97,95,94,3,2,96] O) (AE (AY O E (λcd E=>?_) (λcd E=>?_)))))
  ·refine AS (AE (BY (WF.sl (AF 3 (AA O ?_)))))
   obtain⟨c,bi,E⟩:=bd E
   refine B1 O O (a5.mono' Q) Ie bi O λek ce=>Cq Bu af.1 O ce IM (λe=>by cases e) O λel cf=>AD (Di OX O af λem en bj ad=>AF 1 (A0 O (AD ?_)))
   obtain⟨a6,a7,a8,rfl,eo,ep,eq,er,cg,ch,ci,es,et,eu,ev,ew,ey,ez,e0,e1,e2,e3⟩:=Ct.ex (cf.mono ad)
   refine Ht (vs:=[.string c.H,vI c.B,vI c.G,vI c.C,a6,a7,a8,vI c.R,vI c.Ab,vI c.Aj,vI c.Al,vI c.L,vI c.I,vI c.Ah,vI c.Ai,vI c.Ac,vI c.Aa,vI c.N]) (cs':=[.string c.H,vI c.B,vI c.G,vI c.C,a6,a7,a8,vI c.R,vI c.Ab,vI c.Aj,vI c.Al,vI c.L,vI c.I,vI c.Ah,vI c.Ai,vI c.Ac,vI c.Aa,vI c.N]) O O O (AC O (AC O (AC O (AC O (AC cg.one (AC ch.one (AC ci.one (AC O (AC O (AC O (AC O (AC O (AC O (AC O (AC O (AC O (AC O (AC O Es)))))))))))))))))) IM O bj .head O O λe4 ag ai=>AZ (kp [7,8,95,94,3,2,96] O) (WF.sl (AF 5 (A8 O (M.mono (x.trans (Q.trans (ad.trans ai)))) KU Iv O λe6 cj=>BF Bu ag.1 O cj LW O λe7 ck=>AA O ?_)))
   obtain⟨g,bk,E⟩:=bd E
   refine B1 O O ck LB bk O λe8 cl=>Cq Bu ag.1 O cl H1 (λe=>by cases e) O λe9 cm=>AD (Di Tj O ag λfb fc bl aj=>?_)
   obtain⟨rfl,⟨fd,fe⟩⟩:=Bz.ex (cm.mono aj)
   refine Ek (vs:=[vI g.W,vI g.Z,.bool g.Az,.bool g.Ao]) O O O O H1 O bl .head O λff i av=>AZ (kp [9,8,95,94,3,2,96] O) (AE (AI (AG Nq O (AT Bu i O mh O BA O (BI O (AA O (AW 6 115 (.bool ((decide (g.W<0))||(decide (c.R<g.W)))) ?_ ?_)))))))
   ·cases fg:(decide (g.W<0))
    ·exact AB O (AG Nq O (AB O (AT Bu i O mh O BA O (AB O (AG KL O (AB O (AT Bu i O (mt mh) O BA O (AB O (CV O (AL O (AV O)))))))))))
    exact A4 O O
   refine AA O (AW 4 120 (.bool (((decide (g.W<0))||(decide (c.R<g.W)))||(decide (g.Z<0)))) ?_ ?_)
   ·cases fh:((decide (g.W<0))||(decide (c.R<g.W)))
    ·exact AB O (AG QN O (AB O (AT Bu i O mh O BA O (AB O (BI O (AL O (AV O)))))))
    exact A4 O O
   refine AA O (AW 6 127 (.bool ((((decide (g.W<0))||(decide (c.R<g.W)))||(decide (g.Z<0)))||(decide (c.R<g.Z)))) ?_ ?_)
   ·cases fi:(((decide (g.W<0))||(decide (c.R<g.W)))||(decide (g.Z<0)))
    ·exact AB O (AG QN O (AB O (AT Bu i O mh O BA O (AB O (AG KL O (AB O (AT Bu i O (mt mh) O BA O (AB O (CV O (AL O (AV O)))))))))))
    exact A4 O O
   refine AN (kp [127,9,8,95,94,3,2,96] O) (AY O E (λcn E=>?_) (λcn E=>?_))
   ·refine AI (AM O (kp [4] O) (A5 (λz K k m=>?_)))
    have bm:=i.sel [] 2 O
    cases E
    exact Em k m O O (e5.trans (u.trans (x.trans (Q.trans (ad.trans (ai.trans (aj.trans av))))))) ⟨O,bm⟩
   refine AS (AI (AG Ov O (AT Bu i O mh O Pr O (AA O (AW 4 134 (.bool (g.Ao&&(decide (c.B≠5)))) ?_ ?_)))))
   ·cases fj:g.Ao
    ·exact A4 O O
    exact AB O (AG HA O (AB O (AT Bu i O (mt mh) O BA O (AB O (Cg O (AL O (AV O)))))))
   refine AA O (AW 4 139 (.bool ((g.Ao&&(decide (c.B≠5)))&&(decide (c.B≠3)))) ?_ ?_)
   ·cases fk:(g.Ao&&(decide (c.B≠5)))
    ·exact A4 O O
    exact AB O (AG HA O (AB O (AT Bu i O (mt mh) O BA O (AB O (Cg O (AL O (AV O)))))))
   refine AN (kp [139,95,94,3,2,96] O) (AY O E (λco E=>?_) (λco E=>?_))
   ·refine AI (AM O (kp [4] O) (A5 (λz K k m=>?_)))
    have bn:=i.sel [] 2 O
    cases E
    exact Em k m O O (e5.trans (u.trans (x.trans (Q.trans (ad.trans (ai.trans (aj.trans av))))))) ⟨O,bn⟩
   refine AS (B7 (CL (.inl O) (A9 O (AA O (AN (kp [96,95,94,3,2] O) (WF.nil (λz K k m=>?_)))))))
   have bo:=i.sel [] 2 O
   exact⟨(Bw (ac+1)),_,_,k.sub (kp [95,94,3,2,96] O),m,bo,(Q.trans (ad.trans (ai.trans (aj.trans av)))),(B5 _),E⟩
  refine By O (λz K k m=>?_)
  exact⟨_,_,k.sub (kp [3,2] O),m,af,Q,E⟩
 rintro z K ⟨fl,fm,k,m,y,ae,E⟩
 refine A6 ?_ k m
 clear k m K z
 rw[GI] at E
 refine AE (Cn (.inl O) y (Cq CQ y.1 O (a4.mono ae) H2 (λe=>by cases e) O λfn cp=>?_))
 have a9:=M.mono (x.trans ae)
 refine Cq CQ y.1 O a9 G6 (λe=>by cases e) O λfo cq=>?_
 obtain⟨fp,bp,E⟩:=bd E
 refine DW O O O nE O (λh' o=>Ps (St.all h') (cp.mono (o.all y.1)) (cq.mono (o.all y.1)) bp) λcr=>?_
 have fq:=cr
 refine AA O (CX O (CX O (A0 O (A0 O (B9 (kp [11,10,3] O) λfr Y ak=>AE (AI (AA O (CI O (AN (kp [148,10,3] O) (AY O E (λcs E=>?_) (λcs E=>?_)))))))))))
 ·refine AI (AM O (kp [4] O) (A5 (λz K k m=>?_)))
  cases E
  exact Em k m O O (e5.trans (u.trans (x.trans (ae.trans ak)))) ⟨O,Y⟩
 refine AS (AE (Cn (.inl O) Y ?_))
 have ba:=a9.mono ak
 refine A8 O ba KD Kl O λfs ct=>BF CQ Y.1 O ct CH O λft cu=>?_
 obtain⟨fu,bq,E⟩:=bd E
 refine DW O O O dV O (λh' o=>ME (St.all h') (cu.mono' (o.all Y.1)) (iq (n:=1152921504606846976) O) bq) λcv=>?_
 have fv:=cv
 refine AA O (CX O (CX O (A0 O (A0 O (B9 (kp [11,12,10,3] O) λfw ab aw=>AE (AI (AA O (CI O (AN (kp [156,12,10,3] O) (AY O E (λcw E=>?_) (λcw E=>?_)))))))))))
 ·refine AI (AM O (kp [4] O) (A5 (λz K k m=>?_)))
  cases E
  exact Em k m O O (e5.trans (u.trans (x.trans (ae.trans (ak.trans aw))))) ⟨O,ab⟩
 refine AS (AE (Cn (.inl O) ab (A8 O (ba.mono aw) LQ KO O λfx cx=>BF CQ ab.1 O cx CH O λfy cy=>AA O (A9 O (AA O (Dl O ?_))))))
 obtain⟨fz,br,E⟩:=bd E
 refine DW O O O dV O (λh' o=>ME (St.all h') (cy.mono' (o.all ab.1)) (B5 _) br) λcz=>?_
 have f0:=cz
 refine AA O (CX O (CX O (A0 O (B9 (kp [11] O) λf1 bs c0=>AI (AA O (AM O (kp [4] O) (A5 (λz K k m=>?_))))))))
 cases E
 exact Em k m O O (e5.trans (u.trans (x.trans (ae.trans (ak.trans (aw.trans c0)))))) ⟨O,bs⟩
def IH (o:St S L h) {a:Value}{c:(List BG)}(b:Sl S h Bz a c) {r:(List BG)}(E:Cy N c=some r):
 DK prog 56 #[a] S h (λv S' h'=>St S' (OS Bz 69 v r::L) h'):=by
 refine B0 (l:=[a]) 8 func56 O ntmps56 O λB=>?_
 rw[Cy] at E
 rcases b.cases with ⟨rfl,rfl⟩|⟨t,p,rfl,b⟩
 ·have x:(some ([]:List BG))=some r:=by simpa [chk,room] using E
  refine AI (AM O (kp [0] O) (AE (AI (AA O (Wt O O O Xu (AN (kp [4,0] O) (Zi O (AI (AM O (kp [2] O) (A5 (λu w d g=>?_)))))))))))
  have i:=o.nil Bz 69
  cases E
  exact Em d g O O (C9.refl S h) i
 refine AI (AM O (kp [0] O) (AE (AI (AA O (Zr O O O Xu (AN (kp [4,0] O) (Zj O (AS (WF.sl (Vd (r:=Bz) ZQ O O o λv1 y j s=>AF 1 (AA O (AD ?_))))))))))))
 obtain⟨k,E⟩:=LO E
 refine J3 (r:=Bz) (l:=([]:List BG)) (xs:=c) O O ZQ O (Sl.src (b.mono' s)) O k O j (λ_=> .head) λz A m n=>AF 1 (A0 O (AD (AZ (kp [2] O) (A5 (λu w d g=>?_)))))
 cases E
 exact Em d g O O (s.trans n) m
def Pu (hs:St S L h) {C:Value}{c:A7}(ao:Rd S h DE C c) {r:A7}(E:Jq N c=some r):
 DK prog 29 #[C] S h (λv S' h'=>∃w1 w2 w3 w4 w5 w6:Value,v= .agg #[vI r.D,w1,w2,w3,w4,w5,w6]∧AH r.D∧Sl S' h' BJ w3 r.M∧St S' (OO AJ 3 29 w1 r.F::OS AJ 3 w2 r.O::OS Bz 69 w4 r.P::OS AJ 3 w5 r.S::OS AJ 3 w6 r.U::L) h'):=by
 refine B0 (l:=[C]) 43 func29 O ntmps29 O λB=>?_
 rw[Jq] at E
 refine WF.sl ?_
 obtain⟨v3,v5,v7,v9,ae,ad,rfl,r2,k4,k6,k8,b1,b2,b3⟩:=DE.ex ao
 refine RE O O O hs λap cz bc a1=>Di N7 O bc λaq c0 au a2=>AZ (kp [2,1] O) (WF.sl (AF 3 (AG EF O (AT Bu au O (mt mh) O HO O (BE O (k4.mono' (a1.trans a2)) Fl O λc1=>AD ?_)))))
 obtain⟨be,E⟩:=LO E
 refine cE AJ 3 Ud O O be O O au λar a3 av bf=>AF 1 (A0 O (AD (AZ (kp [3,2,1] O) (AE (AI (AG EF O (AT Bu av O (mt (mt mh)) O HO O ?_)))))))
 have bg:=k4.mono' (a1.trans (a2.trans bf))
 refine BE O bg Fl O λc2=>AA O (AN (kp [13,12,11,3,2,1] O) (BH (λa w=>∃(y:List (List Int)),IV B S a3 (43,[]) a w [(3,ar),(2,vP aq 0),(1,vP ap 0)] (OO AJ 3 29 ar y::Bx aq 36 [vI 0,vN,vN,vN,vN,vN,vN]::Bx ap 36 [vI c.D,v3,v5,v7,v9,ae,ad]::L) λ_ _=>FT N c y=some r) ?_ ?_))
 ·refine BV (λn1=>λa w=>∃(Q:Int) (af:List (List Int)),IV B S a3 (43,[]) a w [(12,vI (↑c.F.length:Int)),(11,v3),(3,ar),(2,vP aq 0),(1,vP ap 0),(13,vI Q)] (OO AJ 3 29 ar af::Bx aq 36 [vI 0,vN,vN,vN,vN,vN,vN]::Bx ap 36 [vI c.D,v3,v5,v7,v9,ae,ad]::L) λ_ _=>AH Q∧FQ N c (FT N c) n1 Q af=some r) N ?_ ?_ ?_
  ·intro aa ww Z hw
   exact⟨0,(List.replicate ((↑c.F.length:Int):Int).toNat ([]:(List Int))),_,_,Z.sub (kp [12,11,3,2,1,13] O),hw,av,(C9.refl S a3),(iq (n:=0) O),E⟩
  ·rintro aa ww ⟨_,_,_,_,_,_,_,_,_,E⟩
   rw[FQ] at E;cases E
  rintro n1 aa ww ⟨Q,af,c3,c4,Z,hw,I,a4,c5,E⟩
  refine A6 ?_ Z hw
  clear Z hw ww aa
  rw[FQ] at E
  refine AI (BI O (AN (kp [14,12,11,3,2,1,13] O) (AE (AY O E (λb4 E=>?_) (λb4 E=>?_)))))
  ·refine AS (AE (BY (AI (AA O ?_))))
   obtain⟨c6,bh,E⟩:=bd E
   refine B1 O O (bg.mono' a4) Fl bh O λc7 b5=>BF Bu I.1 O b5 CH O λc8 b6=>A0 O (AM O (kp [5,4,12,11,3,2,1,13] O) (FG (AF 3 (AA O (AA O (AA O (AD ?_)))))))
   obtain⟨b7,bi,E⟩:=bd E
   refine CG O O O Q8 O I (EC (St.all _) (b6.mono (λb hb=>I.1 b hb) (λ_ _=>rfl)) bi) λc9 da db cj b8 b9 p=>?_
   have bj:=p
   have ag:=I.join b9 bj ⟨OS.flat (λ{_ _ _ _ _ _} k=>k),trivial⟩
   simp only[rW,rQ] at ag
   refine AF 1 ?_
   obtain⟨dc,bk,E⟩:=bd E
   refine O9 (r:=AJ) ag (mt mh) O O Fl bk O λdd bl=>AD ?_
   obtain⟨de,bm,E⟩:=bd E
   refine Wx (r:=AJ) (i:=Q) O O bl bm CH ag λdf bn ca=>AZ (kp [12,11,3,2,1,13] O) (B7 (CL (.inl O) (A9 O (AA O (AN (kp [13,12,11,3,2,1] O) (WF.nil (λaa ww Z hw=>?_)))))))
   exact⟨(Bw (Q+1)),(upd af Q b7),_,_,Z.sub (kp [12,11,3,2,1,13] O),hw,bn,(a4.trans (b8.trans ca)),(B5 _),E⟩
  refine By O (λaa ww Z hw=>?_)
  exact⟨af,_,_,Z.sub (kp [3,2,1] O),hw,I,a4,E⟩
 rintro aa ww ⟨y,dg,dh,Z,hw,aw,cb,E⟩
 refine A6 ?_ Z hw
 clear Z hw ww aa
 rw[FT] at E
 refine WF.sl (AF 2 (AA O (AG EF O (AD ?_))))
 obtain⟨s,d,rfl,di⟩:=aw.oolen mh
 refine Iq (vs:=[(.slice s y.length d)]) (cs':=[vI c.D,(.slice s y.length d),v5,v7,v9,ae,ad]) O O O O HO O aw (.tail (.tail .head)) O O λdj ab cc=>AZ (kp [2,1] O) (WF.sl (AF 2 (AG Kn O (AT Bu ab O (mt (mt mh)) O CH O (AD ?_)))))
 have ax:=a1.trans (a2.trans (bf.trans (cb.trans cc)))
 obtain⟨J,bo,E⟩:=bd E
 refine CG O O O Q8 O ab (EC (St.all _) ((k6.mono' ax).mono (λb hb=>ab.1 b hb) (λ_ _=>rfl)) bo) λdk dl dm ck cd ce p=>?_
 have bp:=p
 have ah:=ab.join ce bp ⟨OS.flat (λ{_ _ _ _ _ _} k=>k),trivial⟩
 simp only[rW,rQ] at ah
 refine AF 1 (AG Kn O (AD ?_))
 obtain⟨x,j,rfl,dn⟩:=ah.oslen mh
 refine Iq (vs:=[(.slice x J.length j)]) (cs':=[vI c.D,(.slice s y.length d),(.slice x J.length j),v7,v9,ae,ad]) O O O O CH O ah (.tail (.tail (.tail .head))) O O λdp ac cf=>AZ (kp [2,1] O) (WF.sl (AF 2 (AG Iv O (AT Bu ac O (mt (mt (mt mh))) O LW O (AD ?_)))))
 have ay:=ax.trans (cd.trans cf)
 obtain⟨V,bq,E⟩:=bd E
 refine CG O O O mQ O ac (IH (St.all _) ((b1.mono' ay).mono (λb hb=>ac.1 b hb) (λ_ _=>rfl)) bq) λdq dr cl cg br bs p=>?_
 have a5:=p
 have W:=ac.join bs a5 ⟨OS.flat (λ{_ _ _ _ _ _} k=>k),trivial⟩
 simp only[rW,rQ] at W
 refine AF 1 (AG Iv O (AD ?_))
 obtain⟨o,g,rfl,cm⟩:=W.oslen mh
 refine Iq (vs:=[(.slice o V.length g)]) (cs':=[vI c.D,(.slice s y.length d),(.slice x J.length j),v7,(.slice o V.length g),ae,ad]) O O O O LW O W (.tail (.tail (.tail (.tail .head)))) O O λcn G bt=>AZ (kp [2,1] O) (WF.sl (AF 2 (AG Kl O (AT Bu G O (mt (mt (mt (mt mh)))) O CH O (AD ?_)))))
 have ai:=ay.trans (br.trans bt)
 obtain⟨A,a6,E⟩:=bd E
 refine CG O O O Q8 O G (EC (St.all _) ((b2.mono' ai).mono (λb hb=>G.1 b hb) (λ_ _=>rfl)) a6) λco cp cq ch bu bv p=>?_
 have a7:=p
 have X:=G.join bv a7 ⟨OS.flat (λ{_ _ _ _ _ _} k=>k),trivial⟩
 simp only[rW,rQ] at X
 refine AF 1 (AG Kl O (AD ?_))
 obtain⟨u,m,rfl,cr⟩:=X.oslen mh
 refine Iq (vs:=[(.slice u A.length m)]) (cs':=[vI c.D,(.slice s y.length d),(.slice x J.length j),v7,(.slice o V.length g),(.slice u A.length m),ad]) O O O O CH O X (.tail (.tail (.tail (.tail (.tail .head))))) O O λcs H bw=>AZ (kp [2,1] O) (WF.sl (AF 2 (AG KO O (AT Bu H O (mt (mt (mt (mt (mt mh))))) O CH O (AD ?_)))))
 have aj:=ai.trans (bu.trans bw)
 obtain⟨K,a8,E⟩:=bd E
 refine CG O O O Q8 O H (EC (St.all _) ((b3.mono' aj).mono (λb hb=>H.1 b hb) (λ_ _=>rfl)) a8) λct cu cv ci bx bz p=>?_
 have a9:=p
 have Y:=H.join bz a9 ⟨OS.flat (λ{_ _ _ _ _ _} k=>k),trivial⟩
 simp only[rW,rQ] at Y
 refine AF 1 (AG KO O (AD ?_))
 obtain⟨z,t,rfl,cw⟩:=Y.oslen mh
 refine Iq (vs:=[(.slice z K.length t)]) (cs':=[vI c.D,(.slice s y.length d),(.slice x J.length j),v7,(.slice o V.length g),(.slice u A.length m),(.slice z K.length t)]) O O O O CH O Y (.tail (.tail (.tail (.tail (.tail (.tail .head)))))) O O λcx ak b0=>AZ (kp [2,1] O) (WF.sl (AF 1 (ES (vs:=[vI c.D,(.slice s y.length d),(.slice x J.length j),v7,(.slice o V.length g),(.slice u A.length m),(.slice z K.length t)]) Bu ak O (mt (mt (mt (mt (mt (mt mh)))))) O O G6 O O (AD ?_))))
 have am:=aj.trans (bx.trans b0)
 have az:=k8.mono' am
 refine Ht (vs:=[vI c.D,(.slice s y.length d),(.slice x J.length j),v7,(.slice o V.length g),(.slice u A.length m),(.slice z K.length t)]) (cs':=[vI c.D,(.slice s y.length d),(.slice x J.length j),v7,(.slice o V.length g),(.slice u A.length m),(.slice z K.length t)]) O O O (AC O (AC O (AC O (AC az.one (AC O (AC O (AC O Es))))))) G6 O ak (.tail (.tail (.tail (.tail (.tail .head))))) O O λcy ba a0=>AZ (kp [2] O) (A5 (λaa ww Z hw=>?_))
 have an:=ba.sel [4,3,2,1,0,0] 1 O
 have bb:=an.drop (.tail (.tail (.tail (.tail (.tail .head)))))
 cases E
 exact K5 Z O hw (JD (Zw Z hw an O (mt (mt (mt (mt (mt mh))))) G6 O) K4) O (am.trans a0) ⟨_,_,_,_,_,_,O,r2,(az.mono' a0),bb⟩
def Qu (hs:St S L h) {i:Value}{n:BL}(u:Rd S h Ct i n) {j:Value}{b:BG}(x:Rd S h Bz j b) {c:Int}(G:AH c) {r:BG}(E:Ho N n b c=some r):
 DK prog 21 #[i,j,vI c] S h (λv S' h'=>v= .agg #[vI r.W,vI r.Z,.bool r.Az,.bool r.Ao]∧BG.ok r∧St S' (L) h'):=by
 refine B0 (l:=[i,j,vI c]) 24 func21 O ntmps21 O λB=>?_
 rw[Ho] at E
 refine WF.sl (C3 O u (λe=>by cases e) O hs λq1 S2 h3 Y e5 k6=>?_)
 obtain⟨rfl,⟨r9,ab⟩⟩:=Bz.ex (x.mono e5)
 refine RE O O O Y λy ao I J=>Di Tj O I λz A k K=>AZ (kp [6,4,3,2] O) (AE (AI (AA O (AN (kp [7,6,4,3,2] O) (BH (λa w=>∃(o:Bool) (p:Bool),IV B S2 A (24,[]) a w [(6,vP z 0),(4,vP y 0)] (Bx z 69 [vI 0,vI 0,.bool false,.bool false]::Bx y 69 [vI b.W,vI b.Z,.bool o,.bool p]::L) λ_ _=>GK N b o p=some r) ?_ ?_)))))
 ·refine AI (B6 O (AM O (kp [8,7,6,4,3,2] O) (AY O E (λac E=>?_) (λac E=>?_))))
  ·refine FG (AF 1 (AG TA O (AD (Iq (vs:=[.bool true]) (cs':=[vI b.W,vI b.Z,.bool true,.bool b.Ao]) O O O O Pr O k (.tail .head) O O λap M ad=>AZ (kp [6,4] O) (WF.nil (λs t d g=>?_))))))
   exact⟨true,b.Ao,_,_,d.sub (kp [6,4] O),g,M,ad,E⟩
  refine AI (B6 O (AM O (kp [11,7,6,4,3,2] O) (AY O E (λae E=>?_) (λae E=>?_))))
  ·refine FG (AF 1 (AG TA O (AD (Iq (vs:=[.bool false]) (cs':=[vI b.W,vI b.Z,.bool false,.bool b.Ao]) O O O O Pr O k (.tail .head) O O λaq Q af=>AZ (kp [6,4] O) (WF.nil (λs t d g=>?_))))))
   exact⟨false,b.Ao,_,_,d.sub (kp [6,4] O),g,Q,af,E⟩
  refine AE (AI (B6 O (AM O (kp [14,7,6,4,3,2] O) (He (λa w=>∃(H:Bool),IV B S2 A (24,[]) a w [(6,vP z 0),(4,vP y 0),(3,q1),(2,vI c),(14,.bool H)] (Bx z 69 [vI 0,vI 0,.bool false,.bool false]::Bx y 69 [vI b.W,vI b.Z,.bool b.Az,.bool b.Ao]::L) λ_ _=>Gv N n b c (GK N b) H=some r) ?_ ?_))))
  ·refine AY O E (λag E=>?_) (λag E=>?_)
   ·refine AS (WF.nil (λs t d g=>?_))
    exact⟨(decide (c=2)),_,_,d.sub (kp [6,4,3,2,14] O),g,k,(C9.refl S2 A),E⟩
   refine CL (.inl O) (B6 O (AM O (kp [14,6,4,3,2] O) (WF.nil (λs t d g=>?_))))
   exact⟨(decide (c=3)),_,_,d.sub (kp [6,4,3,2,14] O),g,k,(C9.refl S2 A),E⟩
  rintro s t ⟨H,ar,au,d,g,m,C,E⟩
  refine A6 ?_ d g
  clear d g t s
  rw[Gv] at E
  refine AY O E (λah E=>?_) (λah E=>?_)
  ·refine AI (A8 O (k6.mono (J.trans (K.trans C))) BL.f_Kind HA O λav ai=>BC Bu m.1 O ai BA O λaw=>B6 O (AN (kp [19,6,4,2] O) (AY O E (λaj E=>?_) (λaj E=>?_))))
   ·refine FG (AF 3 (AA O (B6 O (AG Ov O (AD (Iq (vs:=[.bool (decide (c=2))]) (cs':=[vI b.W,vI b.Z,.bool b.Az,.bool (decide (c=2))]) O O O O Pr O m (.tail .head) O O λax U ak=>AZ (kp [6,4] O) (WF.nil (λs t d g=>?_))))))))
    exact⟨b.Az,(decide (c=2)),_,_,d.sub (kp [6,4] O),g,U,(C.trans ak),E⟩
   refine AS (WF.nil (λs t d g=>?_))
   exact⟨b.Az,b.Ao,_,_,d.sub (kp [6,4] O),g,m,C,E⟩
  refine AS (WF.nil (λs t d g=>?_))
  exact⟨b.Az,b.Ao,_,_,d.sub (kp [6,4] O),g,m,C,E⟩
 rintro s t ⟨o,p,ay,az,d,g,D,am,E⟩
 refine A6 ?_ d g
 clear d g t s
 rw[GK] at E
 refine WF.sl (AF 1 (ES (vs:=[vI b.W,vI b.Z,.bool o,.bool p]) Bu D O (mt mh) O O H1 O O (AD (Ek (vs:=[vI b.W,vI b.Z,.bool o,.bool p]) O O O O H1 O D .head O λa0 V an=>AZ (kp [6] O) (A5 (λs t d g=>?_))))))
 have F:=V.drop (.tail .head)
 have X:=F.drop .head
 cases E
 exact K5 d O g (JD (Zw d g F O mh H1 O) K4) O (e5.trans (J.trans (K.trans (am.trans an)))) ⟨O,⟨r9,ab⟩,X⟩
def J0 (m:St S L h) {d:Int}(i:AH d) {b:Int}(g:AH b) {a:Int}(c:AH a) {r:Int}(E:Hs N d b a=some r):
 DK prog 45 #[vI d,vI b,vI a] S h (λv S' h'=>v=vI r∧AH r∧St S' (L) h'):=by
 refine B0 (l:=[vI d,vI b,vI a]) 16 func45 O ntmps45 O λB=>?_
 rw[Hs] at E
 refine AI (AM O (kp [0,1,2] O) (AE (AI (AA O (AA O (BI O (AN (kp [9,0,1,2] O) (AY O E (λp E=>?_) (λp E=>?_)))))))))
 ·refine AI (AA O (AM O (kp [6] O) (A5 (λn o j k=>?_))))
  cases E
  exact Em j k O O (C9.refl S h) ⟨O,g,m⟩
 refine AS (AE (AI (AA O (AA O (CV O (AN (kp [13,0,2] O) (AY O E (λq E=>?_) (λq E=>?_))))))))
 ·refine AI (AA O (AM O (kp [6] O) (A5 (λn o j k=>?_))))
  cases E
  exact Em j k O O (C9.refl S h) ⟨O,c,m⟩
 refine AS (AI (AA O (AM O (kp [6] O) (A5 (λn o j k=>?_)))))
 cases E
 exact Em j k O O (C9.refl S h) ⟨O,i,m⟩
end Go.Proofs.YtblcgjadhemlbaaGreat
