import Derived.Test.YtblcgjadhemlbaaGreatWWalk3
namespace Go.Proofs.YtblcgjadhemlbaaGreat
set_option linter.all false
open Go.RowKit
open Go.Proofs.Tryz
set_option maxRecDepth 10000
set_option maxHeartbeats 2000000
variable {N:Nat}{S:Nat→Prop}{L:List HP}{h:BM}
def NU (hs:St S L h) {p:Value}{u:AU}(F:Rd S h C2 p u) {r:Bool}(E:EE N u=some r):
 DK prog 50 #[p] S h (λv S' h'=>v= .bool r∧St S' (L) h'):=by
 refine B0 (l:=[p]) 51 func50 O ntmps50 O λB=>?_
 rw[EE] at E
 refine WF.sl (C3 O F (λe=>by cases e) O hs λq1 S2 h3 ah e5 k6=>AF 1 (A0 O (AD (AZ (kp [1] O) (AE (AI (A8 O k6 Er Hn O λq7 k8=>BF Bu ah.1 O k8 KF O λv9 ai=>BE O ai Ie O λbt=>AA O (AN (kp [8,7,6,1] O) (BH (λa w=>IV B S2 h3 (51,[]) a w [] (L) λ_ _=>DY N=some r) ?_ ?_)))))))))
 ·refine BV (λn1=>λa w=>∃(z:Int),IV B S2 h3 (51,[]) a w [(7,vI (↑u.E.length:Int)),(6,v9),(1,q1),(8,vI z)] (L) λ_ _=>AH z∧Cf N u (DY N) n1 z=some r) N ?_ ?_ ?_
  ·intro J K s t
   exact⟨0,_,_,s.sub (kp [7,6,1,8] O),t,ah,(C9.refl S2 h3),(iq (n:=0) O),E⟩
  ·rintro J K ⟨_,_,_,_,_,_,_,_,E⟩
   rw[Cf] at E;cases E
  rintro n1 J K ⟨z,bu,bv,s,t,A,y,bw,E⟩
  refine A6 ?_ s t
  clear s t K J
  rw[Cf] at E
  refine AI (BI O (AN (kp [9,7,6,1,8] O) (AE (AY O E (λbh E=>?_) (λbh E=>?_)))))
  ·refine AS (AE (BY (WF.sl (AF 2 ?_))))
   obtain⟨b,aj,E⟩:=bd E
   refine B1 O O (ai.mono' y) Ie aj O λbx bi=>Cq Bu A.1 O bi IM (λe=>by cases e) O λbz bj=>AD (Di OX O A λb0 b1 ak D=>?_)
   obtain⟨M,Q,U,rfl,am,X,V,Y,Z,ab,ac,an,ao,ap,aq,ar,au,av,aw,ax,ay,ad⟩:=Ct.ex (bj.mono D)
   refine Ht (vs:=[.string b.H,vI b.B,vI b.G,vI b.C,M,Q,U,vI b.R,vI b.Ab,vI b.Aj,vI b.Al,vI b.L,vI b.I,vI b.Ah,vI b.Ai,vI b.Ac,vI b.Aa,vI b.N]) (cs':=[.string b.H,vI b.B,vI b.G,vI b.C,M,Q,U,vI b.R,vI b.Ab,vI b.Aj,vI b.Al,vI b.L,vI b.I,vI b.Ah,vI b.Ai,vI b.Ac,vI b.Aa,vI b.N]) O O O (AC O (AC O (AC O (AC O (AC Z.one (AC ab.one (AC ac.one (AC O (AC O (AC O (AC O (AC O (AC O (AC O (AC O (AC O (AC O (AC O Es)))))))))))))))))) IM O ak .head O O λb2 c m=>AZ (kp [4,7,6,1,8] O) (AE (Cn (.inl O) c (AG HA O (AT CQ c O mh O BA O ?_))))
   obtain⟨bk,az,E⟩:=bd E
   refine BU O O O Ip O (λh' o=>Cm (St.all h') X (iq (n:=0) O) (iq (n:=5) O) az) (CI O (AA O ?_))
   obtain⟨a0,d,E⟩:=bd E
   refine AW 8 24 (.bool a0) ?_ ?_
   ·cases a1:(!bk)
    ·have d:=Hj a1 d
     refine AB O (AG Jb O (AB O (AT CQ c O mh O BA O (AB O (A8 O (k6.mono (y.trans (D.trans m))) B8 D1 O λb3 bl=>AB O (BF CQ c.1 O bl G7 O λb4 bm=>AB O (BE O bm GL O λbn=>AB O ?_)))))))
     obtain⟨b5,a2,d⟩:=bd d
     refine BU O O O Q5 O (λh' o=>Hd (St.all h') V (KY bn) a2) (AB O (CI O (AL O ?_)))
     cases d
     exact AV O
    have d:=Hi a1 d
    cases d
    exact A4 O O
   refine AA O ?_
   obtain⟨a3,g,E⟩:=bd E
   refine AW 8 33 (.bool a3) ?_ ?_
   ·cases a4:a0
    ·have g:=Hj a4 g
     refine AB O (Cq CQ c.1 O (k6.mono (y.trans (D.trans m))) H2 (λe=>by cases e) O λb6 bo=>AB O (AG Jb O (AB O (AT CQ c O mh O BA O (AB O (AG Ia O (AB O (AT CQ c O mh O BA O (AB O ?_)))))))))
     obtain⟨b7,a5,g⟩:=bd g
     refine BU O O O dT O (λh' o=>MR (St.all h') (bo.mono (o.all c.1)) V Y a5) (AB O (CI O (AL O ?_)))
     cases g
     exact AV O
    have g:=Hi a4 g
    cases g
    exact A4 O O
   refine AA O ?_
   obtain⟨a6,i,E⟩:=bd E
   refine AW 5 39 (.bool a6) ?_ ?_
   ·cases a7:a3
    ·have i:=Hj a7 i
     refine AB O (AG Ox O (AB O (AT CQ c O mh O BA O (AB O ?_))))
     obtain⟨b8,a8,i⟩:=bd i
     refine BU O O O Ip O (λh' o=>Cm (St.all h') ad (iq (n:=0) O) (iq (n:=240) O) a8) (AB O (CI O (AL O ?_)))
     cases i
     exact AV O
    have i:=Hi a7 i
    cases i
    exact A4 O O
   refine AA O ?_
   obtain⟨a9,j,E⟩:=bd E
   refine AW 4 44 (.bool a9) ?_ ?_
   ·cases ba:a6
    ·have j:=Hj ba j
     refine AB O (ES (vs:=[.string b.H,vI b.B,vI b.G,vI b.C,M,Q,U,vI b.R,vI b.Ab,vI b.Aj,vI b.Al,vI b.L,vI b.I,vI b.Ah,vI b.Ai,vI b.Ac,vI b.Aa,vI b.N]) CQ c O mh O O IM O O (AB O ?_))
     obtain⟨b9,bb,j⟩:=bd j
     refine BU O O O mI O (λh' o=>M2 (St.all h') (Ct.mk (x:=b) am X V Y ((Z.mono' m).mono' (o.all c.1)) ((ab.mono' m).mono' (o.all c.1)) ((ac.mono' m).mono' (o.all c.1)) an ao ap aq ar au av aw ax ay ad) bb) (AB O (CI O (AL O ?_)))
     cases j
     exact AV O
    have j:=Hi ba j
    cases j
    exact A4 O O
   refine AA O ?_
   obtain⟨bp,k,E⟩:=bd E
   refine AW 4 49 (.bool bp) ?_ ?_
   ·cases bc:a9
    ·have k:=Hj bc k
     refine AB O (ES (vs:=[.string b.H,vI b.B,vI b.G,vI b.C,M,Q,U,vI b.R,vI b.Ab,vI b.Aj,vI b.Al,vI b.L,vI b.I,vI b.Ah,vI b.Ai,vI b.Ac,vI b.Aa,vI b.N]) CQ c O mh O O IM O O (AB O ?_))
     obtain⟨ca,be,k⟩:=bd k
     refine BU O O O mH O (λh' o=>My (St.all h') (Ct.mk (x:=b) am X V Y ((Z.mono' m).mono' (o.all c.1)) ((ab.mono' m).mono' (o.all c.1)) ((ac.mono' m).mono' (o.all c.1)) an ao ap aq ar au av aw ax ay ad) be) (AB O (CI O (AL O ?_)))
     cases k
     exact AV O
    have k:=Hi bc k
    cases k
    exact A4 O O
   refine B9 (kp [49,7,6,1,8] O) λcb W bf=>AY O E (λbq E=>?_) (λbq E=>?_)
   ·refine AI (AM O (kp [2] O) (A5 (λJ K s t=>?_)))
    have ae:=W.drop .head
    cases E
    exact Em s t O O (e5.trans (y.trans (D.trans (m.trans bf)))) ⟨O,ae⟩
   refine AS (B7 (CL (.inl O) (A9 O (AA O (AN (kp [8,7,6,1] O) (WF.nil (λJ K s t=>?_)))))))
   have af:=W.drop .head
   exact⟨(Bw (z+1)),_,_,s.sub (kp [7,6,1,8] O),t,af,(y.trans (D.trans (m.trans bf))),(B5 _),E⟩
  refine By O (λJ K s t=>?_)
  exact⟨_,_,s.sub Py,t,A,y,E⟩
 rintro J K ⟨br,bs,s,t,ag,bg,E⟩
 refine A6 ?_ s t
 clear s t K J
 rw[DY] at E
 refine AI (AM O (kp [2] O) (A5 (λJ K s t=>?_)))
 cases E
 exact Em s t O O (e5.trans bg) ⟨O,ag⟩
def NV (x:St S L h) {b:Value}{j:AU}(d:Rd S h C2 b j) {a:Int}(g:AH a) {c:Int}(m:AH c) {r:Bool}(E:Jf N j a c=some r):
 DK prog 78 #[b,vI a,vI c] S h (λv S' h'=>v= .bool r∧St S' (L) h'):=by
 refine B0 (l:=[b,vI a,vI c]) 27 func78 O ntmps78 O λB=>?_
 rw[Jf] at E
 refine WF.sl (C3 O d (λe=>by cases e) O x λK S2 M i w y=>AF 1 (A0 O (AD (AZ (kp [3,1,2] O) (AE (AI (AA O (B6 O (AN (kp [9,3,1,2] O) (AY O E (λz E=>?_) (λz E=>?_)))))))))))
 ·refine AI (AA O (B6 O (AM O (kp [6] O) (A5 (λA C o p=>?_)))))
  cases E
  exact Em o p O O w ⟨O,i⟩
 refine AS (AI (A8 O y B8 D1 O λQ D=>BF Bu i.1 O D G7 O λF s=>AA O ?_))
 obtain⟨k,n,E⟩:=bd E
 refine B1 O O s GL n O λG t=>A8 O t JA Mf O λH u=>BC Bu i.1 O u BA O λI=>AM O (kp [7,1] O) (AI (AA O (AA O (B6 O (AA O (AW 5 26 (.bool ((decide (k.As=a))||(decide (k.As=(Bw (a+1)))))) ?_ ?_))))))
 ·cases J:(decide (k.As=a))
  ·exact AB O (AA O (AB O (AA O (AB O (A9 O (AB O (B6 O (AL O (AV O)))))))))
  exact A4 O O
 refine AM O (kp [6] O) (A5 (λA C o p=>?_))
 cases E
 exact Em o p O O w ⟨O,i⟩
def Mk (hs:St S L h) {p:Value}{m:AU}(U:Rd S h C2 p m) {r:Bool}(E:HK N m=some r):
 DK prog 51 #[p] S h (λv S' h'=>v= .bool r∧St S' (L) h'):=by
 refine B0 (l:=[p]) 60 func51 O ntmps51 O λB=>?_
 rw[HK] at E
 refine WF.sl (C3 O U (λe=>by cases e) O hs λq1 S2 h3 ar e5 k6=>AF 1 (A0 O (AD (AZ (kp [1] O) (AE (AI (A8 O k6 B8 D1 O λq7 k8=>BF Bu ar.1 O k8 G7 O λv9 au=>BE O au GL O λcz=>AA O (AN (kp [11,10,9,1] O) (BH (λa w=>IV B S2 h3 (60,[]) a w [(1,q1)] (L) λ_ _=>Dx N m=some r) ?_ ?_)))))))))
 ·refine BV (λn1=>λa w=>∃(x:Int),IV B S2 h3 (60,[]) a w [(10,vI (↑m.A.length:Int)),(9,v9),(1,q1),(11,vI x)] (L) λ_ _=>AH x∧Dw N m (Dx N m) n1 x=some r) N ?_ ?_ ?_
  ·intro s t j k
   exact⟨0,_,_,j.sub (kp [10,9,1,11] O),k,ar,(C9.refl S2 h3),(iq (n:=0) O),E⟩
  ·rintro s t ⟨_,_,_,_,_,_,_,_,E⟩
   rw[Dw] at E;cases E
  rintro n1 s t ⟨x,c0,c1,j,k,y,z,c2,E⟩
  refine A6 ?_ j k
  clear j k t s
  rw[Dw] at E
  refine AI (BI O (AN (kp [12,10,9,1,11] O) (AE (AY O E (λbr E=>?_) (λbr E=>?_)))))
  ·refine AS (AE (BY (WF.sl (AF 2 ?_))))
   obtain⟨d,av,E⟩:=bd E
   refine B1 O O (au.mono' z) GL av O λc3 bs=>Cq Bu y.1 O bs Kt (λe=>by cases e) O λc4 bt=>AD (Di Pb O y λc5 c6 aw V=>?_)
   obtain⟨ax,ay,az,rfl,c7,c8,bu,c9,bv,bw,da,db,bx,dc,dd,bz⟩:=Cw.ex (bt.mono V)
   refine Ht (vs:=[.string d.H,vI d.B,vI d.As,vI d.Ae,ax,ay,vI d.L,vI d.I,vI d.Aq,vI d.N,vI d.Bc,az]) (cs':=[.string d.H,vI d.B,vI d.As,vI d.Ae,ax,ay,vI d.L,vI d.I,vI d.Aq,vI d.N,vI d.Bc,az]) O O O (AC O (AC O (AC O (AC O (AC bv.one (AC bw.one (AC O (AC O (AC O (AC O (AC O (AC bz.one Es)))))))))))) Kt O aw .head O O λde u ag=>AZ (kp [4,10,9,1,11] O) (AE (Cn (.inl O) u (Cq CQ u.1 O (k6.mono (z.trans (V.trans ag))) H2 (λe=>by cases e) O λdf b0=>AG Mf O (AT CQ u O mh O BA O (AG QQ O (AT CQ u O mh O BA O ?_))))))
   obtain⟨dg,a0,E⟩:=bd E
   refine BU O O O dS O (λh' o=>NV (St.all h') (b0.mono (o.all u.1)) bu bx a0) (CI O (B9 (kp [21,10,9,1,11] O) λdh X a1=>AY O E (λb1 E=>?_) (λb1 E=>?_)))
   ·refine AI (AM O (kp [2] O) (A5 (λs t j k=>?_)))
    have a2:=X.drop .head
    cases E
    exact Em j k O O (e5.trans (z.trans (V.trans (ag.trans a1)))) ⟨O,a2⟩
   refine AS (B7 (CL (.inl O) (A9 O (AA O (AN (kp [11,10,9,1] O) (WF.nil (λs t j k=>?_)))))))
   have a3:=X.drop .head
   exact⟨(Bw (x+1)),_,_,j.sub (kp [10,9,1,11] O),k,a3,(z.trans (V.trans (ag.trans a1))),(B5 _),E⟩
  refine By O (λs t j k=>?_)
  exact⟨_,_,j.sub (kp [1] O),k,y,z,E⟩
 rintro s t ⟨ah,ai,j,k,Y,aj,E⟩
 refine A6 ?_ j k
 clear j k t s
 rw[Dx] at E
 refine AE (AI ?_)
 have a4:=k6.mono aj
 refine A8 O a4 Er Hn O λdi b2=>BF Bu Y.1 O b2 KF O λb3 a5=>BE O a5 Ie O λdj=>AA O (AN (kp [26,25,24,1] O) (BH (λa w=>IV B ah ai (60,[]) a w [] (L) λ_ _=>E9 N=some r) ?_ ?_))
 ·refine BV (λn3=>λa w=>∃(D:Int),IV B ah ai (60,[]) a w [(25,vI (↑m.E.length:Int)),(24,b3),(1,q1),(26,vI D)] (L) λ_ _=>AH D∧Dv N m (E9 N) n3 D=some r) N ?_ ?_ ?_
  ·intro s t j k
   exact⟨0,_,_,j.sub (kp [25,24,1,26] O),k,Y,(C9.refl ah ai),(iq (n:=0) O),E⟩
  ·rintro s t ⟨_,_,_,_,_,_,_,_,E⟩
   rw[Dv] at E;cases E
  rintro n3 s t ⟨D,dk,dl,j,k,F,J,dm,E⟩
  refine A6 ?_ j k
  clear j k t s
  rw[Dv] at E
  refine AI (BI O (AN (kp [27,25,24,1,26] O) (AE (AY O E (λb4 E=>?_) (λb4 E=>?_)))))
  ·refine AS (AE (BY (WF.sl (AF 2 ?_))))
   obtain⟨b,a6,E⟩:=bd E
   refine B1 O O (a5.mono' J) Ie a6 O λdn b5=>Cq Bu F.1 O b5 IM (λe=>by cases e) O λdp b6=>AD (Di OX O F λdq dr a7 W=>?_)
   obtain⟨Z,ab,ac,rfl,ds,dt,du,b7,a8,a9,ba,b8,b9,ca,cb,cc,cd,ce,cf,cg,ch,ci⟩:=Ct.ex (b6.mono W)
   refine Ht (vs:=[.string b.H,vI b.B,vI b.G,vI b.C,Z,ab,ac,vI b.R,vI b.Ab,vI b.Aj,vI b.Al,vI b.L,vI b.I,vI b.Ah,vI b.Ai,vI b.Ac,vI b.Aa,vI b.N]) (cs':=[.string b.H,vI b.B,vI b.G,vI b.C,Z,ab,ac,vI b.R,vI b.Ab,vI b.Aj,vI b.Al,vI b.L,vI b.I,vI b.Ah,vI b.Ai,vI b.Ac,vI b.Aa,vI b.N]) O O O (AC O (AC O (AC O (AC O (AC a8.one (AC a9.one (AC ba.one (AC O (AC O (AC O (AC O (AC O (AC O (AC O (AC O (AC O (AC O (AC O Es)))))))))))))))))) IM O a7 .head O O λcj c K=>AZ (kp [6,25,24,1,26] O) (AI ?_)
   have M:=a4.mono (J.trans (W.trans K))
   refine A8 O M B8 D1 O λck bb=>BF Bu c.1 O bb G7 O λcl bc=>AG Jb O (AT Bu c O mh O BA O ?_)
   obtain⟨cm,ak,E⟩:=bd E
   refine B1 O O bc GL ak O λcn be=>A8 O be JA Mf O λco bf=>BC Bu c.1 O bf BA O λbg=>AM O (kp [7,6,25,24,1,26] O) (AE (Cn (.inl O) c (Cq CQ c.1 O M H2 (λe=>by cases e) O λcp bh=>AA O (AG Ia O (AT CQ c O mh O BA O ?_)))))
   obtain⟨bi,am,E⟩:=bd E
   refine BU O O O dS O (λh' o=>NV (St.all h') (bh.mono (o.all c.1)) bg b7 am) (CI O (AA O ?_))
   obtain⟨bj,g,E⟩:=bd E
   refine AW 15 58 (.bool bj) ?_ ?_
   ·cases ad:(!bi)
    ·have g:=Hj ad g
     refine AB O (AG HA O (AB O (AT CQ c O mh O BA O (AB O (B6 O (AB O (AA O ?_)))))))
     obtain⟨bk,i,g⟩:=bd g
     refine AW 10 57 (.bool bk) ?_ ?_
     ·cases ae:(decide (b.B=4))
      ·have i:=Hj ae i
       cases i
       exact A4 O O
      have i:=Hi ae i
      refine AB O (A8 O M B8 D1 O λcq bl=>AB O (BF CQ c.1 O bl G7 O λcr bm=>AB O (AG Ia O (AB O (AT CQ c O mh O BA O (AB O ?_))))))
      obtain⟨cs,an,i⟩:=bd i
      refine B1 O O bm GL an O λct bn=>AB O (A8 O bn JA Mf O λcu bo=>AB O (BC CQ c.1 O bo BA O λcv=>AB O (AA O (AB O (Cg O (AB O (AL O ?_)))))))
      cases i
      exact AV O
     refine AL O ?_
     cases g
     exact AV O
    have g:=Hi ad g
    cases g
    exact A4 O O
   refine B9 (kp [58,25,24,1,26] O) λcw Q af=>AY O E (λbp E=>?_) (λbp E=>?_)
   ·refine AI (AM O (kp [2] O) (A5 (λs t j k=>?_)))
    have ao:=Q.drop .head
    cases E
    exact Em j k O O (e5.trans (aj.trans (J.trans (W.trans (K.trans af))))) ⟨O,ao⟩
   refine AS (B7 (CL (.inl O) (A9 O (AA O (AN (kp [26,25,24,1] O) (WF.nil (λs t j k=>?_)))))))
   have ap:=Q.drop .head
   exact⟨(Bw (D+1)),_,_,j.sub (kp [25,24,1,26] O),k,ap,(J.trans (W.trans (K.trans af))),(B5 _),E⟩
  refine By O (λs t j k=>?_)
  exact⟨_,_,j.sub Py,k,F,J,E⟩
 rintro s t ⟨cx,cy,j,k,aq,bq,E⟩
 refine A6 ?_ j k
 clear j k t s
 rw[E9] at E
 refine AI (AM O (kp [2] O) (A5 (λs t j k=>?_)))
 cases E
 exact Em j k O O (e5.trans (aj.trans bq)) ⟨O,aq⟩
def IK (A:St S L h) {b:Int}(q:AH b) {c:Int}(s:AH c) {r:Int}(E:ET N b c=some r):
 DK prog 79 #[vI b,vI c] S h (λv S' h'=>v=vI r∧AH r∧St S' (L) h'):=by
 refine B0 (l:=[vI b,vI c]) 34 func79 O ntmps79 O λB=>?_
 rw[ET] at E
 refine AI (AM O (kp [0,1] O) (AE (AI (AA O (B6 O (AN (kp [10,0,1] O) (AY O E (λK E=>?_) (λK E=>?_))))))))
 ·refine AI (AM O (kp [4] O) (A5 (λt u g i=>?_)))
  cases E
  exact Em g i O O (C9.refl S h) ⟨O,(iq (n:=0) O),A⟩
 refine AS (AE (AI (AA O (AA O (CV O (AN (kp [13,0,1] O) (AY O E (λM E=>?_) (λM E=>?_))))))))
 ·refine AI (AM O (kp [4] O) (A5 (λt u g i=>?_)))
  cases E
  exact Em g i O O (C9.refl S h) ⟨O,(iq (n:=1099511627777) O),A⟩
 refine AS (AE (Cn (.inl O) A (AA O (IU O PI L4 O ?_))))
 obtain⟨z,C,E⟩:=bd E
 refine I8 (v:= .tuple #[.int .u64 z.1,.int .u64 z.2]) (Ψ:=IntKind.has .u64 z.1∧IntKind.has .u64 z.2) O O O dN O (λh' o=>(LC (St.all h') (E5 _ _) (show IntKind.has .u64 1099511627776 by first|assumption|exact⟨by decide,by decide⟩) C).mono λ_ _ _ _ p=>⟨p.1,⟨p.2.1,p.2.2.1⟩⟩) λQ=>?_
 obtain⟨U,V⟩:=Q
 refine AA O (CX O (CX O (A0 O (A0 O (B9 (kp [6,5,1] O) λh7 D W=>AE (Cn (.inl O) D (AA O (AA O (AA O (IU O PI L4 O ?_))))))))))
 obtain⟨d,x,E⟩:=bd E
 refine I8 (v:= .tuple #[.int .u64 d.1,.int .u64 d.2]) (Ψ:=IntKind.has .u64 d.1∧IntKind.has .u64 d.2) O O O dM O (λh' o=>(LD (St.all h') U V (E5 _ _) x).mono λ_ _ _ _ p=>⟨p.1,⟨p.2.1,p.2.2.1⟩⟩) λF=>?_
 obtain⟨G,X⟩:=F
 refine AA O (CX O (CX O (A0 O (A0 O (B9 (kp [8,7] O) λm k H=>AE (AI (AA O (Cg O (AN (kp [29,7] O) (He (λa w=>∃(j:Int),IV B S m (34,[]) a w [(7,.int .u64 j)] (L) λ_ _=>IntKind.has .u64 j∧Hy N j=some r) ?_ ?_))))))))))
 ·refine AY O E (λI E=>?_) (λI E=>?_)
  ·refine CL (.inl O) (AA O (J2 O O O (AM O (kp [7] O) (WF.nil (λt u g i=>?_)))))
   exact⟨(IntKind.wrap .u64 (d.1+1)),_,_,g.sub (kp [7] O),i,k,(C9.refl S m),(E5 _ _),E⟩
  refine AS (WF.nil (λt u g i=>?_))
  exact⟨d.1,_,_,g.sub (kp [7] O),i,k,(C9.refl S m),G,E⟩
 rintro t u ⟨j,Y,Z,g,i,y,J,ab,E⟩
 refine A6 ?_ g i
 clear g i u t
 rw[Hy] at E
 refine AI (AA O (IU O L4 PI O (AM O (kp [4] O) (A5 (λt u g i=>?_)))))
 cases E
 exact Em g i O O (W.trans (H.trans J)) ⟨O,(B5 _),y⟩
def OL (hs:St S L h) {c:Value}{b:(List (List BS))}(d:Sl S h (BZ.sl Cp) c b) {r:Int}(E:Fa N b=some r):
 DK prog 80 #[c] S h (λv S' h'=>v=vI r∧AH r∧St S' (L) h'):=by
 refine B0 (l:=[c]) 48 func80 O ntmps80 O λB=>?_
 rw[Fa] at E
 refine AI (AM O (kp [0] O) (AI (AM O (kp [3,0] O) (AE (AI (AA O (BE O d YH O λb1=>AA O (AN (kp [9,8,7,3] O) (BH (λa w=>∃(W:Int),IV B S h (48,[]) a w [(3,vI W)] (L) λ_ _=>AH W∧Cs N W=some r) ?_ ?_)))))))))
 ·refine BV (λX=>λa w=>∃(D:Int) (k:Int),IV B S h (48,[]) a w [(8,vI (↑b.length:Int)),(7,c),(3,vI D),(9,vI k)] (L) λ_ _=>AH D∧AH k∧CU N b (Cs N) X D k=some r) N ?_ ?_ ?_
  ·intro m p g i
   exact⟨0,0,_,_,g.sub (kp [8,7,3,9] O),i,hs,(C9.refl S h),(iq (n:=0) O),(iq (n:=0) O),E⟩
  ·rintro m p ⟨_,_,_,_,_,_,_,_,_,_,E⟩
   rw[CU] at E;cases E
  rintro X m p ⟨D,k,z,A,g,i,t,C,r9,av,E⟩
  refine A6 ?_ g i
  clear g i p m
  rw[CU] at E
  refine AI (BI O (AN (kp [10,8,7,3,9] O) (AE (AY O E (λY E=>?_) (λY E=>?_)))))
  ·refine AS (AE (BH (λa w=>∃(u:Int),IV B z A (48,[]) a w [(8,vI (↑b.length:Int)),(7,c),(9,vI k),(3,vI u)] (L) λ_ _=>AH u∧DG N k (CU N b (Cs N) X) u=some r) ?_ ?_))
   ·refine AI ?_
    obtain⟨Z,F,E⟩:=bd E
    refine B1 O O (d.mono' C) YH F O λaw ab=>BF Bu t.1 O ab JK O λac x=>AM O (kp [5,8,7,3,9] O) (AI (AM O (kp [6,5,8,7,3,9] O) (BY (BV (λn3=>λa w=>∃(s:Int) (y:Int),IV B z A (48,[]) a w [(5,ac),(8,vI (↑b.length:Int)),(7,c),(9,vI k),(3,vI s),(6,vI y)] (L) λ_ _=>AH s∧AH y∧Cr N Z (DG N k (CU N b (Cs N) X)) n3 s y=some r) N ?_ ?_ ?_))))
    ·intro m p g i
     exact⟨D,1,_,_,g.sub (kp [5,8,7,9,3,6] O),i,t,(C9.refl z A),r9,(iq (n:=1) O),E⟩
    ·rintro m p ⟨_,_,_,_,_,_,_,_,_,_,E⟩
     rw[Cr] at E;cases E
    rintro n3 m p ⟨s,y,ax,ay,g,i,j,q,G,az,E⟩
    refine A6 ?_ g i
    clear g i p m
    rw[Cr] at E
    refine AE (AI (AA O (AA O (BE O (x.mono' q) I3 O λa0=>BI O (AN (kp [16,5,8,7,9,3,6] O) (AY O E (λad E=>?_) (λad E=>?_)))))))
    ·refine AS (AE (BY (Cn (.inr ⟨mo,by kernel_rfl⟩) j (AA O (AA O (AA O ?_))))))
     obtain⟨a1,H,E⟩:=bd E
     refine B1 O O (x.mono' q) I3 H O λa2 ae=>A8 O ae Li JG O λa3 af=>BC CQ j.1 O af BA O λa4=>AA O (AA O (Dl O ?_))
     obtain⟨a5,I,E⟩:=bd E
     refine B1 O O (x.mono' q) I3 I O λa6 ag=>A8 O ag Li JG O λa7 ah=>BC CQ j.1 O ah BA O λa8=>Dl O (AA O (AA O ?_))
     obtain⟨a9,J,E⟩:=bd E
     refine B1 O O (x.mono' q) I3 J O λba ai=>A8 O ai Lj Jw O λbb aj=>BC CQ j.1 O aj BA O λbc=>AA O (AA O (Dl O ?_))
     obtain⟨be,K,E⟩:=bd E
     refine B1 O O (x.mono' q) I3 K O λbf ak=>A8 O ak Lj Jw O λbg al=>BC CQ j.1 O al BA O λbh=>Dl O ?_
     obtain⟨am,M,E⟩:=bd E
     refine DW O O O SJ O (λh' o=>IK (St.all h') (B5 _) (B5 _) M) λan=>?_
     have ao:=an
     refine PY O O O (A0 O (B9 (kp [3,5,8,7,9,6] O) λbi Q ap=>B7 (CL (.inl O) (AA O (A9 O (AM O (kp [6,3,5,8,7,9] O) (WF.nil (λm p g i=>?_))))))))
     exact⟨(max s am),(Bw (y+1)),_,_,g.sub (kp [5,8,7,9,3,6] O),i,Q,(q.trans ap),(PR G ao),(B5 _),E⟩
    refine Lh O (WF.nil (λm p g i=>?_))
    exact⟨s,_,_,g.sub (kp [8,7,9,3] O),i,j,q,G,E⟩
   rintro m p ⟨u,bj,bk,g,i,U,aq,ar,E⟩
   refine A6 ?_ g i
   clear g i p m
   rw[DG] at E
   refine CL (.inl O) (A9 O (AA O (AN (kp [9,8,7,3] O) (WF.nil (λm p g i=>?_)))))
   exact⟨u,(Bw (k+1)),_,_,g.sub (kp [8,7,3,9] O),i,U,(C.trans aq),ar,(B5 _),E⟩
  refine By O (λm p g i=>?_)
  exact⟨D,_,_,g.sub (kp [3] O),i,t,C,r9,E⟩
 rintro m p ⟨W,bl,bm,g,i,V,au,r3,E⟩
 refine A6 ?_ g i
 clear g i p m
 rw[Cs] at E
 refine AI (AA O (AM O (kp [2] O) (A5 (λm p g i=>?_))))
 cases E
 exact Em g i O O au ⟨O,r3,V⟩
def Mz (hs:St S L h) {ah:Value}{s:AU}(bc:Rd S h C2 ah s) {r:Bool}(E:Ev N s=some r):
 DK prog 52 #[ah] S h (λv S' h'=>v= .bool r∧St S' (L) h'):=by
 refine B0 (l:=[ah]) 128 func52 O ntmps52 O λB=>?_
 rw[Ev] at E
 refine WF.sl (C3 O bc (λe=>by cases e) O hs λq1 S2 h3 d2 e5 k6=>AF 1 (A0 O (AD (AZ (kp [1] O) (WF.sl (AF 3 (A8 O k6 B8 D1 O λq7 k8=>BF Bu d2.1 O k8 G7 O λv9 gh=>BE O gh GL O λj4=>AD ?_)))))))
 obtain⟨d3,E⟩:=LO E
 refine Jl (r:=AJ) (zx:=0) GM O ⟨O,by unfold AH;omega⟩ O O d3 O O d2 λt b2 bi b3=>AF 1 (A0 O (AD (AZ (kp [3,1] O) (AE (AI ?_)))))
 have d4:=k6.mono b3
 refine A8 O d4 B8 D1 O λj5 gi=>BF Bu bi.1 O gi G7 O λgj d5=>BE O d5 GL O λj6=>AA O (AN (kp [17,16,15,3,1] O) (BH (λa w=>∃(be:List Int),IV B S2 b2 (128,[]) a w [(3,t),(1,q1)] (OS AJ 3 t be::L) λ_ _=>Cj N s be=some r) ?_ ?_))
 ·refine BV (λn1=>λa w=>∃(aj:Int) (au:List Int),IV B S2 b2 (128,[]) a w [(16,vI (↑s.A.length:Int)),(15,gj),(3,t),(1,q1),(17,vI aj)] (OS AJ 3 t au::L) λ_ _=>AH aj∧C1 N s (Cj N s) n1 aj au=some r) N ?_ ?_ ?_
  ·intro y z g j
   exact⟨0,(List.replicate ((↑s.A.length:Int):Int).toNat (0:Int)),_,_,g.sub (kp [16,15,3,1,17] O),j,bi,(C9.refl S2 b2),(iq (n:=0) O),E⟩
  ·rintro y z ⟨_,_,_,_,_,_,_,_,_,E⟩
   rw[C1] at E;cases E
  rintro n1 y z ⟨aj,au,j7,j8,g,j,ax,b4,j9,E⟩
  refine A6 ?_ g j
  clear g j z y
  rw[C1] at E
  refine AI (BI O (AN (kp [18,16,15,3,1,17] O) (AE (AY O E (λgl E=>?_) (λgl E=>?_)))))
  ·refine AS (AE (BY (WF.sl (AF 3 (AA O ?_)))))
   obtain⟨F,d6,E⟩:=bd E
   refine B1 O O (d5.mono' b4) GL d6 O λka gm=>Cq Bu ax.1 O gm Kt (λe=>by cases e) O λkb gn=>AD (Di Pb O ax λkc kd d7 d8=>AF 1 (A0 O (AD ?_)))
   obtain⟨d9,ea,eb,rfl,ke,kf,kg,kh,gp,gq,gr,gs,ki,kj,kk,gu⟩:=Cw.ex (gn.mono d8)
   refine Ht (vs:=[.string F.H,vI F.B,vI F.As,vI F.Ae,d9,ea,vI F.L,vI F.I,vI F.Aq,vI F.N,vI F.Bc,eb]) (cs':=[.string F.H,vI F.B,vI F.As,vI F.Ae,d9,ea,vI F.L,vI F.I,vI F.Aq,vI F.N,vI F.Bc,eb]) O O O (AC O (AC O (AC O (AC O (AC gp.one (AC gq.one (AC O (AC O (AC O (AC O (AC O (AC gu.one Es)))))))))))) Kt O d7 .head O O λkl ay gv=>AZ (kp [4,5,16,15,3,1,17] O) (FG (AF 6 (AA O (AA O (AG TE O (AT Bu ay O mh O BA O (AG Lx O (AT Bu ay O mh O BA O (AD ?_)))))))))
   obtain⟨ec,ed,E⟩:=bd E
   refine CG O O O SJ O ay (IK (St.all _) gr gs ed) λkm kn ko bj gw kq p=>?_
   obtain⟨rfl,gx,g5⟩:=p
   refine AF 1 ?_
   obtain⟨kr,ee,E⟩:=bd E
   refine BX bj (mt mh) O O CA ee O λks ef=>AD ?_
   obtain⟨gy,eg,E⟩:=bd E
   refine Fd (r:=AJ) (l:=au) (i:=aj) (x:=gy) O O (⟨_,O,O,gx⟩:Rd _ _ AJ _ ec) ef eg MS.id BA (λ_=>rfl) bj (.tail .head) λkt eh gz=>AZ (kp [16,15,3,1,17] O) (B7 (CL (.inl O) (A9 O (AA O (AN (kp [17,16,15,3,1] O) (WF.nil (λy z g j=>?_)))))))
   have ei:=eh.sel [1] 1 O
   exact⟨(Bw (aj+1)),(upd au aj ec),_,_,g.sub (kp [16,15,3,1,17] O),j,ei,(b4.trans (d8.trans (gv.trans (gw.trans gz)))),(B5 _),E⟩
  refine By O (λy z g j=>?_)
  exact⟨au,_,_,g.sub (kp [3,1] O),j,ax,b4,E⟩
 rintro y z ⟨be,b5,b6,g,j,bk,b7,E⟩
 refine A6 ?_ g j
 clear g j z y
 rw[Cj] at E
 refine AE (AI (A8 O (d4.mono b7) Er Hn O λku g0=>BF Bu bk.1 O g0 KF O λaz ej=>BE O ej Ie O λkv=>AA O (AN (kp [34,33,32,3] O) (BH (λa w=>∃(av:List Int),IV B b5 b6 (128,[]) a w [(3,t)] (OS AJ 3 t av::L) λ_ _=>CO N av=some r) ?_ ?_))))
 ·refine BV (λn3=>λa w=>∃(X:Int) (J:List Int),IV B b5 b6 (128,[]) a w [(33,vI (↑s.E.length:Int)),(32,az),(3,t),(34,vI X)] (OS AJ 3 t J::L) λ_ _=>AH X∧BW N s (CO N) n3 X J=some r) N ?_ ?_ ?_
  ·intro y z g j
   exact⟨0,be,_,_,g.sub (kp [33,32,3,34] O),j,bk,(C9.refl b5 b6),(iq (n:=0) O),E⟩
  ·rintro y z ⟨_,_,_,_,_,_,_,_,_,E⟩
   rw[BW] at E;cases E
  rintro n3 y z ⟨X,J,u,ek,g,j,ak,a0,kw,E⟩
  refine A6 ?_ g j
  clear g j z y
  rw[BW] at E
  refine AI (BI O (AN (kp [35,33,32,3,34] O) (AE (AY O E (λel E=>?_) (λel E=>?_)))))
  ·refine AS (AE (BH (λa w=>∃(am:List Int),IV B u ek (128,[]) a w [(33,vI (↑s.E.length:Int)),(32,az),(3,t),(34,vI X)] (OS AJ 3 t am::L) λ_ _=>CN N X (BW N s (CO N) n3) am=some r) ?_ ?_))
   ·refine WF.sl (AF 2 ?_)
    obtain⟨c,b8,E⟩:=bd E
    refine B1 O O (ej.mono' a0) Ie b8 O λg6 em=>Cq Bu ak.1 O em IM (λe=>by cases e) O λg7 en=>AD (Di OX O ak λK g8 b9 ac=>?_)
    obtain⟨an,ao,ap,rfl,g9,ha,eo,hc,bl,bm,bn,hd,he,hg,hi,bo,bp,hj,hk,bq,br,hl⟩:=Ct.ex (en.mono ac)
    refine Ht (vs:=[.string c.H,vI c.B,vI c.G,vI c.C,an,ao,ap,vI c.R,vI c.Ab,vI c.Aj,vI c.Al,vI c.L,vI c.I,vI c.Ah,vI c.Ai,vI c.Ac,vI c.Aa,vI c.N]) (cs':=[.string c.H,vI c.B,vI c.G,vI c.C,an,ao,ap,vI c.R,vI c.Ab,vI c.Aj,vI c.Al,vI c.L,vI c.I,vI c.Ah,vI c.Ai,vI c.Ac,vI c.Aa,vI c.N]) O O O (AC O (AC O (AC O (AC O (AC bl.one (AC bm.one (AC bn.one (AC O (AC O (AC O (AC O (AC O (AC O (AC O (AC O (AC O (AC O (AC O Es)))))))))))))))))) IM O b9 .head O O λQ d U=>AZ (kp [7,33,32,3,34] O) (AI (AG HA O (AT Bu d O mh O BA O (AN (kp [39,7,33,32,3,34] O) (BY (AI (B6 O (AM O (kp [40,39,7,33,32,3,34] O) (AY O E (λep E=>?_) (λep E=>?_))))))))))
    ·refine AE ?_
     obtain⟨hm,ca,E⟩:=bd E
     obtain⟨V,cb,E⟩:=bd E
     obtain⟨W,cc,E⟩:=bd E
     obtain⟨hn,cd,E⟩:=bd E
     refine NX (m:=[(7,vP K 0),(33,vI (↑s.E.length:Int)),(32,az),(3,t),(34,vI X)]) 17 (λi v hh=>match i with|0=>v=t|1=>v=vP K 2|2=>v=vI c.G∧AH c.G|3=>EP t (c.G.toNat*(AJ).sz+0) v|4=>v=vI V∧AH V|5=>v=vP K 4|6=>Sl u hh Cp v c.Af|7=>v=vP K 5|8=>v=vP K 5|9=>Sl u hh Cp v c.Y.Ar|10=>v=vP K 5|11=>v=vP K 6|12=>Sl u hh Cp v c.Y.Aw|13=>Sl (SN u Q hh) hh (BZ.sl Cp) v ([c.Af,c.Y.Ar,c.Y.Aw]:List (List BS))∧∃ad,v= .slice (some ad) 3 3|14=>v=vI W∧AH W|15=>v=vI (Bw (V+W))∧AH (Bw (V+W))|16=>EP t (c.G.toNat*(AJ).sz+0) v|_=>False) [[],[],[(1,43)],[(0,42),(2,44)],[(3,45)],[],[(5,47)],[],[(7,49)],[(8,50)],[],[(10,52)],[(11,53)],[(6,48),(9,51),(12,54)],[(13,55)],[(4,46),(14,56)],[(0,42),(2,44)]] [(15,57),(16,58)] mo (by kernel_rfl) [7,33,32,3,34] O (by kernel_rfl) (by kernel_rfl) (by kernel_rfl) (kp [7,33,32,3,34] O) (λi v h1 h2 o1 o2 Z=>?_) ?_ ?_
     ·match i,Z with
       |0,Z|1,Z|2,Z|3,Z|4,Z|5,Z|7,Z|8,Z|10,Z|11,Z|14,Z|15,Z|16,Z=>exact Z
       |6,Z|9,Z|12,Z=>exact Sl.mono' Z (o2.ext λb hb=>qZ (d.1 b hb) o1.siz)
       |13,Z=>exact⟨Sl.mono' Z.1 (SN.mono d.1 o1 o2),Z.2⟩
       |_+17,Z=>exact Z.elim
     ·refine BQ.cons O (λ_ _ _=>AF 1 (AA O (AO O))) (BQ.cons O (λ_ _ _=>AF 1 (AG Jb O (AO O))) (BQ.cons O (λ_ _ o _ eq=>by cases eq;exact AF 1 (AT Bu (o.st d) O mh O BA O (AO ⟨O,eo⟩))) (BQ.cons O (λ_ _ o=>by intro ho er hp es;cases er;obtain ⟨rfl,hq⟩:=es;exact AF 1 (BX (o.st d) (mt mh) O O CA ca O λht ce=>AO ce)) ?_)))
      refine BQ.cons O ?_ ?_
      ·intro mq hh o
       intro hu et
       have aw:=o.st d
       refine AF 1 ?_
       have eu:=aw.epAt (mt mh) cb GO.id et
       exact BC Bu (λ_ x=>x) O eu BA O λev=>AO ⟨O,ev⟩
      refine BQ.cons O (λ_ _ _=>AF 1 (AG Nr O (AO O))) (BQ.cons O (λ_ _ o _ ew=>by cases ew;exact AF 1 (AT Bu (o.st d) O mh O JK O (AO (bl.mono' (U.trans (o.ext d.1)))))) (BQ.cons O (λ_ _ _=>AF 1 (AG Lu O (AO O))) (BQ.cons O (λ_ _ _ _ ey=>by cases ey;exact AF 1 (AG QP O (AO O))) (BQ.cons O (λ_ _ o _ ez=>by cases ez;exact AF 1 (AT Bu (o.st d) O mh O JK O (AO (bm.mono' (U.trans (o.ext d.1)))))) (BQ.cons O (λ_ _ _=>AF 1 (AG Lu O (AO O))) (BQ.cons O (λ_ _ _ _ e0=>by cases e0;exact AF 1 (AG QO O (AO O))) (BQ.cons O (λ_ _ o _ e1=>by cases e1;exact AF 1 (AT Bu (o.st d) O mh O JK O (AO (bn.mono' (U.trans (o.ext d.1)))))) ?_)))))))
      refine BQ.cons O ?_ ?_
      ·intro mq hh o
       intro e2 ae e3 af e4 ag
       have aw:=SN.st d o
       have ae:=Sl.mono' (S':=(SN u Q hh)) ae ⟨λb hb=> .inl hb,λ_ _=>rfl,qX _⟩
       have ae:Sl _ _ Cp e2 c.Af:=ae
       have af:=Sl.mono' (S':=(SN u Q hh)) af ⟨λb hb=> .inl hb,λ_ _=>rfl,qX _⟩
       have af:Sl _ _ Cp e3 c.Y.Ar:=af
       have ag:=Sl.mono' (S':=(SN u Q hh)) ag ⟨λb hb=> .inl hb,λ_ _=>rfl,qX _⟩
       have ag:Sl _ _ Cp e4 c.Y.Aw:=ag
       have g1:=aw.fz
       obtain⟨cf,bf,rfl,hv⟩:=(ae).len
       obtain⟨cg,bg,rfl,hx⟩:=(af).len
       obtain⟨ch,bh,rfl,hy⟩:=(ag).len
       refine E3 (cs:=[(.slice cf c.Af.length bf),(.slice cg c.Y.Ar.length bg),(.slice ch c.Y.Aw.length bh)]) fX O O O O O O O g1 λhz h0 ci aq=>?_
       have e6:=ag.mono' aq
       have e7:=af.mono' aq
       have e8:=ae.mono' aq
       have cj:=ci.bxos (r:=(BZ.sl Cp)) (l:=([c.Af,c.Y.Ar,c.Y.Aw]:List (List BS))) .head ⟨_,_,O,⟨_,O,e8⟩,⟨_,_,O,⟨_,O,e7⟩,⟨_,_,O,⟨_,O,e6⟩,O⟩⟩⟩ (by simp [maxLen])
       obtain⟨h4,ck,e9,fb⟩:=cj.pubs .head
       have a1:=Fz.done o (aq.trans e9) ck
       exact Dt a1.1 ⟨Sl.mono' fb a1.2,_,O⟩
      refine BQ.cons O ?_ ?_
      ·intro mq hh o
       intro h5 a2
       have aw:=SN.st d o
       obtain⟨a2,g2,rfl⟩:=a2
       refine CG O O O mG O aw (OL (St.all _) (a2.mono (λb hb=>aw.1 b hb) (λ_ _=>rfl)) cc) λh6 h7 h8 g3 h9 bs p=>?_
       obtain⟨rfl,fc,g4⟩:=p
       exact Dt ⟨bs.siz,λb hb=>bs.same b hb⟩ ⟨O,fc⟩
      exact BQ.cons O (λ_ _ _=>by intro ia fd ib fe;obtain ⟨rfl,ic⟩:=fd;obtain ⟨rfl,ie⟩:=fe;exact AF 1 (A9 O (AO ⟨O,(B5 _)⟩))) (BQ.cons O (λ_ _ o=>by intro ig ff ih fg;cases ff;obtain ⟨rfl,ii⟩:=fg;exact AF 1 (BX (o.st d) (mt mh) O O CA cd O λij cl=>AO cl)) trivial)
     intro ik a3 il fh im fi
     have cm:=SN.st d a3
     obtain⟨rfl,fj⟩:=fh
     obtain⟨fk,cn,E⟩:=bd E
     refine Fd (r:=AJ) (l:=J) (i:=c.G) (x:=fk) O O (⟨_,O,O,fj⟩:Rd _ _ AJ _ (Bw (V+W))) fi cn MS.id BA (λ_=>rfl) cm (.tail .head) λio D bt=>AZ (kp [7,33,32,3,34] O) (AI (AG Ia O (AT Bu D O mh O BA O (Cg O (AN (kp [61,7,33,32,3,34] O) (AY O E (λfl E=>?_) (λfl E=>?_)))))))
     ·refine L9 12 mo (by kernel_rfl) O D (AA O (AG Ia O (AT CQ D O mh O BA O ?_)))
      obtain⟨ip,co,E⟩:=bd E
      refine BX D (mt mh) O O CA co O λir cp=>?_
      obtain⟨bu,cq,E⟩:=bd E
      have fm:=D.epAt (mt mh) cq GO.id cp
      refine BC CQ (λ_ x=>x) O fm BA O λit=>AG Lf O (AT CQ D O mh O BA O (AG Kw O (AT CQ D O mh O BA O ?_)))
      obtain⟨bv,cr,E⟩:=bd E
      refine DW O O O SJ O (λh' o=>IK (St.all h') bq br cr) λfn=>?_
      have iu:=fn
      refine A9 O ?_
      obtain⟨iv,ct,E⟩:=bd E
      refine BX D (mt mh) O O CA ct O λiw cu=>Kq λiy cv fo=>?_
      obtain⟨fp,cw,E⟩:=bd E
      refine Fd (r:=AJ) (l:=(upd J c.G (Bw (V+W)))) (i:=c.C) (x:=fp) O O (⟨_,O,O,(B5 _)⟩:Rd _ _ AJ _ (Bw (bu+bv))) cu cw MS.id BA (λ_=>rfl) cv (.tail .head) λiz cx fq=>AZ (kp [33,32,3,34] O) (B7 (WF.nil (λy z g j=>?_)))
      have cy:=cx.sel [1] 1 O
      exact⟨(upd (upd J c.G (Bw (V+W))) c.C (Bw (bu+bv))),_,_,g.sub (kp [33,32,3,34] O),j,cy,(ac.trans (U.trans ((SN.ext d.1 a3).trans (bt.trans (fo.trans fq))))),E⟩
     refine AS (B7 (WF.nil (λy z g j=>?_)))
     have cz:=D.sel [1] 1 O
     exact⟨(upd J c.G (Bw (V+W))),_,_,g.sub (kp [33,32,3,34] O),j,cz,(ac.trans (U.trans ((SN.ext d.1 a3).trans bt))),E⟩
    refine AE (AI (B6 O (AM O (kp [74,39,7,33,32,3,34] O) (He (λa w=>∃(a4:Bool),IV B u Q (128,[]) a w [(39,vI c.B),(7,vP K 0),(33,vI (↑s.E.length:Int)),(32,az),(3,t),(34,vI X),(74,.bool a4)] (Bx K 67 [.string c.H,vI c.B,vI c.G,vI c.C,an,ao,ap,vI c.R,vI c.Ab,vI c.Aj,vI c.Al,vI c.L,vI c.I,vI c.Ah,vI c.Ai,vI c.Ac,vI c.Aa,vI c.N]::OS AJ 3 t J::L) λ_ _=>DP N J c (CN N X (BW N s (CO N) n3)) a4=some r) ?_ ?_))))
    ·refine AY O E (λfr E=>?_) (λfr E=>?_)
     ·refine AS (WF.nil (λy z g j=>?_))
      exact⟨(decide (c.B=1)),_,_,g.sub (kp [39,7,33,32,3,34,74] O),j,d,(C9.refl u Q),E⟩
     refine AI (B6 O (AM O (kp [74,39,7,33,32,3,34] O) (He (λa w=>∃(ar:Bool),IV B u Q (128,[]) a w [(39,vI c.B),(7,vP K 0),(33,vI (↑s.E.length:Int)),(32,az),(3,t),(34,vI X),(74,.bool ar)] (Bx K 67 [.string c.H,vI c.B,vI c.G,vI c.C,an,ao,ap,vI c.R,vI c.Ab,vI c.Aj,vI c.Al,vI c.L,vI c.I,vI c.Ah,vI c.Ai,vI c.Ac,vI c.Aa,vI c.N]::OS AJ 3 t J::L) λ_ _=>Hp N (DP N J c (CN N X (BW N s (CO N) n3))) ar=some r) ?_ ?_)))
     ·refine AY O E (λfs E=>?_) (λfs E=>?_)
      ·refine AS (WF.nil (λy z g j=>?_))
       exact⟨(decide (c.B=5)),_,_,g.sub (kp [39,7,33,32,3,34,74] O),j,d,(C9.refl u Q),E⟩
      refine CL (.inl O) (B6 O (AM O (kp [74,39,7,33,32,3,34] O) (WF.nil (λy z g j=>?_))))
      exact⟨(decide (c.B=3)),_,_,g.sub (kp [39,7,33,32,3,34,74] O),j,d,(C9.refl u Q),E⟩
     rintro y z ⟨ar,i0,i1,g,j,c0,ft,E⟩
     refine A6 ?_ g j
     clear g j z y
     rw[Hp] at E
     refine WF.nil (λy z g j=>?_)
     exact⟨ar,_,_,g.sub (kp [39,7,33,32,3,34,74] O),j,c0,ft,E⟩
    rintro y z ⟨a4,i2,i3,g,j,k,a5,E⟩
    refine A6 ?_ g j
    clear g j z y
    rw[DP] at E
    refine AY O E (λfu E=>?_) (λfu E=>?_)
    ·refine L9 12 mo (by kernel_rfl) O k (AA O (AG Jb O (AT CQ k O mh O BA O ?_)))
     obtain⟨i4,c1,E⟩:=bd E
     refine BX k (mt mh) O O CA c1 O λi5 c2=>?_
     obtain⟨bw,c3,E⟩:=bd E
     have fv:=k.epAt (mt mh) c3 GO.id c2
     refine BC CQ (λ_ x=>x) O fv BA O λi6=>AG JN O (AT CQ k O mh O BA O (AG KM O (AT CQ k O mh O BA O ?_)))
     obtain⟨bx,c4,E⟩:=bd E
     refine DW O O O SJ O (λh' o=>IK (St.all h') bo bp c4) λfw=>?_
     have i7:=fw
     refine A9 O ?_
     obtain⟨i8,c5,E⟩:=bd E
     refine BX k (mt mh) O O CA c5 O λi9 c6=>Kq λja c7 fx=>?_
     obtain⟨fy,c8,E⟩:=bd E
     refine Fd (r:=AJ) (l:=J) (i:=c.G) (x:=fy) O O (⟨_,O,O,(B5 _)⟩:Rd _ _ AJ _ (Bw (bw+bx))) c6 c8 MS.id BA (λ_=>rfl) c7 (.tail .head) λjb c9 f0=>AZ (kp [33,32,3,34] O) (B7 (WF.nil (λy z g j=>?_)))
     have da:=c9.sel [1] 1 O
     exact⟨(upd J c.G (Bw (bw+bx))),_,_,g.sub (kp [33,32,3,34] O),j,da,(ac.trans (U.trans (a5.trans (fx.trans f0)))),E⟩
    refine AI (B6 O (AM O (kp [90,7,33,32,3,34] O) (AY O E (λf1 E=>?_) (λf1 E=>?_))))
    ·refine AE (L9 13 mo (by kernel_rfl) O k (AA O (AG Jb O (AT CQ k O mh O BA O ?_))))
     obtain⟨jc,db,E⟩:=bd E
     refine BX k (mt mh) O O CA db O λjd dc=>?_
     obtain⟨a6,dd,E⟩:=bd E
     have f2:=k.epAt (mt mh) dd GO.id dc
     refine BC CQ (λ_ x=>x) O f2 BA O λje=>AG JN O (AT CQ k O mh O BA O (AG KM O (AT CQ k O mh O BA O ?_)))
     obtain⟨a7,de,E⟩:=bd E
     refine DW O O O SJ O (λh' o=>IK (St.all h') bo bp de) λf3=>?_
     have jf:=f3
     refine Wr O O O (A9 O ?_)
     obtain⟨jg,df,E⟩:=bd E
     refine BX k (mt mh) O O CA df O λjh dg=>Kq λji dh f4=>?_
     obtain⟨f5,di,E⟩:=bd E
     refine Fd (r:=AJ) (l:=J) (i:=c.G) (x:=f5) O O (⟨_,O,O,(B5 _)⟩:Rd _ _ AJ _ (Bw (a6+(Bw (2*a7))))) dg di MS.id BA (λ_=>rfl) dh (.tail .head) λjj M f6=>AZ (kp [7,33,32,3,34] O) (L9 13 mo (by kernel_rfl) O M (AA O (AG Ia O (AT CQ M O mh O BA O ?_))))
     obtain⟨jk,dj,E⟩:=bd E
     refine BX M (mt mh) O O CA dj O λjl dk=>?_
     obtain⟨bz,dl,E⟩:=bd E
     have f7:=M.epAt (mt mh) dl GO.id dk
     refine BC CQ (λ_ x=>x) O f7 BA O λjm=>AG Lf O (AT CQ M O mh O BA O (AG Kw O (AT CQ M O mh O BA O ?_)))
     obtain⟨b0,dm,E⟩:=bd E
     refine DW O O O SJ O (λh' o=>IK (St.all h') bq br dm) λf8=>?_
     have jn:=f8
     refine Wr O O O (A9 O ?_)
     obtain⟨jo,dn,E⟩:=bd E
     refine BX M (mt mh) O O CA dn O λjp dp=>Kq λjq dq f9=>?_
     obtain⟨ga,dr,E⟩:=bd E
     refine Fd (r:=AJ) (l:=(upd J c.G (Bw (a6+(Bw (2*a7)))))) (i:=c.C) (x:=ga) O O (⟨_,O,O,(B5 _)⟩:Rd _ _ AJ _ (Bw (bz+(Bw (2*b0))))) dp dr MS.id BA (λ_=>rfl) dq (.tail .head) λjr ds gb=>AZ (kp [33,32,3,34] O) (B7 (WF.nil (λy z g j=>?_)))
     have dt:=ds.sel [1] 1 O
     exact⟨(upd (upd J c.G (Bw (a6+(Bw (2*a7))))) c.C (Bw (bz+(Bw (2*b0))))),_,_,g.sub (kp [33,32,3,34] O),j,dt,(ac.trans (U.trans (a5.trans (f4.trans (f6.trans (f9.trans gb)))))),E⟩
    refine AS (B7 (WF.nil (λy z g j=>?_)))
    have du:=k.sel [1] 1 O
    exact⟨J,_,_,g.sub (kp [33,32,3,34] O),j,du,(ac.trans (U.trans a5)),E⟩
   rintro y z ⟨am,js,jt,g,j,dv,gc,E⟩
   refine A6 ?_ g j
   clear g j z y
   rw[CN] at E
   refine CL (.inl O) (A9 O (AA O (AN (kp [34,33,32,3] O) (WF.nil (λy z g j=>?_)))))
   exact⟨(Bw (X+1)),am,_,_,g.sub (kp [33,32,3,34] O),j,dv,(a0.trans gc),(B5 _),E⟩
  refine By O (λy z g j=>?_)
  exact⟨J,_,_,g.sub (kp [3] O),j,ak,a0,E⟩
 rintro y z ⟨av,a8,a9,g,j,ba,b1,E⟩
 refine A6 ?_ g j
 clear g j z y
 rw[CO] at E
 refine AE (AI (AA O (L3 ba mh O CA O λju=>AA O (AN (kp [121,120,119] O) (BH (λa w=>IV B a8 a9 (128,[]) a w [] (L) λ_ _=>Da N=some r) ?_ ?_)))))
 ·refine BV (λn8=>λa w=>∃(ai:Int),IV B a8 a9 (128,[]) a w [(120,vI (↑av.length:Int)),(119,t),(121,vI ai)] (OS AJ 3 t av::L) λ_ _=>AH ai∧C0 N av (Da N) n8 ai=some r) N ?_ ?_ ?_
  ·intro y z g j
   exact⟨0,_,_,g.sub (kp [120,119,121] O),j,ba,(C9.refl a8 a9),(iq (n:=0) O),E⟩
  ·rintro y z ⟨_,_,_,_,_,_,_,_,E⟩
   rw[C0] at E;cases E
  rintro n8 y z ⟨ai,jv,jw,g,j,ab,bb,jx,E⟩
  refine A6 ?_ g j
  clear g j z y
  rw[C0] at E
  refine AI (BI O (AN (kp [122,120,119,121] O) (AE (AY O E (λgd E=>?_) (λgd E=>?_)))))
  ·refine AS (AE (BY (AI ?_)))
   obtain⟨jy,dw,E⟩:=bd E
   refine BX ab mh O O CA dw O λjz dx=>?_
   obtain⟨j0,dy,E⟩:=bd E
   have ge:=ab.epAt mh dy GO.id dx
   refine BC Bu (λ_ x=>x) O ge BA O λj1=>AM O (kp [9,120,119,121] O) (AI (AA O (CV O (AN (kp [126,120,119,121] O) (AY O E (λgf E=>?_) (λgf E=>?_))))))
   ·refine AI (AM O (kp [2] O) (A5 (λy z g j=>?_)))
    have dz:=ab.drop .head
    cases E
    exact Em g j O O (e5.trans (b3.trans (b7.trans (b1.trans bb)))) ⟨O,dz⟩
   refine AS (B7 (CL (.inl O) (A9 O (AA O (AN (kp [121,120,119] O) (WF.nil (λy z g j=>?_)))))))
   exact⟨(Bw (ai+1)),_,_,g.sub (kp [120,119,121] O),j,ab,bb,(B5 _),E⟩
  refine By O (λy z g j=>?_)
  have d0:=ab.drop .head
  exact⟨_,_,g.sub Py,j,d0,bb,E⟩
 rintro y z ⟨j2,j3,g,j,d1,gg,E⟩
 refine A6 ?_ g j
 clear g j z y
 rw[Da] at E
 refine AI (AM O (kp [2] O) (A5 (λy z g j=>?_)))
 cases E
 exact Em g j O O (e5.trans (b3.trans (b7.trans (b1.trans gg)))) ⟨O,d1⟩
end Go.Proofs.YtblcgjadhemlbaaGreat
