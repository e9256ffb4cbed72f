import Derived.Test.YtblcgjadhemlbaaGreatWWalk1
namespace Go.Proofs.YtblcgjadhemlbaaGreat
set_option linter.all false
open Go.RowKit
open Go.Proofs.Tryz
set_option maxRecDepth 10000
set_option maxHeartbeats 2000000
variable {N:Nat}{S:Nat→Prop}{L:List HP}{h:BM}
def KA (q:St S L h) {b:Int}(d:AH b) {a:Int}(g:AH a) {r:Bool}(E:G5 N b a=some r):
 DK prog 73 #[vI b,vI a] S h (λv S' h'=>v= .bool r∧St S' (L) h'):=by
 refine B0 (l:=[vI b,vI a]) 19 func73 O ntmps73 O λB=>?_
 rw[G5] at E
 refine AI (AM O (kp [0,1] O) (AE (Cn (.inl O) q (AA O ?_))))
 obtain⟨s,j,E⟩:=bd E
 refine BU O O O Ka O (λh' o=>Cv (St.all h') d j) (AA O ?_)
 obtain⟨k,c,E⟩:=bd E
 refine AW 3 10 (.bool k) ?_ ?_
 ·cases p:s
  ·have c:=Hj p c
   cases c
   exact A4 O O
  have c:=Hi p c
  refine AB O (AA O (AB O ?_))
  obtain⟨w,m,c⟩:=bd c
  refine BU O O O Ka O (λh' o=>Cv (St.all h') g m) (AL O ?_)
  cases c
  exact AV O
 refine AA O (AW 7 18 (.bool (k&&((decide (a≠0))||(decide (b=0))))) ?_ ?_)
 ·cases x:k
  ·exact A4 O O
  refine AB O (AA O (AB O (Cg O (AB O (AA O (AW 3 17 (.bool ((decide (a≠0))||(decide (b=0)))) ?_ ?_))))))
  ·cases y:(decide (a≠0))
   ·exact AB O (AA O (AB O (B6 O (AB O (AL O (AV O))))))
   exact A4 O O
  exact AL O (AV O)
 refine A0 O (B9 (kp [4] O) λz i n=>A5 (λA C t u=>?_))
 cases E
 exact Em t u O O n ⟨O,i⟩
def Hd (j:St S L h) {b:Int}(c:AH b) {a:Int}(d:AH a) {r:Bool}(E:FI N b a=some r):
 DK prog 75 #[vI b,vI a] S h (λv S' h'=>v= .bool r∧St S' (L) h'):=by
 refine B0 (l:=[vI b,vI a]) 9 func75 O ntmps75 O λB=>?_
 rw[FI] at E
 refine AI (AM O (kp [0,1] O) (AE (Cn (.inl O) j (AA O (AA O (Dl O ?_))))))
 obtain⟨q,g,E⟩:=bd E
 refine BU O O O Ip O (λh' o=>Cm (St.all h') c (iq (n:=0) O) (B5 _) g) (A0 O (B9 (kp [4] O) λs i k=>A5 (λt u m p=>?_)))
 cases E
 exact Em m p O O k ⟨O,i⟩
def MR (z:St S L h) {c:Value}{j:AU}(i:Rd S h C2 c j) {a:Int}(k:AH a) {b:Int}(g:AH b) {r:Bool}(E:Io N j a b=some r):
 DK prog 74 #[c,vI a,vI b] S h (λv S' h'=>v= .bool r∧St S' (L) h'):=by
 refine B0 (l:=[c,vI a,vI b]) 21 func74 O ntmps74 O λB=>?_
 rw[Io] at E
 refine WF.sl (C3 O i (λe=>by cases e) O z λK S2 M m A C=>AF 1 (A0 O (AD (AZ (kp [3,1,2] O) (AE (Cn (.inl O) m (AA O (B6 O (AA O ?_)))))))))
 obtain⟨D,d,E⟩:=bd E
 refine AW 11 20 (.bool D) ?_ ?_
 ·cases y:(decide (b=(-1)))
  ·have d:=Hj y d
   refine AB O (AA O (AB O (A8 O C B8 D1 O λQ t=>AB O (BF CQ m.1 O t G7 O λF u=>AB O (BE O u GL O λw=>AB O ?_)))))
   obtain⟨n,p,d⟩:=bd d
   refine BU O O O Q5 O (λh' o=>Hd (St.all h') g (KY w) p) (AB O (AA O (AW 4 19 (.bool (n&&(decide (b≠a)))) ?_ ?_)))
   ·cases G:n
    ·exact A4 O O
    exact AB O (AA O (AB O (AA O (AB O (Cg O (AB O (AL O (AV O))))))))
   refine AL O ?_
   cases d
   exact AV O
  have d:=Hi y d
  cases d
  exact A4 O O
 refine A0 O (B9 (kp [6] O) λH s x=>A5 (λU V I J=>?_))
 cases E
 exact Em I J O O (A.trans x) ⟨O,s⟩
def M0 (hs:St S L h) {V:Value}{c:AU}(aw:Rd S h C2 V c) {r:Bool}(E:Hg N c=some r):
 DK prog 49 #[V] S h (λv S' h'=>v= .bool r∧St S' (L) h'):=by
 refine B0 (l:=[V]) 122 func49 O ntmps49 O λB=>?_
 rw[Hg] at E
 refine WF.sl (C3 O aw (λe=>by cases e) O hs λq1 S2 h3 bo e5 k6=>AF 1 (A0 O (AD (AZ (kp [1] O) (AI (AM O (kp [3,1] O) (AE (AI (A8 O k6 B8 D1 O λq7 k8=>BF Bu bo.1 O k8 G7 O λv9 bp=>BE O bp GL O λd9=>AA O (AN (kp [14,13,12,3,1] O) (BH (λa w=>∃(ax:Int),IV B S2 h3 (122,[]) a w [(3,vI ax)] (L) λ_ _=>AH ax∧Ck N ax=some r) ?_ ?_)))))))))))
 ·refine BV (λn1=>λa w=>∃(ak:Int) (k:Int),IV B S2 h3 (122,[]) a w [(13,vI (↑c.A.length:Int)),(12,v9),(1,q1),(3,vI ak),(14,vI k)] (L) λ_ _=>AH ak∧AH k∧CP N c (Ck N) n1 ak k=some r) N ?_ ?_ ?_
  ·intro m p g i
   exact⟨0,0,_,_,g.sub (kp [13,12,1,3,14] O),i,bo,(C9.refl S2 h3),(iq (n:=0) O),(iq (n:=0) O),E⟩
  ·rintro m p ⟨_,_,_,_,_,_,_,_,_,_,E⟩
   rw[CP] at E;cases E
  rintro n1 m p ⟨ak,k,ay,cy,g,i,am,W,bq,cz,E⟩
  refine A6 ?_ g i
  clear g i p m
  rw[CP] at E
  refine AI (BI O (AN (kp [15,13,12,1,3,14] O) (AE (AY O E (λc0 E=>?_) (λc0 E=>?_)))))
  ·refine AS (AE (BH (λa w=>∃(an:Int),IV B ay cy (122,[]) a w [(13,vI (↑c.A.length:Int)),(12,v9),(1,q1),(14,vI k),(3,vI an)] (L) λ_ _=>AH an∧DD N k (CP N c (Ck N) n1) an=some r) ?_ ?_))
   ·refine WF.sl (AF 3 (AA O ?_))
    obtain⟨b,br,E⟩:=bd E
    refine B1 O O (bp.mono' W) GL br O λea c1=>Cq Bu am.1 O c1 Kt (λe=>by cases e) O λeb c2=>AD (Di Pb O am λaz ec bs Y=>AF 1 (A0 O (AD ?_)))
    obtain⟨a0,ao,ap,rfl,ed,c3,c4,c5,bt,a9,c6,c7,c8,c9,da,bu⟩:=Cw.ex (c2.mono Y)
    refine Ht (vs:=[.string b.H,vI b.B,vI b.As,vI b.Ae,a0,ao,vI b.L,vI b.I,vI b.Aq,vI b.N,vI b.Bc,ap]) (cs':=[.string b.H,vI b.B,vI b.As,vI b.Ae,a0,ao,vI b.L,vI b.I,vI b.Aq,vI b.N,vI b.Bc,ap]) O O O (AC O (AC O (AC O (AC O (AC bt.one (AC a9.one (AC O (AC O (AC O (AC O (AC O (AC bu.one Es)))))))))))) Kt O bs .head O O λee d F=>AZ (kp [4,5,13,12,1,3,14] O) (AE (AE (Cn (.inl O) d (AG bC O (AT CQ d O mh O BA O ?_)))))
    obtain⟨db,bv,E⟩:=bd E
    refine BU O O O Ip O (λh' o=>Cm (St.all h') c3 (iq (n:=0) O) (iq (n:=3) O) bv) (CI O (AA O ?_))
    obtain⟨bw,s,E⟩:=bd E
    refine AW 5 28 (.bool bw) ?_ ?_
    ·cases bx:(!db)
     ·have s:=Hj bx s
      refine AB O (AG Mf O (AB O (AT CQ d O mh O BA O (AB O ?_))))
      obtain⟨ef,bz,s⟩:=bd s
      refine BU O O O Ip O (λh' o=>Cm (St.all h') c4 (iq (n:=0) O) (iq (n:=2) O) bz) (AB O (CI O (AL O ?_)))
      cases s
      exact AV O
     have s:=Hi bx s
     cases s
     exact A4 O O
    refine AA O ?_
    obtain⟨b0,t,E⟩:=bd E
    refine AW 5 34 (.bool b0) ?_ ?_
    ·cases b1:bw
     ·have t:=Hj b1 t
      refine AB O (AG TD O (AB O (AT CQ d O mh O BA O (AB O ?_))))
      obtain⟨eg,b2,t⟩:=bd t
      refine BU O O O Ip O (λh' o=>Cm (St.all h') c9 (iq (n:=0) O) (iq (n:=240) O) b2) (AB O (CI O (AL O ?_)))
      cases t
      exact AV O
     have t:=Hi b1 t
     cases t
     exact A4 O O
    refine AA O ?_
    obtain⟨b3,u,E⟩:=bd E
    refine AW 5 40 (.bool b3) ?_ ?_
    ·cases b4:b0
     ·have u:=Hj b4 u
      refine AB O (AG WV O (AB O (AT CQ d O mh O BA O (AB O ?_))))
      obtain⟨eh,b5,u⟩:=bd u
      refine BU O O O Ka O (λh' o=>Cv (St.all h') c5 b5) (AB O (CI O (AL O ?_)))
      cases u
      exact AV O
     have u:=Hi b4 u
     cases u
     exact A4 O O
    refine AA O ?_
    obtain⟨b6,x,E⟩:=bd E
    refine AW 5 46 (.bool b6) ?_ ?_
    ·cases b7:b3
     ·have x:=Hj b7 x
      refine AB O (AG Y0 O (AB O (AT CQ d O mh O BA O (AB O ?_))))
      obtain⟨ei,b8,x⟩:=bd x
      refine BU O O O Ka O (λh' o=>Cv (St.all h') da b8) (AB O (CI O (AL O ?_)))
      cases x
      exact AV O
     have x:=Hi b7 x
     cases x
     exact A4 O O
    refine AA O ?_
    obtain⟨a1,y,E⟩:=bd E
    refine AW 5 52 (.bool a1) ?_ ?_
    ·cases b9:b6
     ·have y:=Hj b9 y
      refine AB O (AG bB O (AB O (AT CQ d O mh O JK O (AB O ?_))))
      obtain⟨ej,ca,y⟩:=bd y
      refine BU O O O Q6 O (λh' o=>Hc (St.all h') ((bt.mono' F).mono' (o.all d.1)) ca) (AB O (CI O (AL O ?_)))
      cases y
      exact AV O
     have y:=Hi b9 y
     cases y
     exact A4 O O
    refine AA O (AW 8 61 (.bool (a1||(decide ((↑b.Bf.length:Int)≠(↑c.J.length:Int))))) ?_ ?_)
    ·cases ek:a1
     ·exact AB O (AG TF O (AB O (AT CQ d O mh O CH O (AB O (BE O (a9.mono' F) CA O λel=>AB O (A8 O (k6.mono (W.trans (Y.trans F))) Eq Ib O λem dc=>AB O (BF CQ d.1 O dc LA O λen dd=>AB O (BE O dd Ku O λeo=>AB O (Cg O (AL O (AV O)))))))))))
     exact A4 O O
    refine AA O ?_
    obtain⟨cb,z,E⟩:=bd E
    refine AW 7 69 (.bool cb) ?_ ?_
    ·cases cc:(a1||(decide ((↑b.Bf.length:Int)≠(↑c.J.length:Int))))
     ·have z:=Hj cc z
      refine AB O (AG TE O (AB O (AT CQ d O mh O BA O (AB O (AG Lx O (AB O (AT CQ d O mh O BA O (AB O ?_))))))))
      obtain⟨ep,cd,z⟩:=bd z
      refine BU O O O ZY O (λh' o=>KA (St.all h') c6 c7 cd) (AB O (CI O (AL O ?_)))
      cases z
      exact AV O
     have z:=Hi cc z
     cases z
     exact A4 O O
    refine AA O ?_
    obtain⟨de,C,E⟩:=bd E
    refine AW 7 77 (.bool de) ?_ ?_
    ·cases ce:cb
     ·have C:=Hj ce C
      refine AB O (Cq CQ d.1 O (k6.mono (W.trans (Y.trans F))) H2 (λe=>by cases e) O λdg cf=>AB O (AA O (AB O (AG QQ O (AB O (AT CQ d O mh O BA O (AB O ?_)))))))
      obtain⟨dh,ba,C⟩:=bd C
      refine BU O O O dT O (λh' o=>MR (St.all h') (cf.mono (o.all d.1)) cz c8 ba) (AB O (CI O (AL O ?_)))
      cases C
      exact AV O
     have C:=Hi ce C
     cases C
     exact A4 O O
    refine B9 (kp [77,5,13,12,1,3,14] O) λaq ad G=>AY O E (λcg E=>?_) (λcg E=>?_)
    ·refine AI (AM O (kp [2] O) (A5 (λm p g i=>?_)))
     have bb:=ad.drop .head
     cases E
     exact Em g i O O (e5.trans (W.trans (Y.trans (F.trans G)))) ⟨O,bb⟩
    refine AS (AE (AI (AG TF O (AT Bu ad O mh O CH O ?_))))
    have a2:=a9.mono' (F.trans G)
    refine BE O a2 CA O λdi=>AA O (AN (kp [81,80,79,5,13,12,1,3,14] O) (BH (λa w=>∃(K:Int),IV B ay aq (122,[]) a w [(5,vP az 0),(13,vI (↑c.A.length:Int)),(12,v9),(1,q1),(14,vI k),(3,vI K)] (Bx az 56 [.string b.H,vI b.B,vI b.As,vI b.Ae,a0,ao,vI b.L,vI b.I,vI b.Aq,vI b.N,vI b.Bc,ap]::L) λ_ _=>AH K∧Eg N c b (DD N k (CP N c (Ck N) n1)) K=some r) ?_ ?_))
    ·refine BV (λn4=>λa w=>∃(U:Int) (Z:Int),IV B ay aq (122,[]) a w [(80,vI (↑b.Bf.length:Int)),(79,ao),(5,vP az 0),(13,vI (↑c.A.length:Int)),(12,v9),(1,q1),(14,vI k),(3,vI U),(81,vI Z)] (Bx az 56 [.string b.H,vI b.B,vI b.As,vI b.Ae,a0,ao,vI b.L,vI b.I,vI b.Aq,vI b.N,vI b.Bc,ap]::L) λ_ _=>AH U∧AH Z∧Dc N b (Eg N c b (DD N k (CP N c (Ck N) n1))) n4 U Z=some r) N ?_ ?_ ?_
     ·intro m p g i
      exact⟨ak,0,_,_,g.sub (kp [80,79,5,13,12,1,14,3,81] O),i,ad,(C9.refl ay aq),bq,(iq (n:=0) O),E⟩
     ·rintro m p ⟨_,_,_,_,_,_,_,_,_,_,E⟩
      rw[Dc] at E;cases E
     rintro n4 m p ⟨U,Z,dj,dk,g,i,ae,ah,ch,dl,E⟩
     refine A6 ?_ g i
     clear g i p m
     rw[Dc] at E
     refine AI (BI O (AN (kp [82,80,79,5,13,12,1,14,3,81] O) (AE (AY O E (λci E=>?_) (λci E=>?_)))))
     ·refine AS (AE (BY (AI ?_)))
      obtain⟨cj,bc,E⟩:=bd E
      refine B1 O O (a2.mono' ah) CA bc O λdm ck=>BC Bu ae.1 O ck BA O λcl=>AM O (kp [7,80,79,5,13,12,1,14,3,81] O) (AE (AE (Cn (.inl O) ae (AA O ?_))))
      obtain⟨dn,be,E⟩:=bd E
      refine BU O O O Ka O (λh' o=>Cv (St.all h') cl be) (CI O (B9 (kp [87,7,80,79,5,13,12,1,14,3,81] O) λdp ar a3=>AY O E (λcm E=>?_) (λcm E=>?_)))
      ·refine AI (AM O (kp [2] O) (A5 (λm p g i=>?_)))
       have bf:=ar.drop .head
       cases E
       exact Em g i O O (e5.trans (W.trans (Y.trans (F.trans (G.trans (ah.trans a3)))))) ⟨O,bf⟩
      refine AS (CL (.inl O) (AA O (AA O (A9 O (AM O (kp [3,80,79,5,13,12,1,14,81] O) (B7 (CL (.inl O) (A9 O (AA O (AN (kp [81,3,80,79,5,13,12,1,14] O) (WF.nil (λm p g i=>?_))))))))))))
      exact⟨(Bw (U+cj)),(Bw (Z+1)),_,_,g.sub (kp [80,79,5,13,12,1,14,3,81] O),i,ar,(ah.trans a3),(B5 _),(B5 _),E⟩
     refine By O (λm p g i=>?_)
     exact⟨U,_,_,g.sub (kp [5,13,12,1,14,3] O),i,ae,ah,ch,E⟩
    rintro m p ⟨K,a4,a5,g,i,au,ai,cn,E⟩
    refine A6 ?_ g i
    clear g i p m
    rw[Eg] at E
    refine AI (AM O (kp [8,5,13,12,1,14,3] O) (AI (AG Yz O (AT Bu au O mh O jQ O ?_))))
    have a6:=bu.mono' (F.trans (G.trans ai))
    refine BE O a6 dA O λdq=>AA O (AN (kp [95,94,93,8,13,12,1,14,3] O) (BY (BV (λn5=>λa w=>∃(M:Int) (ab:Int),IV B a4 a5 (122,[]) a w [(94,vI (↑b.X.length:Int)),(93,ap),(13,vI (↑c.A.length:Int)),(12,v9),(1,q1),(14,vI k),(3,vI K),(8,vI M),(95,vI ab)] (L) λ_ _=>AH M∧AH ab∧Db N c b K (DD N k (CP N c (Ck N) n1)) n5 M ab=some r) N ?_ ?_ ?_)))
    ·intro m p g i
     have bg:=au.drop .head
     exact⟨(-1),0,_,_,g.sub (kp [94,93,13,12,1,14,3,8,95] O),i,bg,(C9.refl a4 a5),(iq (n:=(-1)) O),(iq (n:=0) O),E⟩
    ·rintro m p ⟨_,_,_,_,_,_,_,_,_,_,E⟩
     rw[Db] at E;cases E
    rintro n5 m p ⟨M,ab,dr,ds,g,i,af,ac,dt,du,E⟩
    refine A6 ?_ g i
    clear g i p m
    rw[Db] at E
    refine AI (BI O (AN (kp [96,94,93,13,12,1,14,3,8,95] O) (AE (AY O E (λco E=>?_) (λco E=>?_)))))
    ·refine AS (AE (BY (WF.sl (AF 2 ?_))))
     obtain⟨D,bh,E⟩:=bd E
     refine B1 O O (a6.mono' ac) dA bh O λdv cp=>Cq Bu af.1 O cp X0 (λe=>by cases e) O λdw cq=>AD (Di eJ O af λdx dy bi aj=>?_)
     obtain⟨rfl,⟨cr,cs⟩⟩:=K8.ex (cq.mono aj)
     refine Ek (vs:=[vI D.Bg,vI D.Bp]) O O O O X0 O bi .head O λdz Q av=>AZ (kp [10,94,93,13,12,1,14,3,8,95] O) (AE (AE (Cn (.inl O) Q (AG Qy O (AT CQ Q O mh O BA O (AA O (HX O (AA O (AW 6 109 (.bool ((decide (D.Bg≤M))||(decide (c.T≤D.Bg)))) ?_ ?_)))))))))
     ·cases d0:(decide (D.Bg≤M))
      ·exact AB O (AG Qy O (AB O (AT CQ Q O mh O BA O (AB O (A8 O (k6.mono (W.trans (Y.trans (F.trans (G.trans (ai.trans (ac.trans (aj.trans av)))))))) Lm TI O λd1 ct=>AB O (BC CQ Q.1 O ct BA O λd2=>AB O (HY O (AL O (AV O)))))))))
      exact A4 O O
     refine AA O ?_
     obtain⟨cu,j,E⟩:=bd E
     refine AW 5 115 (.bool cu) ?_ ?_
     ·cases a7:((decide (D.Bg≤M))||(decide (c.T≤D.Bg)))
      ·have j:=Hj a7 j
       refine AB O (AG Y2 O (AB O (AT CQ Q O mh O BA O (AB O ?_))))
       obtain⟨d3,bj,j⟩:=bd j
       refine BU O O O Ka O (λh' o=>Cv (St.all h') cs bj) (AB O (CI O (AL O ?_)))
       cases j
       exact AV O
      have j:=Hi a7 j
      cases j
      exact A4 O O
     refine B9 (kp [115,10,94,93,13,12,1,14,3,95] O) λd4 ag a8=>AY O E (λcv E=>?_) (λcv E=>?_)
     ·refine AI (AM O (kp [2] O) (A5 (λm p g i=>?_)))
      have bk:=ag.drop .head
      cases E
      exact Em g i O O (e5.trans (W.trans (Y.trans (F.trans (G.trans (ai.trans (ac.trans (aj.trans (av.trans a8))))))))) ⟨O,bk⟩
     refine AS (CL (.inl O) (AG Qy O (AT Bu ag O mh O BA O (AM O (kp [8,94,93,13,12,1,14,3,95] O) (B7 (CL (.inl O) (A9 O (AA O (AN (kp [95,8,94,93,13,12,1,14,3] O) (WF.nil (λm p g i=>?_)))))))))))
     have bl:=ag.drop .head
     exact⟨D.Bg,(Bw (ab+1)),_,_,g.sub (kp [94,93,13,12,1,14,3,8,95] O),i,bl,(ac.trans (aj.trans (av.trans a8))),cr,(B5 _),E⟩
    refine Lh O (WF.nil (λm p g i=>?_))
    exact⟨K,_,_,g.sub (kp [13,12,1,14,3] O),i,af,(Y.trans (F.trans (G.trans (ai.trans ac)))),cn,E⟩
   rintro m p ⟨an,d5,d6,g,i,bm,cw,df,E⟩
   refine A6 ?_ g i
   clear g i p m
   rw[DD] at E
   refine CL (.inl O) (A9 O (AA O (AN (kp [14,13,12,1,3] O) (WF.nil (λm p g i=>?_)))))
   exact⟨an,(Bw (k+1)),_,_,g.sub (kp [13,12,1,3,14] O),i,bm,(W.trans cw),df,(B5 _),E⟩
  refine By O (λm p g i=>?_)
  exact⟨ak,_,_,g.sub (kp [3] O),i,am,W,bq,E⟩
 rintro m p ⟨ax,d7,d8,g,i,bn,cx,eq,E⟩
 refine A6 ?_ g i
 clear g i p m
 rw[Ck] at E
 refine AI (AA O (HX O (AM O (kp [2] O) (A5 (λm p g i=>?_)))))
 cases E
 exact Em g i O O (e5.trans cx) ⟨O,bn⟩
def Pv (hs:St S L h) {d:Int}(t:AH d) {c:Value}{s:(Int→Option Bool)}(u:Rd S h (BZ.fn prog (λx:Int=>([vI x]:List Value)) (λx:Int=>AH x) (λy:Bool=> .bool y) (λy:Bool=>True)) c s) {r:Int}(E:Ko N d s=some r):
 DK prog 110 #[vI d,c] S h (λv S' h'=>v=vI r∧AH r∧St S' (L) h'):=by
 refine B0 (l:=[vI d,c]) 26 func110 O ntmps110 O λB=>?_
 rw[Ko] at E
 obtain⟨K,M,rfl,Q,U⟩:=u.fn
 refine AI (AM O (kp [0,1] O) (AI (AA O (A0 O (AM O (kp [6,5,1] O) (AE (BH (λa w=>∃(I:Int),IV B S h (26,[]) a w [(5,vI I)] (L) λ_ _=>AH I∧Ik N I=some r) ?_ ?_)))))))
 ·refine BV (λZ=>λa w=>∃(g:Int) (i:Int),IV B S h (26,[]) a w [(1,(.func (.func K) #[] M)),(5,vI g),(6,vI i)] (L) λ_ _=>AH g∧AH i∧GT N s (Ik N) Z g i=some r) N ?_ ?_ ?_
  ·intro z A k m
   exact⟨0,d,_,_,k.sub (kp [1,5,6] O),m,hs,(C9.refl S h),(iq (n:=0) O),t,E⟩
  ·rintro z A ⟨_,_,_,_,_,_,_,_,_,_,E⟩
   rw[GT] at E;cases E
  rintro Z z A ⟨g,i,ab,ac,k,m,p,q,D,V,E⟩
  refine A6 ?_ k m
  clear k m A z
  rw[GT] at E
  refine AE (AI (AA O (AA O (BI O (AN (kp [11,1,5,6] O) (AY O E (λW E=>?_) (λW E=>?_)))))))
  ·refine AS (BY (AI (AA O (AA O (A9 O (IU O PI Uy O (Jg (j:=1) O O O O (IU O Uy PI O (AM O (kp [7,1,5,6] O) (AE (Cn (.inl O) p (AA O (AA O ?_)))))))))))))
   obtain⟨ad,F,E⟩:=bd E
   refine BU O O O Q O (λh' o=>U _ h' (λb J=>qZ (p.1 b (q.sub b J)) o.siz) (λb J=>(o.same b (p.1 b (q.sub b J))).trans (q.same b J)) [] (St.all h') _ _ (B5 _) F) (CI O (B9 (kp [21,7,1,5,6] O) λae C G=>AY O E (λX E=>?_) (λX E=>?_)))
   ·refine CL (.inl O) (AA O (A9 O (AM O (kp [5,1,6] O) (B7 (WF.nil (λz A k m=>?_))))))
    exact⟨(Bw ((Bw (Ew .u64 (IntKind.wrap .u64 (Bw (g+i))) 1))+1)),i,_,_,k.sub (kp [1,5,6] O),m,C,(q.trans G),(B5 _),V,E⟩
   refine CL (.inl O) (AA O (AM O (kp [6,1,5] O) (B7 (WF.nil (λz A k m=>?_)))))
   exact⟨g,(Bw (Ew .u64 (IntKind.wrap .u64 (Bw (g+i))) 1)),_,_,k.sub (kp [1,5,6] O),m,C,(q.trans G),D,(B5 _),E⟩
  refine By O (λz A k m=>?_)
  exact⟨g,_,_,k.sub (kp [5] O),m,p,q,D,E⟩
 rintro z A ⟨I,af,ag,k,m,H,Y,r6,E⟩
 refine A6 ?_ k m
 clear k m A z
 rw[Ik] at E
 refine AI (AA O (AM O (kp [4] O) (A5 (λz A k m=>?_))))
 cases E
 exact Em k m O O Y ⟨O,r6,H⟩
def O3 (i:St S L h) {c:Int}(j:AH c) {a:Value}{c1_:(List BS)}(d:Pt S h (BZ.sl Cp) a c1_) {b:Value}{c2_:Int}(g:Pt S h AJ b c2_) {r:Bool}(E:FH N c1_ c2_ c=some r):
 DK prog 111 #[vI c,a,b] S h (λv S' h'=>v= .bool r∧St S' (L) h'):=by
 refine B0 (l:=[vI c,a,b]) 12 func111 O ntmps111 O λB=>?_
 rw[FH] at E
 refine AI (AM O (kp [0,1,2] O) (AE (CL (.inr ⟨mo,by kernel_rfl⟩) (BF Bu i.1 O d JK O λv1 m=>AA O ?_))))
 obtain⟨s,k,E⟩:=bd E
 refine B1 O O m I3 k O λt n=>A8 O n Lj Jw O λu o=>BC Bu i.1 O o BA O λw=>BC Bu i.1 O g BA O λx=>CV O (AM O (kp [4] O) (A5 (λy z p q=>?_)))
 cases E
 exact Em p q O O (C9.refl S h) ⟨O,i⟩
def LC (i:St S L h) {a:Int}(c:IntKind.has .u64 a) {b:Int}(d:IntKind.has .u64 b) {r:Int×Int}(E:HV N a b=some r):
 DK prog 94 #[.int .u64 a,.int .u64 b] S h (λv S' h'=>v= .tuple #[.int .u64 r.1,.int .u64 r.2]∧IntKind.has .u64 r.1∧IntKind.has .u64 r.2∧St S' (L) h'):=by
 refine B0 (l:=[.int .u64 a,.int .u64 b]) 51 func94 O ntmps94 O λB=>?_
 rw[HV] at E
 refine AI (A0 O (AM O (kp [0,1] O) (AI (AA O (PC O O O (AM O (kp [6,0,1] O) (AI (AA O (Jg (j:=32) O O O O (AM O (kp [7,6,0,1] O) (AI (AA O (PC O O O (AM O (kp [8,7,6,0,1] O) (AI (AA O (Jg (j:=32) O O O O (AM O (kp [9,8,7,6,0,1] O) (AI (AA O (AA O (Ic O O O (AM O (kp [10,9,8,7,6,0,1] O) (AI (AA O (AA O (Ic O O O (AA O (Jg (j:=32) O O O O ?_)))))))))))))))))))))))))))))
 refine J2 O O O (AM O (kp [11,9,7,6,0,1] O) (AI (AA O (PC O O O (AM O (kp [12,11,9,7,6,0,1] O) (AI (AA O (Jg (j:=32) O O O O (AM O (kp [13,12,9,7,6,0,1] O) (AI (AA O (AA O (AA O (Ic O O O (J2 O O O (AM O (kp [12,13,9,7,0,1] O) (AI (AA O (AA O (Ic O O O (AA O (J2 O O O (AA O (Jg (j:=32) O O O O (J2 O O O (AM O (kp [4,0,1] O) (AI (AA O (AA O ?_)))))))))))))))))))))))))))))
 refine Ic O O O (AM O (kp [5,4] O) (A5 (λm n g k=>?_)))
 cases E
 exact K5 g O k (JD (Jm g (v:=_) O) (JD (Jm g (v:=_) O) K4)) O (C9.refl S h) ⟨O,(E5 _ _),(E5 _ _),i⟩
def N2 (Q:St S L h) {d:Int}(g:IntKind.has .u64 d) {r:Int}(E:IS N d=some r):
 DK prog 112 #[.int .u64 d] S h (λv S' h'=>v=vI r∧AH r∧St S' (L) h'):=by
 refine B0 (l:=[.int .u64 d]) 25 func112 O ntmps112 O λB=>?_
 rw[IS] at E
 refine AI (AM O (kp [2,0] O) (AE (AI (AA O (HY O (AN (kp [4,2,0] O) (He (λa w=>∃(y:Int) (z:Int),IV B S h (25,[]) a w [(0,.int .u64 y),(2,vI z)] (L) λ_ _=>IntKind.has .u64 y∧AH z∧GW N y z=some r) ?_ ?_)))))))
 ·refine AY O E (λV E=>?_) (λV E=>?_)
  ·refine AI (AA O (Jg (j:=32) O O O O (AM O (kp [0] O) (CL (.inl O) (AM O (kp [2,0] O) (WF.nil (λm o b c=>?_)))))))
   exact⟨(Ew .u64 d 32),32,_,_,b.sub (kp [0,2] O),c,Q,(C9.refl S h),(QJ _ g _),(iq (n:=32) O),E⟩
  refine AS (WF.nil (λm o b c=>?_))
  exact⟨d,0,_,_,b.sub (kp [0,2] O),c,Q,(C9.refl S h),g,(iq (n:=0) O),E⟩
 rintro m o ⟨y,z,F,G,b,c,A,W,U,X,E⟩
 refine A6 ?_ b c
 clear b c o m
 rw[GW] at E
 refine AE (AI (AA O (HY O (AN (kp [8,0,2] O) (He (λa w=>∃(i:Int) (k:Int),IV B F G (25,[]) a w [(0,.int .u64 i),(2,vI k)] (L) λ_ _=>IntKind.has .u64 i∧AH k∧GV N i k=some r) ?_ ?_)))))
 ·refine AY O E (λH E=>?_) (λH E=>?_)
  ·refine AI (AA O (Jg (j:=16) O O O O (AM O (kp [0,2] O) (CL (.inl O) (AA O (A9 O (AM O (kp [2,0] O) (WF.nil (λm o b c=>?_)))))))))
   exact⟨(Ew .u64 y 16),(Bw (z+16)),_,_,b.sub (kp [0,2] O),c,A,(C9.refl F G),(QJ _ U _),(B5 _),E⟩
  refine AS (WF.nil (λm o b c=>?_))
  exact⟨y,z,_,_,b.sub (kp [0,2] O),c,A,(C9.refl F G),U,X,E⟩
 rintro m o ⟨i,k,u,x,b,c,s,I,C,J,E⟩
 refine A6 ?_ b c
 clear b c o m
 rw[GV] at E
 refine AE (AI (AA O (HY O (AN (kp [14,0,2] O) (He (λa w=>∃(p:Int) (q:Int),IV B u x (25,[]) a w [(0,.int .u64 p),(2,vI q)] (L) λ_ _=>IntKind.has .u64 p∧AH q∧GU N p q=some r) ?_ ?_)))))
 ·refine AY O E (λK E=>?_) (λK E=>?_)
  ·refine AI (AA O (Jg (j:=8) O O O O (AM O (kp [0,2] O) (CL (.inl O) (AA O (A9 O (AM O (kp [2,0] O) (WF.nil (λm o b c=>?_)))))))))
   exact⟨(Ew .u64 i 8),(Bw (k+8)),_,_,b.sub (kp [0,2] O),c,s,(C9.refl u x),(QJ _ C _),(B5 _),E⟩
  refine AS (WF.nil (λm o b c=>?_))
  exact⟨i,k,_,_,b.sub (kp [0,2] O),c,s,(C9.refl u x),C,J,E⟩
 rintro m o ⟨p,q,Y,Z,b,c,D,M,ab,ac,E⟩
 refine A6 ?_ b c
 clear b c o m
 rw[GU] at E
 refine AI (AA O (AA O (IU O L4 jO O ?_)))
 obtain⟨ad,t,E⟩:=bd E
 have ae:=O5 t
 refine PB O O RP t O (IU O jO PI O (A9 O (AM O (kp [2] O) (A5 (λm o b c=>?_)))))
 cases E
 exact Em b c O O (W.trans (I.trans M)) ⟨O,(B5 _),D⟩
def K6 (g:St S L h) {a:Int}(b:IntKind.has .u64 a) {r:Int}(E:FD N a=some r):
 DK prog 103 #[.int .u64 a] S h (λv S' h'=>v=vI r∧AH r∧St S' (L) h'):=by
 refine B0 (l:=[.int .u64 a]) 6 func103 O ntmps103 O λB=>?_
 rw[FD] at E
 refine AI (AM O (kp [0] O) (AE (Cn (.inl O) g (AA O ?_))))
 obtain⟨n,c,E⟩:=bd E
 refine DW O O O gG O (λh' o=>N2 (St.all h') b c) λi=>?_
 have p:=i
 refine Dl O (A0 O (B9 (kp [2] O) λq d j=>A5 (λs t k m=>?_)))
 cases E
 exact Em k m O O j ⟨O,(B5 _),d⟩
def LD (hs:St S L h) {d:Int}(Y:IntKind.has .u64 d) {b:Int}(A:IntKind.has .u64 b) {c:Int}(F:IntKind.has .u64 c) {r:Int×Int}(E:Ft N d b c=some r):
 DK prog 95 #[.int .u64 d,.int .u64 b,.int .u64 c] S h (λv S' h'=>v= .tuple #[.int .u64 r.1,.int .u64 r.2]∧IntKind.has .u64 r.1∧IntKind.has .u64 r.2∧St S' (L) h'):=by
 refine B0 (l:=[.int .u64 d,.int .u64 b,.int .u64 c]) 135 func95 O ntmps95 O λB=>?_
 rw[Ft] at E
 refine AI (A0 O (AM O (kp [0,1,2] O) (AE (AI (AA O (B6 O (AN (kp [20,0,1,2] O) (AY O E (λc1 E=>?_) (λc1 E=>?_)))))))))
 ·cases E
 refine AS (AE (AI (AA O (AA O (HX O (AN (kp [24,0,1,2] O) (AY O E (λc2 E=>?_) (λc2 E=>?_))))))))
 ·cases E
 refine AS (AE (AI (AA O (B6 O (AN (kp [27,0,1,2] O) (AY O E (λc3 E=>?_) (λc3 E=>?_)))))))
 ·refine AE (CL (.inr ⟨mo,by kernel_rfl⟩) (AA O (AA O ?_)))
  obtain⟨z4,Z,E⟩:=bd E
  have r5:IntKind.has .u64 z4:=NE Z
  refine TX O O O Z (AA O (AA O ?_))
  obtain⟨z6,ab,E⟩:=bd E
  have r7:IntKind.has .u64 z6:=YT A ab
  refine bT O O O ab (A0 O (AM O (kp [7,6] O) (A5 (λu x k m=>?_))))
  cases E
  exact K5 k O m (JD (Jm k (v:=_) O) (JD (Jm k (v:=_) O) K4)) O (C9.refl S h) ⟨O,r5,r7,hs⟩
 refine AS (AE (Cn (.inl O) hs (AA O ?_)))
 obtain⟨H,ak,E⟩:=bd E
 refine DW O O O gO O (λh' o=>K6 (St.all h') F ak) λr9=>?_
 have az:=r9
 refine IU O PI Uy O (A0 O (B9 (kp [8,0,1,2] O) λK ac al=>AI (AA O (AA O ?_))))
 obtain⟨g,ad,E⟩:=bd E
 refine TW (j:=g) O O O ad (AM O (kp [2,8,0,1] O) (AI (AA O (Jg (j:=32) O O O O (AM O (kp [9,2,8,0,1] O) (AI (AA O (PC O O O (AM O (kp [10,9,2,8,0,1] O) (AI (AA O (AA O ?_))))))))))))
 obtain⟨n,ae,E⟩:=bd E
 refine TW (j:=n) O O O ae (AA O (AA O (Mn O O O ?_)))
 obtain⟨p,af,E⟩:=bd E
 refine Jg (j:=p) O O O af (iA O O O (AM O (kp [11,10,9,2,8,1] O) (AI (AA O (AA O ?_)))))
 obtain⟨i,ag,E⟩:=bd E
 refine TW (j:=i) O O O ag (AM O (kp [12,11,10,9,2,8] O) (AI (AA O (Jg (j:=32) O O O O (AM O (kp [13,12,11,10,9,2,8] O) (AI (AA O (PC O O O (AM O (kp [14,13,11,10,9,2,8] O) (AI (AA O (AA O ?_))))))))))))
 obtain⟨M,I,E⟩:=bd E
 have am:IntKind.has .u64 M:=NE I
 refine TX O O O I (AM O (kp [15,14,13,11,10,9,2,8] O) (AI (AA O (AA O (AA O (Ic O O O (Mn O O O (AM O (kp [16,15,14,13,11,10,9,2,8] O) (AE (BH (λa w=>∃(q:Int),IV B S K (135,[]) a w [(14,.int .u64 (IF .and .u64 (D4 .u64 b i) 4294967295)),(13,.int .u64 (Ew .u64 (D4 .u64 b i) 32)),(11,.int .u64 (IF .or .u64 (D4 .u64 d n) (Ew .u64 b p))),(10,.int .u64 (IF .and .u64 (D4 .u64 c g) 4294967295)),(9,.int .u64 (Ew .u64 (D4 .u64 c g) 32)),(2,.int .u64 (D4 .u64 c g)),(8,.int .u64 (IntKind.wrap .u64 H)),(15,.int .u64 q)] (L) λ_ _=>IntKind.has .u64 q∧D9 N d b c H g n p i q=some r) ?_ ?_))))))))))
 ·refine BV (λn1=>λa w=>∃(s:Int) (y:Int),IV B S K (135,[]) a w [(14,.int .u64 (IF .and .u64 (D4 .u64 b i) 4294967295)),(13,.int .u64 (Ew .u64 (D4 .u64 b i) 32)),(11,.int .u64 (IF .or .u64 (D4 .u64 d n) (Ew .u64 b p))),(10,.int .u64 (IF .and .u64 (D4 .u64 c g) 4294967295)),(9,.int .u64 (Ew .u64 (D4 .u64 c g) 32)),(2,.int .u64 (D4 .u64 c g)),(8,.int .u64 (IntKind.wrap .u64 H)),(15,.int .u64 s),(16,.int .u64 y)] (L) λ_ _=>IntKind.has .u64 s∧IntKind.has .u64 y∧Dh N b c g i (D9 N d b c H g n p i) n1 s y=some r) N ?_ ?_ ?_
  ·intro u x k m
   exact⟨M,(IntKind.wrap .u64 ((IF .or .u64 (D4 .u64 d n) (Ew .u64 b p))-(IntKind.wrap .u64 (M*(Ew .u64 (D4 .u64 c g) 32))))),_,_,k.sub (kp [14,13,11,10,9,2,8,15,16] O),m,ac,(C9.refl S K),am,(E5 _ _),E⟩
  ·rintro u x ⟨_,_,_,_,_,_,_,_,_,_,E⟩
   rw[Dh] at E;cases E
  rintro n1 u x ⟨s,y,a0,a1,k,m,C,Q,an,a2,E⟩
  refine A6 ?_ k m
  clear k m x u
  rw[Dh] at E
  refine AE (AI (AA O (HY O (AA O (AW 9 78 (.bool ((decide (4294967296≤s))||(decide ((IntKind.wrap .u64 ((IntKind.wrap .u64 (4294967296*y))+(Ew .u64 (D4 .u64 b i) 32)))<(IntKind.wrap .u64 (s*(IF .and .u64 (D4 .u64 c g) 4294967295))))))) ?_ ?_)))))
  ·cases a3:(decide (4294967296≤s))
   ·exact AB O (AA O (AB O (AA O (AB O (Ic O O O (AB O (AA O (AB O (Ic O O O (AB O (AA O (AB O (J2 O O O (AB O (CV O (AL O (AV O)))))))))))))))))
   exact A4 O O
  refine AN (kp [78,14,13,11,10,9,2,8,15,16] O) (AY O E (λao E=>?_) (λao E=>?_))
  ·refine AS (BY (AI (AA O (Mn O O O (AM O (kp [15,14,13,11,10,9,2,8,16] O) (AI (AA O (AA O (J2 O O O (AM O (kp [16,15,14,13,11,10,9,2,8] O) (AI (AA O (HY O (AN (kp [85,16,15,14,13,11,10,9,2,8] O) (AY O E (λap E=>?_) (λap E=>?_))))))))))))))))
   ·refine By O (λu x k m=>?_)
    exact⟨(IntKind.wrap .u64 (s-1)),_,_,k.sub (kp [14,13,11,10,9,2,8,15] O),m,C,Q,(E5 _ _),E⟩
   refine AS (B7 (WF.nil (λu x k m=>?_)))
   exact⟨(IntKind.wrap .u64 (s-1)),(IntKind.wrap .u64 (y+(Ew .u64 (D4 .u64 c g) 32))),_,_,k.sub (kp [14,13,11,10,9,2,8,15,16] O),m,C,Q,(E5 _ _),(E5 _ _),E⟩
  refine By O (λu x k m=>?_)
  exact⟨s,_,_,k.sub (kp [14,13,11,10,9,2,8,15] O),m,C,Q,an,E⟩
 rintro u x ⟨q,U,V,k,m,ah,aq,a4,E⟩
 refine A6 ?_ k m
 clear k m x u
 rw[D9] at E
 refine AI (AA O (Ic O O O (AA O (J2 O O O (AA O (AA O (Ic O O O (Mn O O O (AM O (kp [17,14,10,9,2,8,15] O) (AI (AA O (AA O ?_))))))))))))
 obtain⟨W,J,E⟩:=bd E
 have ar:IntKind.has .u64 W:=NE J
 refine TX O O O J (AM O (kp [18,17,14,10,9,2,8,15] O) (AI (AA O (AA O (AA O (Ic O O O (Mn O O O (AM O (kp [16,18,17,14,10,9,2,8,15] O) (AE (BH (λa w=>∃(G:Int),IV B U V (135,[]) a w [(17,.int .u64 (IntKind.wrap .u64 ((IntKind.wrap .u64 ((IntKind.wrap .u64 ((IF .or .u64 (D4 .u64 d n) (Ew .u64 b p))*4294967296))+(Ew .u64 (D4 .u64 b i) 32)))-(IntKind.wrap .u64 (q*(D4 .u64 c g)))))),(14,.int .u64 (IF .and .u64 (D4 .u64 b i) 4294967295)),(2,.int .u64 (D4 .u64 c g)),(8,.int .u64 (IntKind.wrap .u64 H)),(15,.int .u64 q),(18,.int .u64 G)] (L) λ_ _=>IntKind.has .u64 G∧FE N d b c H g n p i q G=some r) ?_ ?_))))))))))
 ·refine BV (λn3=>λa w=>∃(z:Int) (t:Int),IV B U V (135,[]) a w [(17,.int .u64 (IntKind.wrap .u64 ((IntKind.wrap .u64 ((IntKind.wrap .u64 ((IF .or .u64 (D4 .u64 d n) (Ew .u64 b p))*4294967296))+(Ew .u64 (D4 .u64 b i) 32)))-(IntKind.wrap .u64 (q*(D4 .u64 c g)))))),(14,.int .u64 (IF .and .u64 (D4 .u64 b i) 4294967295)),(10,.int .u64 (IF .and .u64 (D4 .u64 c g) 4294967295)),(9,.int .u64 (Ew .u64 (D4 .u64 c g) 32)),(2,.int .u64 (D4 .u64 c g)),(8,.int .u64 (IntKind.wrap .u64 H)),(15,.int .u64 q),(16,.int .u64 z),(18,.int .u64 t)] (L) λ_ _=>IntKind.has .u64 z∧IntKind.has .u64 t∧D8 N b c g i (FE N d b c H g n p i q) n3 z t=some r) N ?_ ?_ ?_
  ·intro u x k m
   exact⟨(IntKind.wrap .u64 ((IntKind.wrap .u64 ((IntKind.wrap .u64 ((IntKind.wrap .u64 ((IF .or .u64 (D4 .u64 d n) (Ew .u64 b p))*4294967296))+(Ew .u64 (D4 .u64 b i) 32)))-(IntKind.wrap .u64 (q*(D4 .u64 c g)))))-(IntKind.wrap .u64 (W*(Ew .u64 (D4 .u64 c g) 32))))),W,_,_,k.sub (kp [17,14,10,9,2,8,15,16,18] O),m,ah,(C9.refl U V),(E5 _ _),ar,E⟩
  ·rintro u x ⟨_,_,_,_,_,_,_,_,_,_,E⟩
   rw[D8] at E;cases E
  rintro n3 u x ⟨z,t,a5,a6,k,m,D,X,a7,au,E⟩
  refine A6 ?_ k m
  clear k m x u
  rw[D8] at E
  refine AE (AI (AA O (HY O (AA O (AW 9 113 (.bool ((decide (4294967296≤t))||(decide ((IntKind.wrap .u64 ((IntKind.wrap .u64 (4294967296*z))+(IF .and .u64 (D4 .u64 b i) 4294967295)))<(IntKind.wrap .u64 (t*(IF .and .u64 (D4 .u64 c g) 4294967295))))))) ?_ ?_)))))
  ·cases a8:(decide (4294967296≤t))
   ·exact AB O (AA O (AB O (AA O (AB O (Ic O O O (AB O (AA O (AB O (Ic O O O (AB O (AA O (AB O (J2 O O O (AB O (CV O (AL O (AV O)))))))))))))))))
   exact A4 O O
  refine AN (kp [113,17,14,10,9,2,8,15,16,18] O) (AY O E (λav E=>?_) (λav E=>?_))
  ·refine AS (BY (AI (AA O (Mn O O O (AM O (kp [18,17,14,10,9,2,8,15,16] O) (AI (AA O (AA O (J2 O O O (AM O (kp [16,18,17,14,10,9,2,8,15] O) (AI (AA O (HY O (AN (kp [120,16,18,17,14,10,9,2,8,15] O) (AY O E (λaw E=>?_) (λaw E=>?_))))))))))))))))
   ·refine By O (λu x k m=>?_)
    exact⟨(IntKind.wrap .u64 (t-1)),_,_,k.sub (kp [17,14,2,8,15,18] O),m,D,X,(E5 _ _),E⟩
   refine AS (B7 (WF.nil (λu x k m=>?_)))
   exact⟨(IntKind.wrap .u64 (z+(Ew .u64 (D4 .u64 c g) 32))),(IntKind.wrap .u64 (t-1)),_,_,k.sub (kp [17,14,10,9,2,8,15,16,18] O),m,D,X,(E5 _ _),(E5 _ _),E⟩
  refine By O (λu x k m=>?_)
  exact⟨t,_,_,k.sub (kp [17,14,2,8,15,18] O),m,D,X,au,E⟩
 rintro u x ⟨G,a9,ba,k,m,ai,ax,bb,E⟩
 refine A6 ?_ k m
 clear k m x u
 rw[FE] at E
 refine AI (AA O (Ic O O O (AA O (J2 O O O (AA O (Ic O O O (AA O (J2 O O O (AA O (AA O (Ic O O O (Mn O O O (AA O ?_)))))))))))))
 obtain⟨ay,aj,E⟩:=bd E
 refine Jg (j:=ay) O O O aj (A0 O (AM O (kp [7,6] O) (A5 (λu x k m=>?_))))
 cases E
 exact K5 k O m (JD (Jm k (v:=_) O) (JD (Jm k (v:=_) O) K4)) O (al.trans (aq.trans ax)) ⟨O,(E5 _ _),(QJ _ (E5 _ _) _),ai⟩
end Go.Proofs.YtblcgjadhemlbaaGreat
