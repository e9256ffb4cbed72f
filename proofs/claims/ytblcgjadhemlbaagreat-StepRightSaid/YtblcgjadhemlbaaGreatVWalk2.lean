import Derived.Test.YtblcgjadhemlbaaGreatVWalk1
namespace Go.Proofs.YtblcgjadhemlbaaGreat
set_option linter.all false
open Go.RowKit
open Go.Proofs.Tryz
set_option maxRecDepth 10000
set_option maxHeartbeats 2000000
variable {N:Nat}{S:Nat→Prop}{L:List HP}{h:BL}
def Jj (q:St S L h) {b:Int}(d:AH b) {a:Int}(g:AH a) {r:Bool}(E:Gn N b a=some r):
 C5 prog 73 #[vI b,vI a] S h (λv S' h'=>v= .bool r∧St S' (L) h'):=by
 refine Bv (l:=[vI b,vI a]) 19 func73 O ntmps73 O λB=>?_
 rw[Gn] at E
 refine AI (AM O (kp [0,1] O) (AE (CX (.inl O) q (AA O ?_))))
 obtain⟨s,j,E⟩:=bd E
 refine BR O O O KB O (λh' o=>Cf (St.all h') d j) (AA O ?_)
 obtain⟨k,c,E⟩:=bd E
 refine AW 3 10 (.bool k) ?_ ?_
 ·cases p:s
  ·have c:=HG p c
   cases c
   exact A3 O O
  have c:=HE p c
  refine AB O (AA O (AB O ?_))
  obtain⟨w,m,c⟩:=bd c
  refine BR O O O KB O (λh' o=>Cf (St.all h') g m) (AL O ?_)
  cases c
  exact AV O
 refine AA O (AW 7 18 (.bool (k&&((decide (a≠0))||(decide (b=0))))) ?_ ?_)
 ·cases x:k
  ·exact A3 O O
  refine AB O (AA O (AB O (CW O (AB O (AA O (AW 3 17 (.bool ((decide (a≠0))||(decide (b=0)))) ?_ ?_))))))
  ·cases y:(decide (a≠0))
   ·exact AB O (AA O (AB O (B9 O (AB O (AL O (AV O))))))
   exact A3 O O
  exact AL O (AV O)
 refine AY O (B3 (kp [4] O) λz i n=>A5 (λA C t u=>?_))
 cases E
 exact Ee t u O O n ⟨O,i⟩
def HA (j:St S L h) {b:Int}(c:AH b) {a:Int}(d:AH a) {r:Bool}(E:E5 N b a=some r):
 C5 prog 75 #[vI b,vI a] S h (λv S' h'=>v= .bool r∧St S' (L) h'):=by
 refine Bv (l:=[vI b,vI a]) 9 func75 O ntmps75 O λB=>?_
 rw[E5] at E
 refine AI (AM O (kp [0,1] O) (AE (CX (.inl O) j (AA O (AA O (Dk O ?_))))))
 obtain⟨q,g,E⟩:=bd E
 refine BR O O O IZ O (λh' o=>CV (St.all h') c (iq (n:=0) O) (B1 _) g) (AY O (B3 (kp [4] O) λs i k=>A5 (λt u m p=>?_)))
 cases E
 exact Ee m p O O k ⟨O,i⟩
def L3 (z:St S L h) {c:Value}{j:AU}(i:Rd S h CZ c j) {a:Int}(k:AH a) {b:Int}(g:AH b) {r:Bool}(E:IX N j a b=some r):
 C5 prog 74 #[c,vI a,vI b] S h (λv S' h'=>v= .bool r∧St S' (L) h'):=by
 refine Bv (l:=[c,vI a,vI b]) 21 func74 O ntmps74 O λB=>?_
 rw[IX] at E
 refine WF.sl (Cm O i (λe=>by cases e) O z λK S2 M m A C=>AF 1 (AY O (AG (AZ (kp [3,1,2] O) (AE (CX (.inl O) m (AA O (B9 O (AA O ?_)))))))))
 obtain⟨D,d,E⟩:=bd E
 refine AW 11 20 (.bool D) ?_ ?_
 ·cases y:(decide (b=(-1)))
  ·have d:=HG y d
   refine AB O (AA O (AB O (A8 O C B6 Do O λQ t=>AB O (BG CL m.1 O t Gu O λF u=>AB O (BC O u Fy O λw=>AB O ?_)))))
   obtain⟨n,p,d⟩:=bd d
   refine BR O O O QP O (λh' o=>HA (St.all h') g (J9 w) p) (AB O (AA O (AW 4 19 (.bool (n&&(decide (b≠a)))) ?_ ?_)))
   ·cases G:n
    ·exact A3 O O
    exact AB O (AA O (AB O (AA O (AB O (CW O (AB O (AL O (AV O))))))))
   refine AL O ?_
   cases d
   exact AV O
  have d:=HE y d
  cases d
  exact A3 O O
 refine AY O (B3 (kp [6] O) λH s x=>A5 (λU V I J=>?_))
 cases E
 exact Ee I J O O (A.trans x) ⟨O,s⟩
def Mg (hs:St S L h) {W:Value}{c:AU}(aw:Rd S h CZ W c) {r:Bool}(E:FV N c=some r):
 C5 prog 49 #[W] S h (λv S' h'=>v= .bool r∧St S' (L) h'):=by
 refine Bv (l:=[W]) 122 func49 O ntmps49 O λB=>?_
 rw[FV] at E
 refine WF.sl (Cm O aw (λe=>by cases e) O hs λq1 S2 h3 bo e5 k6=>AF 1 (AY O (AG (AZ (kp [1] O) (AI (AM O (kp [3,1] O) (AE (AI (A8 O k6 B6 Do O λq7 k8=>BG BY bo.1 O k8 Gu O λv9 bp=>BC O bp Fy O λd9=>AA O (AN (kp [14,13,12,3,1] O) (BF (λa w=>∃(ax:Int),IV B S2 h3 (122,[]) a w [(3,vI ax)] (L) λ_ _=>AH ax∧CI N ax=some r) ?_ ?_)))))))))))
 ·refine BT (λn1=>λa w=>∃(ak:Int) (k:Int),IV B S2 h3 (122,[]) a w [(13,vI (↑c.A.length:Int)),(12,v9),(1,q1),(3,vI ak),(14,vI k)] (L) λ_ _=>AH ak∧AH k∧B8 N c (CI N) n1 ak k=some r) N ?_ ?_ ?_
  ·intro m p g i
   exact⟨0,0,_,_,g.sub (kp [13,12,1,3,14] O),i,bo,(Cv.refl S2 h3),(iq (n:=0) O),(iq (n:=0) O),E⟩
  ·rintro m p ⟨_,_,_,_,_,_,_,_,_,_,E⟩
   rw[B8] at E;cases E
  rintro n1 m p ⟨ak,k,ay,cy,g,i,am,X,bq,cz,E⟩
  refine A6 ?_ g i
  clear g i p m
  rw[B8] at E
  refine AI (BK O (AN (kp [15,13,12,1,3,14] O) (AE (AX O E (λc0 E=>?_) (λc0 E=>?_)))))
  ·refine AT (AE (BF (λa w=>∃(an:Int),IV B ay cy (122,[]) a w [(13,vI (↑c.A.length:Int)),(12,v9),(1,q1),(14,vI k),(3,vI an)] (L) λ_ _=>AH an∧Ck N k (B8 N c (CI N) n1) an=some r) ?_ ?_))
   ·refine WF.sl (AF 3 (AA O ?_))
    obtain⟨b,br,E⟩:=bd E
    refine Bz O O (bp.mono' X) Fy br O λea c1=>Ci BY am.1 O c1 KX (λe=>by cases e) O λeb c2=>AG (Di O2 O am λaz ec bs Y=>AF 1 (AY O (AG ?_)))
    obtain⟨a0,ao,ap,rfl,ed,c3,c4,c5,bt,a9,c6,c7,c8,c9,da,bu⟩:=Cd.ex (c2.mono Y)
    refine IA (vs:=[.string b.F,vI b.C,vI b.An,vI b.Aj,a0,ao,vI b.S,vI b.L,vI b.Ak,vI b.K,vI b.Bd,ap]) (cs':=[.string b.F,vI b.C,vI b.An,vI b.Aj,a0,ao,vI b.S,vI b.L,vI b.Ak,vI b.K,vI b.Bd,ap]) O O O (AC O (AC O (AC O (AC O (AC bt.one (AC a9.one (AC O (AC O (AC O (AC O (AC O (AC bu.one FA)))))))))))) KX O bs .head O O λee d I=>AZ (kp [4,5,13,12,1,3,14] O) (AE (AE (CX (.inl O) d (AD ZM O (AS CL d O mh O A7 O ?_)))))
    obtain⟨db,bv,E⟩:=bd E
    refine BR O O O IZ O (λh' o=>CV (St.all h') c3 (iq (n:=0) O) (iq (n:=3) O) bv) (CE O (AA O ?_))
    obtain⟨bw,s,E⟩:=bd E
    refine AW 5 28 (.bool bw) ?_ ?_
    ·cases bx:(!db)
     ·have s:=HG bx s
      refine AB O (AD MG O (AB O (AS CL d O mh O A7 O (AB O ?_))))
      obtain⟨ef,bz,s⟩:=bd s
      refine BR O O O IZ O (λh' o=>CV (St.all h') c4 (iq (n:=0) O) (iq (n:=2) O) bz) (AB O (CE O (AL O ?_)))
      cases s
      exact AV O
     have s:=HE bx s
     cases s
     exact A3 O O
    refine AA O ?_
    obtain⟨b0,t,E⟩:=bd E
    refine AW 5 34 (.bool b0) ?_ ?_
    ·cases b1:bw
     ·have t:=HG b1 t
      refine AB O (AD SH O (AB O (AS CL d O mh O A7 O (AB O ?_))))
      obtain⟨eg,b2,t⟩:=bd t
      refine BR O O O IZ O (λh' o=>CV (St.all h') c9 (iq (n:=0) O) (iq (n:=240) O) b2) (AB O (CE O (AL O ?_)))
      cases t
      exact AV O
     have t:=HE b1 t
     cases t
     exact A3 O O
    refine AA O ?_
    obtain⟨b3,u,E⟩:=bd E
    refine AW 5 40 (.bool b3) ?_ ?_
    ·cases b4:b0
     ·have u:=HG b4 u
      refine AB O (AD SK O (AB O (AS CL d O mh O A7 O (AB O ?_))))
      obtain⟨eh,b5,u⟩:=bd u
      refine BR O O O KB O (λh' o=>Cf (St.all h') c5 b5) (AB O (CE O (AL O ?_)))
      cases u
      exact AV O
     have u:=HE b4 u
     cases u
     exact A3 O O
    refine AA O ?_
    obtain⟨b6,x,E⟩:=bd E
    refine AW 5 46 (.bool b6) ?_ ?_
    ·cases b7:b3
     ·have x:=HG b7 x
      refine AB O (AD Xj O (AB O (AS CL d O mh O A7 O (AB O ?_))))
      obtain⟨ei,b8,x⟩:=bd x
      refine BR O O O KB O (λh' o=>Cf (St.all h') da b8) (AB O (CE O (AL O ?_)))
      cases x
      exact AV O
     have x:=HE b7 x
     cases x
     exact A3 O O
    refine AA O ?_
    obtain⟨a1,y,E⟩:=bd E
    refine AW 5 52 (.bool a1) ?_ ?_
    ·cases b9:b6
     ·have y:=HG b9 y
      refine AB O (AD ZL O (AB O (AS CL d O mh O I4 O (AB O ?_))))
      obtain⟨ej,ca,y⟩:=bd y
      refine BR O O O QQ O (λh' o=>G9 (St.all h') ((bt.mono' I).mono' (o.all d.1)) ca) (AB O (CE O (AL O ?_)))
      cases y
      exact AV O
     have y:=HE b9 y
     cases y
     exact A3 O O
    refine AA O (AW 8 61 (.bool (a1||(decide ((↑b.As.length:Int)≠(↑c.H.length:Int))))) ?_ ?_)
    ·cases ek:a1
     ·exact AB O (AD SJ O (AB O (AS CL d O mh O CG O (AB O (BC O (a9.mono' I) CA O λel=>AB O (A8 O (k6.mono (X.trans (Y.trans I))) E6 If O λem dc=>AB O (BG CL d.1 O dc LA O λen dd=>AB O (BC O dd Kt O λeo=>AB O (CW O (AL O (AV O)))))))))))
     exact A3 O O
    refine AA O ?_
    obtain⟨cb,z,E⟩:=bd E
    refine AW 7 69 (.bool cb) ?_ ?_
    ·cases cc:(a1||(decide ((↑b.As.length:Int)≠(↑c.H.length:Int))))
     ·have z:=HG cc z
      refine AB O (AD SI O (AB O (AS CL d O mh O A7 O (AB O (AD Lb O (AB O (AS CL d O mh O A7 O (AB O ?_))))))))
      obtain⟨ep,cd,z⟩:=bd z
      refine BR O O O YI O (λh' o=>Jj (St.all h') c6 c7 cd) (AB O (CE O (AL O ?_)))
      cases z
      exact AV O
     have z:=HE cc z
     cases z
     exact A3 O O
    refine AA O ?_
    obtain⟨de,D,E⟩:=bd E
    refine AW 7 77 (.bool de) ?_ ?_
    ·cases ce:cb
     ·have D:=HG ce D
      refine AB O (Ci CL d.1 O (k6.mono (X.trans (Y.trans I))) HS (λe=>by cases e) O λdg cf=>AB O (AA O (AB O (AD Po O (AB O (AS CL d O mh O A7 O (AB O ?_)))))))
      obtain⟨dh,ba,D⟩:=bd D
      refine BR O O O aQ O (λh' o=>L3 (St.all h') (cf.mono (o.all d.1)) cz c8 ba) (AB O (CE O (AL O ?_)))
      cases D
      exact AV O
     have D:=HE ce D
     cases D
     exact A3 O O
    refine B3 (kp [77,5,13,12,1,3,14] O) λaq ad J=>AX O E (λcg E=>?_) (λcg E=>?_)
    ·refine AI (AM O (kp [2] O) (A5 (λm p g i=>?_)))
     have bb:=ad.drop .head
     cases E
     exact Ee g i O O (e5.trans (X.trans (Y.trans (I.trans J)))) ⟨O,bb⟩
    refine AT (AE (AI (AD SJ O (AS BY ad O mh O CG O ?_))))
    have a2:=a9.mono' (I.trans J)
    refine BC O a2 CA O λdi=>AA O (AN (kp [81,80,79,5,13,12,1,3,14] O) (BF (λa w=>∃(M:Int),IV B ay aq (122,[]) a w [(5,vP az 0),(13,vI (↑c.A.length:Int)),(12,v9),(1,q1),(14,vI k),(3,vI M)] (Bx az 56 [.string b.F,vI b.C,vI b.An,vI b.Aj,a0,ao,vI b.S,vI b.L,vI b.Ak,vI b.K,vI b.Bd,ap]::L) λ_ _=>AH M∧ES N c b (Ck N k (B8 N c (CI N) n1)) M=some r) ?_ ?_))
    ·refine BT (λn4=>λa w=>∃(V:Int) (Z:Int),IV B ay aq (122,[]) a w [(80,vI (↑b.As.length:Int)),(79,ao),(5,vP az 0),(13,vI (↑c.A.length:Int)),(12,v9),(1,q1),(14,vI k),(3,vI V),(81,vI Z)] (Bx az 56 [.string b.F,vI b.C,vI b.An,vI b.Aj,a0,ao,vI b.S,vI b.L,vI b.Ak,vI b.K,vI b.Bd,ap]::L) λ_ _=>AH V∧AH Z∧C0 N b (ES N c b (Ck N k (B8 N c (CI N) n1))) n4 V Z=some r) N ?_ ?_ ?_
     ·intro m p g i
      exact⟨ak,0,_,_,g.sub (kp [80,79,5,13,12,1,14,3,81] O),i,ad,(Cv.refl ay aq),bq,(iq (n:=0) O),E⟩
     ·rintro m p ⟨_,_,_,_,_,_,_,_,_,_,E⟩
      rw[C0] at E;cases E
     rintro n4 m p ⟨V,Z,dj,dk,g,i,ae,ah,ch,dl,E⟩
     refine A6 ?_ g i
     clear g i p m
     rw[C0] at E
     refine AI (BK O (AN (kp [82,80,79,5,13,12,1,14,3,81] O) (AE (AX O E (λci E=>?_) (λci E=>?_)))))
     ·refine AT (AE (BV (AI ?_)))
      obtain⟨cj,bc,E⟩:=bd E
      refine Bz O O (a2.mono' ah) CA bc O λdm ck=>A9 BY ae.1 O ck A7 O λcl=>AM O (kp [7,80,79,5,13,12,1,14,3,81] O) (AE (AE (CX (.inl O) ae (AA O ?_))))
      obtain⟨dn,be,E⟩:=bd E
      refine BR O O O KB O (λh' o=>Cf (St.all h') cl be) (CE O (B3 (kp [87,7,80,79,5,13,12,1,14,3,81] O) λdp ar a3=>AX O E (λcm E=>?_) (λcm E=>?_)))
      ·refine AI (AM O (kp [2] O) (A5 (λm p g i=>?_)))
       have bf:=ar.drop .head
       cases E
       exact Ee g i O O (e5.trans (X.trans (Y.trans (I.trans (J.trans (ah.trans a3)))))) ⟨O,bf⟩
      refine AT (CN (.inl O) (AA O (AA O (BB O (AM O (kp [3,80,79,5,13,12,1,14,81] O) (B5 (CN (.inl O) (BB O (AA O (AN (kp [81,3,80,79,5,13,12,1,14] O) (WF.nil (λm p g i=>?_))))))))))))
      exact⟨(B0 (V+cj)),(B0 (Z+1)),_,_,g.sub (kp [80,79,5,13,12,1,14,3,81] O),i,ar,(ah.trans a3),(B1 _),(B1 _),E⟩
     refine By O (λm p g i=>?_)
     exact⟨V,_,_,g.sub (kp [5,13,12,1,14,3] O),i,ae,ah,ch,E⟩
    rintro m p ⟨M,a4,a5,g,i,au,ai,cn,E⟩
    refine A6 ?_ g i
    clear g i p m
    rw[ES] at E
    refine AI (AM O (kp [8,5,13,12,1,14,3] O) (AI (AD Xi O (AS BY au O mh O eX O ?_))))
    have a6:=bu.mono' (I.trans (J.trans ai))
    refine BC O a6 Z9 O λdq=>AA O (AN (kp [95,94,93,8,13,12,1,14,3] O) (BV (BT (λn5=>λa w=>∃(Q:Int) (ab:Int),IV B a4 a5 (122,[]) a w [(94,vI (↑b.Aa.length:Int)),(93,ap),(13,vI (↑c.A.length:Int)),(12,v9),(1,q1),(14,vI k),(3,vI M),(8,vI Q),(95,vI ab)] (L) λ_ _=>AH Q∧AH ab∧Cz N c b M (Ck N k (B8 N c (CI N) n1)) n5 Q ab=some r) N ?_ ?_ ?_)))
    ·intro m p g i
     have bg:=au.drop .head
     exact⟨(-1),0,_,_,g.sub (kp [94,93,13,12,1,14,3,8,95] O),i,bg,(Cv.refl a4 a5),(iq (n:=(-1)) O),(iq (n:=0) O),E⟩
    ·rintro m p ⟨_,_,_,_,_,_,_,_,_,_,E⟩
     rw[Cz] at E;cases E
    rintro n5 m p ⟨Q,ab,dr,ds,g,i,af,ac,dt,du,E⟩
    refine A6 ?_ g i
    clear g i p m
    rw[Cz] at E
    refine AI (BK O (AN (kp [96,94,93,13,12,1,14,3,8,95] O) (AE (AX O E (λco E=>?_) (λco E=>?_)))))
    ·refine AT (AE (BV (WF.sl (AF 2 ?_))))
     obtain⟨G,bh,E⟩:=bd E
     refine Bz O O (a6.mono' ac) Z9 bh O λdv cp=>Ci BY af.1 O cp Wi (λe=>by cases e) O λdw cq=>AG (Di bD O af λdx dy bi aj=>?_)
     obtain⟨rfl,⟨cr,cs⟩⟩:=Kq.ex (cq.mono aj)
     refine EW (vs:=[vI G.Bg,vI G.Bp]) O O O O Wi O bi .head O λdz U av=>AZ (kp [10,94,93,13,12,1,14,3,8,95] O) (AE (AE (CX (.inl O) U (AD QK O (AS CL U O mh O A7 O (AA O (HO O (AA O (AW 6 109 (.bool ((decide (G.Bg≤Q))||(decide (c.R≤G.Bg)))) ?_ ?_)))))))))
     ·cases d0:(decide (G.Bg≤Q))
      ·exact AB O (AD QK O (AB O (AS CL U O mh O A7 O (AB O (A8 O (k6.mono (X.trans (Y.trans (I.trans (J.trans (ai.trans (ac.trans (aj.trans av)))))))) LR SQ O λd1 ct=>AB O (A9 CL U.1 O ct A7 O λd2=>AB O (HQ O (AL O (AV O)))))))))
      exact A3 O O
     refine AA O ?_
     obtain⟨cu,j,E⟩:=bd E
     refine AW 5 115 (.bool cu) ?_ ?_
     ·cases a7:((decide (G.Bg≤Q))||(decide (c.R≤G.Bg)))
      ·have j:=HG a7 j
       refine AB O (AD Xl O (AB O (AS CL U O mh O A7 O (AB O ?_))))
       obtain⟨d3,bj,j⟩:=bd j
       refine BR O O O KB O (λh' o=>Cf (St.all h') cs bj) (AB O (CE O (AL O ?_)))
       cases j
       exact AV O
      have j:=HE a7 j
      cases j
      exact A3 O O
     refine B3 (kp [115,10,94,93,13,12,1,14,3,95] O) λd4 ag a8=>AX O E (λcv E=>?_) (λcv E=>?_)
     ·refine AI (AM O (kp [2] O) (A5 (λm p g i=>?_)))
      have bk:=ag.drop .head
      cases E
      exact Ee g i O O (e5.trans (X.trans (Y.trans (I.trans (J.trans (ai.trans (ac.trans (aj.trans (av.trans a8))))))))) ⟨O,bk⟩
     refine AT (CN (.inl O) (AD QK O (AS BY ag O mh O A7 O (AM O (kp [8,94,93,13,12,1,14,3,95] O) (B5 (CN (.inl O) (BB O (AA O (AN (kp [95,8,94,93,13,12,1,14,3] O) (WF.nil (λm p g i=>?_)))))))))))
     have bl:=ag.drop .head
     exact⟨G.Bg,(B0 (ab+1)),_,_,g.sub (kp [94,93,13,12,1,14,3,8,95] O),i,bl,(ac.trans (aj.trans (av.trans a8))),cr,(B1 _),E⟩
    refine LN O (WF.nil (λm p g i=>?_))
    exact⟨M,_,_,g.sub (kp [13,12,1,14,3] O),i,af,(Y.trans (I.trans (J.trans (ai.trans ac)))),cn,E⟩
   rintro m p ⟨an,d5,d6,g,i,bm,cw,df,E⟩
   refine A6 ?_ g i
   clear g i p m
   rw[Ck] at E
   refine CN (.inl O) (BB O (AA O (AN (kp [14,13,12,1,3] O) (WF.nil (λm p g i=>?_)))))
   exact⟨an,(B0 (k+1)),_,_,g.sub (kp [13,12,1,3,14] O),i,bm,(X.trans cw),df,(B1 _),E⟩
  refine By O (λm p g i=>?_)
  exact⟨ak,_,_,g.sub (kp [3] O),i,am,X,bq,E⟩
 rintro m p ⟨ax,d7,d8,g,i,bn,cx,eq,E⟩
 refine A6 ?_ g i
 clear g i p m
 rw[CI] at E
 refine AI (AA O (HO O (AM O (kp [2] O) (A5 (λm p g i=>?_)))))
 cases E
 exact Ee g i O O (e5.trans cx) ⟨O,bn⟩
def PL (hs:St S L h) {d:Int}(t:AH d) {c:Value}{s:(Int→Option Bool)}(u:Rd S h (BW.fn prog (λx:Int=>([vI x]:List Value)) (λx:Int=>AH x) (λy:Bool=> .bool y) (λy:Bool=>True)) c s) {r:Int}(E:KQ N d s=some r):
 C5 prog 110 #[vI d,c] S h (λv S' h'=>v=vI r∧AH r∧St S' (L) h'):=by
 refine Bv (l:=[vI d,c]) 26 func110 O ntmps110 O λB=>?_
 rw[KQ] at E
 obtain⟨K,M,rfl,Q,U⟩:=u.fn
 refine AI (AM O (kp [0,1] O) (AI (AA O (AY O (AM O (kp [6,5,1] O) (AE (BF (λa w=>∃(I:Int),IV B S h (26,[]) a w [(5,vI I)] (L) λ_ _=>AH I∧IR N I=some r) ?_ ?_)))))))
 ·refine BT (λZ=>λa w=>∃(g:Int) (i:Int),IV B S h (26,[]) a w [(1,(.func (.func K) #[] M)),(5,vI g),(6,vI i)] (L) λ_ _=>AH g∧AH i∧GA N s (IR N) Z g i=some r) N ?_ ?_ ?_
  ·intro z A k m
   exact⟨0,d,_,_,k.sub (kp [1,5,6] O),m,hs,(Cv.refl S h),(iq (n:=0) O),t,E⟩
  ·rintro z A ⟨_,_,_,_,_,_,_,_,_,_,E⟩
   rw[GA] at E;cases E
  rintro Z z A ⟨g,i,ab,ac,k,m,p,q,D,V,E⟩
  refine A6 ?_ k m
  clear k m A z
  rw[GA] at E
  refine AE (AI (AA O (AA O (BK O (AN (kp [11,1,5,6] O) (AX O E (λW E=>?_) (λW E=>?_)))))))
  ·refine AT (BV (AI (AA O (AA O (BB O (H9 O Oj T9 O (JL (j:=1) O O O O (H9 O T9 Oj O (AM O (kp [7,1,5,6] O) (AE (CX (.inl O) p (AA O (AA O ?_)))))))))))))
   obtain⟨ad,F,E⟩:=bd E
   refine BR O O O Q O (λh' o=>U _ h' (λb J=>nH (p.1 b (q.sub b J)) o.siz) (λb J=>(o.same b (p.1 b (q.sub b J))).trans (q.same b J)) [] (St.all h') _ _ (B1 _) F) (CE O (B3 (kp [21,7,1,5,6] O) λae C G=>AX O E (λX E=>?_) (λX E=>?_)))
   ·refine CN (.inl O) (AA O (BB O (AM O (kp [5,1,6] O) (B5 (WF.nil (λz A k m=>?_))))))
    exact⟨(B0 ((B0 (Eg .u64 (IntKind.wrap .u64 (B0 (g+i))) 1))+1)),i,_,_,k.sub (kp [1,5,6] O),m,C,(q.trans G),(B1 _),V,E⟩
   refine CN (.inl O) (AA O (AM O (kp [6,1,5] O) (B5 (WF.nil (λz A k m=>?_)))))
   exact⟨g,(B0 (Eg .u64 (IntKind.wrap .u64 (B0 (g+i))) 1)),_,_,k.sub (kp [1,5,6] O),m,C,(q.trans G),D,(B1 _),E⟩
  refine By O (λz A k m=>?_)
  exact⟨g,_,_,k.sub (kp [5] O),m,p,q,D,E⟩
 rintro z A ⟨I,af,ag,k,m,H,Y,r6,E⟩
 refine A6 ?_ k m
 clear k m A z
 rw[IR] at E
 refine AI (AA O (AM O (kp [4] O) (A5 (λz A k m=>?_))))
 cases E
 exact Ee k m O O Y ⟨O,r6,H⟩
def OV (i:St S L h) {c:Int}(j:AH c) {a:Value}{c1_:(List B4)}(d:Pt S h (BW.sl CY) a c1_) {b:Value}{c2_:Int}(g:Pt S h AJ b c2_) {r:Bool}(E:Hw N c1_ c2_ c=some r):
 C5 prog 111 #[vI c,a,b] S h (λv S' h'=>v= .bool r∧St S' (L) h'):=by
 refine Bv (l:=[vI c,a,b]) 12 func111 O ntmps111 O λB=>?_
 rw[Hw] at E
 refine AI (AM O (kp [0,1,2] O) (AE (CN (.inr ⟨mo,by kernel_rfl⟩) (BG BY i.1 O d I4 O λv1 m=>AA O ?_))))
 obtain⟨s,k,E⟩:=bd E
 refine Bz O O m Im k O λt n=>A8 O n LP JY O λu o=>A9 BY i.1 O o A7 O λw=>A9 BY i.1 O g A7 O λx=>CP O (AM O (kp [4] O) (A5 (λy z p q=>?_)))
 cases E
 exact Ee p q O O (Cv.refl S h) ⟨O,i⟩
def Kw (i:St S L h) {a:Int}(c:IntKind.has .u64 a) {b:Int}(d:IntKind.has .u64 b) {r:Int×Int}(E:G7 N a b=some r):
 C5 prog 94 #[.int .u64 a,.int .u64 b] S h (λv S' h'=>v= .tuple #[.int .u64 r.1,.int .u64 r.2]∧IntKind.has .u64 r.1∧IntKind.has .u64 r.2∧St S' (L) h'):=by
 refine Bv (l:=[.int .u64 a,.int .u64 b]) 51 func94 O ntmps94 O λB=>?_
 rw[G7] at E
 refine AI (AY O (AM O (kp [0,1] O) (AI (AA O (Oe O O O (AM O (kp [6,0,1] O) (AI (AA O (JL (j:=32) O O O O (AM O (kp [7,6,0,1] O) (AI (AA O (Oe O O O (AM O (kp [8,7,6,0,1] O) (AI (AA O (JL (j:=32) O O O O (AM O (kp [9,8,7,6,0,1] O) (AI (AA O (AA O (II O O O (AM O (kp [10,9,8,7,6,0,1] O) (AI (AA O (AA O (II O O O (AA O (JL (j:=32) O O O O ?_)))))))))))))))))))))))))))))
 refine Je O O O (AM O (kp [11,9,7,6,0,1] O) (AI (AA O (Oe O O O (AM O (kp [12,11,9,7,6,0,1] O) (AI (AA O (JL (j:=32) O O O O (AM O (kp [13,12,9,7,6,0,1] O) (AI (AA O (AA O (AA O (II O O O (Je O O O (AM O (kp [12,13,9,7,0,1] O) (AI (AA O (AA O (II O O O (AA O (Je O O O (AA O (JL (j:=32) O O O O (Je O O O (AM O (kp [4,0,1] O) (AI (AA O (AA O ?_)))))))))))))))))))))))))))))
 refine II O O O (AM O (kp [5,4] O) (A5 (λm n g k=>?_)))
 cases E
 exact Kn g O k (Ix (JP g (v:=_) O) (Ix (JP g (v:=_) O) Km)) O (Cv.refl S h) ⟨O,(En _ _),(En _ _),i⟩
def NZ (Q:St S L h) {d:Int}(g:IntKind.has .u64 d) {r:Int}(E:H6 N d=some r):
 C5 prog 112 #[.int .u64 d] S h (λv S' h'=>v=vI r∧AH r∧St S' (L) h'):=by
 refine Bv (l:=[.int .u64 d]) 25 func112 O ntmps112 O λB=>?_
 rw[H6] at E
 refine AI (AM O (kp [2,0] O) (AE (AI (AA O (HQ O (AN (kp [4,2,0] O) (HN (λa w=>∃(y:Int) (z:Int),IV B S h (25,[]) a w [(0,.int .u64 y),(2,vI z)] (L) λ_ _=>IntKind.has .u64 y∧AH z∧GD N y z=some r) ?_ ?_)))))))
 ·refine AX O E (λV E=>?_) (λV E=>?_)
  ·refine AI (AA O (JL (j:=32) O O O O (AM O (kp [0] O) (CN (.inl O) (AM O (kp [2,0] O) (WF.nil (λm o b c=>?_)))))))
   exact⟨(Eg .u64 d 32),32,_,_,b.sub (kp [0,2] O),c,Q,(Cv.refl S h),(Pg _ g _),(iq (n:=32) O),E⟩
  refine AT (WF.nil (λm o b c=>?_))
  exact⟨d,0,_,_,b.sub (kp [0,2] O),c,Q,(Cv.refl S h),g,(iq (n:=0) O),E⟩
 rintro m o ⟨y,z,F,G,b,c,A,W,U,X,E⟩
 refine A6 ?_ b c
 clear b c o m
 rw[GD] at E
 refine AE (AI (AA O (HQ O (AN (kp [8,0,2] O) (HN (λa w=>∃(i:Int) (k:Int),IV B F G (25,[]) a w [(0,.int .u64 i),(2,vI k)] (L) λ_ _=>IntKind.has .u64 i∧AH k∧GC N i k=some r) ?_ ?_)))))
 ·refine AX O E (λH E=>?_) (λH E=>?_)
  ·refine AI (AA O (JL (j:=16) O O O O (AM O (kp [0,2] O) (CN (.inl O) (AA O (BB O (AM O (kp [2,0] O) (WF.nil (λm o b c=>?_)))))))))
   exact⟨(Eg .u64 y 16),(B0 (z+16)),_,_,b.sub (kp [0,2] O),c,A,(Cv.refl F G),(Pg _ U _),(B1 _),E⟩
  refine AT (WF.nil (λm o b c=>?_))
  exact⟨y,z,_,_,b.sub (kp [0,2] O),c,A,(Cv.refl F G),U,X,E⟩
 rintro m o ⟨i,k,u,x,b,c,s,I,C,J,E⟩
 refine A6 ?_ b c
 clear b c o m
 rw[GC] at E
 refine AE (AI (AA O (HQ O (AN (kp [14,0,2] O) (HN (λa w=>∃(p:Int) (q:Int),IV B u x (25,[]) a w [(0,.int .u64 p),(2,vI q)] (L) λ_ _=>IntKind.has .u64 p∧AH q∧GB N p q=some r) ?_ ?_)))))
 ·refine AX O E (λK E=>?_) (λK E=>?_)
  ·refine AI (AA O (JL (j:=8) O O O O (AM O (kp [0,2] O) (CN (.inl O) (AA O (BB O (AM O (kp [2,0] O) (WF.nil (λm o b c=>?_)))))))))
   exact⟨(Eg .u64 i 8),(B0 (k+8)),_,_,b.sub (kp [0,2] O),c,s,(Cv.refl u x),(Pg _ C _),(B1 _),E⟩
  refine AT (WF.nil (λm o b c=>?_))
  exact⟨i,k,_,_,b.sub (kp [0,2] O),c,s,(Cv.refl u x),C,J,E⟩
 rintro m o ⟨p,q,Y,Z,b,c,D,M,ab,ac,E⟩
 refine A6 ?_ b c
 clear b c o m
 rw[GB] at E
 refine AI (AA O (AA O (H9 O Lf eV O ?_)))
 obtain⟨ad,t,E⟩:=bd E
 have ae:=OY t
 refine Od O O Qk t O (H9 O eV Oj O (BB O (AM O (kp [2] O) (A5 (λm o b c=>?_)))))
 cases E
 exact Ee b c O O (W.trans (I.trans M)) ⟨O,(B1 _),D⟩
def Ko (g:St S L h) {a:Int}(b:IntKind.has .u64 a) {r:Int}(E:Ez N a=some r):
 C5 prog 103 #[.int .u64 a] S h (λv S' h'=>v=vI r∧AH r∧St S' (L) h'):=by
 refine Bv (l:=[.int .u64 a]) 6 func103 O ntmps103 O λB=>?_
 rw[Ez] at E
 refine AI (AM O (kp [0] O) (AE (CX (.inl O) g (AA O ?_))))
 obtain⟨n,c,E⟩:=bd E
 refine DF O O O cT O (λh' o=>NZ (St.all h') b c) λi=>?_
 have p:=i
 refine Dk O (AY O (B3 (kp [2] O) λq d j=>A5 (λs t k m=>?_)))
 cases E
 exact Ee k m O O j ⟨O,(B1 _),d⟩
def Kx (hs:St S L h) {d:Int}(Y:IntKind.has .u64 d) {b:Int}(A:IntKind.has .u64 b) {c:Int}(F:IntKind.has .u64 c) {r:Int×Int}(E:Fb N d b c=some r):
 C5 prog 95 #[.int .u64 d,.int .u64 b,.int .u64 c] S h (λv S' h'=>v= .tuple #[.int .u64 r.1,.int .u64 r.2]∧IntKind.has .u64 r.1∧IntKind.has .u64 r.2∧St S' (L) h'):=by
 refine Bv (l:=[.int .u64 d,.int .u64 b,.int .u64 c]) 135 func95 O ntmps95 O λB=>?_
 rw[Fb] at E
 refine AI (AY O (AM O (kp [0,1,2] O) (AE (AI (AA O (B9 O (AN (kp [20,0,1,2] O) (AX O E (λc1 E=>?_) (λc1 E=>?_)))))))))
 ·cases E
 refine AT (AE (AI (AA O (AA O (HO O (AN (kp [24,0,1,2] O) (AX O E (λc2 E=>?_) (λc2 E=>?_))))))))
 ·cases E
 refine AT (AE (AI (AA O (B9 O (AN (kp [27,0,1,2] O) (AX O E (λc3 E=>?_) (λc3 E=>?_)))))))
 ·refine AE (CN (.inr ⟨mo,by kernel_rfl⟩) (AA O (AA O ?_)))
  obtain⟨z4,Z,E⟩:=bd E
  have r5:IntKind.has .u64 z4:=Mu Z
  refine Sf O O O Z (AA O (AA O ?_))
  obtain⟨z6,ab,E⟩:=bd E
  have r7:IntKind.has .u64 z6:=XC A ab
  refine Ze O O O ab (AY O (AM O (kp [7,6] O) (A5 (λu x k m=>?_))))
  cases E
  exact Kn k O m (Ix (JP k (v:=_) O) (Ix (JP k (v:=_) O) Km)) O (Cv.refl S h) ⟨O,r5,r7,hs⟩
 refine AT (AE (CX (.inl O) hs (AA O ?_)))
 obtain⟨H,ak,E⟩:=bd E
 refine DF O O O dA O (λh' o=>Ko (St.all h') F ak) λr9=>?_
 have az:=r9
 refine H9 O Oj T9 O (AY O (B3 (kp [8,0,1,2] O) λK ac al=>AI (AA O (AA O ?_))))
 obtain⟨g,ad,E⟩:=bd E
 refine Se (j:=g) O O O ad (AM O (kp [2,8,0,1] O) (AI (AA O (JL (j:=32) O O O O (AM O (kp [9,2,8,0,1] O) (AI (AA O (Oe O O O (AM O (kp [10,9,2,8,0,1] O) (AI (AA O (AA O ?_))))))))))))
 obtain⟨n,ae,E⟩:=bd E
 refine Se (j:=n) O O O ae (AA O (AA O (MN O O O ?_)))
 obtain⟨p,af,E⟩:=bd E
 refine JL (j:=p) O O O af (dK O O O (AM O (kp [11,10,9,2,8,1] O) (AI (AA O (AA O ?_)))))
 obtain⟨i,ag,E⟩:=bd E
 refine Se (j:=i) O O O ag (AM O (kp [12,11,10,9,2,8] O) (AI (AA O (JL (j:=32) O O O O (AM O (kp [13,12,11,10,9,2,8] O) (AI (AA O (Oe O O O (AM O (kp [14,13,11,10,9,2,8] O) (AI (AA O (AA O ?_))))))))))))
 obtain⟨M,I,E⟩:=bd E
 have am:IntKind.has .u64 M:=Mu I
 refine Sf O O O I (AM O (kp [15,14,13,11,10,9,2,8] O) (AI (AA O (AA O (AA O (II O O O (MN O O O (AM O (kp [16,15,14,13,11,10,9,2,8] O) (AE (BF (λa w=>∃(q:Int),IV B S K (135,[]) a w [(14,.int .u64 (Hr .and .u64 (Dl .u64 b i) 4294967295)),(13,.int .u64 (Eg .u64 (Dl .u64 b i) 32)),(11,.int .u64 (Hr .or .u64 (Dl .u64 d n) (Eg .u64 b p))),(10,.int .u64 (Hr .and .u64 (Dl .u64 c g) 4294967295)),(9,.int .u64 (Eg .u64 (Dl .u64 c g) 32)),(2,.int .u64 (Dl .u64 c g)),(8,.int .u64 (IntKind.wrap .u64 H)),(15,.int .u64 q)] (L) λ_ _=>IntKind.has .u64 q∧Du N d b c H g n p i q=some r) ?_ ?_))))))))))
 ·refine BT (λn1=>λa w=>∃(s:Int) (y:Int),IV B S K (135,[]) a w [(14,.int .u64 (Hr .and .u64 (Dl .u64 b i) 4294967295)),(13,.int .u64 (Eg .u64 (Dl .u64 b i) 32)),(11,.int .u64 (Hr .or .u64 (Dl .u64 d n) (Eg .u64 b p))),(10,.int .u64 (Hr .and .u64 (Dl .u64 c g) 4294967295)),(9,.int .u64 (Eg .u64 (Dl .u64 c g) 32)),(2,.int .u64 (Dl .u64 c g)),(8,.int .u64 (IntKind.wrap .u64 H)),(15,.int .u64 s),(16,.int .u64 y)] (L) λ_ _=>IntKind.has .u64 s∧IntKind.has .u64 y∧DO N b c g i (Du N d b c H g n p i) n1 s y=some r) N ?_ ?_ ?_
  ·intro u x k m
   exact⟨M,(IntKind.wrap .u64 ((Hr .or .u64 (Dl .u64 d n) (Eg .u64 b p))-(IntKind.wrap .u64 (M*(Eg .u64 (Dl .u64 c g) 32))))),_,_,k.sub (kp [14,13,11,10,9,2,8,15,16] O),m,ac,(Cv.refl S K),am,(En _ _),E⟩
  ·rintro u x ⟨_,_,_,_,_,_,_,_,_,_,E⟩
   rw[DO] at E;cases E
  rintro n1 u x ⟨s,y,a0,a1,k,m,C,Q,an,a2,E⟩
  refine A6 ?_ k m
  clear k m x u
  rw[DO] at E
  refine AE (AI (AA O (HQ O (AA O (AW 9 78 (.bool ((decide (4294967296≤s))||(decide ((IntKind.wrap .u64 ((IntKind.wrap .u64 (4294967296*y))+(Eg .u64 (Dl .u64 b i) 32)))<(IntKind.wrap .u64 (s*(Hr .and .u64 (Dl .u64 c g) 4294967295))))))) ?_ ?_)))))
  ·cases a3:(decide (4294967296≤s))
   ·exact AB O (AA O (AB O (AA O (AB O (II O O O (AB O (AA O (AB O (II O O O (AB O (AA O (AB O (Je O O O (AB O (CP O (AL O (AV O)))))))))))))))))
   exact A3 O O
  refine AN (kp [78,14,13,11,10,9,2,8,15,16] O) (AX O E (λao E=>?_) (λao E=>?_))
  ·refine AT (BV (AI (AA O (MN O O O (AM O (kp [15,14,13,11,10,9,2,8,16] O) (AI (AA O (AA O (Je O O O (AM O (kp [16,15,14,13,11,10,9,2,8] O) (AI (AA O (HQ O (AN (kp [85,16,15,14,13,11,10,9,2,8] O) (AX O E (λap E=>?_) (λap E=>?_))))))))))))))))
   ·refine By O (λu x k m=>?_)
    exact⟨(IntKind.wrap .u64 (s-1)),_,_,k.sub (kp [14,13,11,10,9,2,8,15] O),m,C,Q,(En _ _),E⟩
   refine AT (B5 (WF.nil (λu x k m=>?_)))
   exact⟨(IntKind.wrap .u64 (s-1)),(IntKind.wrap .u64 (y+(Eg .u64 (Dl .u64 c g) 32))),_,_,k.sub (kp [14,13,11,10,9,2,8,15,16] O),m,C,Q,(En _ _),(En _ _),E⟩
  refine By O (λu x k m=>?_)
  exact⟨s,_,_,k.sub (kp [14,13,11,10,9,2,8,15] O),m,C,Q,an,E⟩
 rintro u x ⟨q,U,V,k,m,ah,aq,a4,E⟩
 refine A6 ?_ k m
 clear k m x u
 rw[Du] at E
 refine AI (AA O (II O O O (AA O (Je O O O (AA O (AA O (II O O O (MN O O O (AM O (kp [17,14,10,9,2,8,15] O) (AI (AA O (AA O ?_))))))))))))
 obtain⟨W,J,E⟩:=bd E
 have ar:IntKind.has .u64 W:=Mu J
 refine Sf O O O J (AM O (kp [18,17,14,10,9,2,8,15] O) (AI (AA O (AA O (AA O (II O O O (MN O O O (AM O (kp [16,18,17,14,10,9,2,8,15] O) (AE (BF (λa w=>∃(G:Int),IV B U V (135,[]) a w [(17,.int .u64 (IntKind.wrap .u64 ((IntKind.wrap .u64 ((IntKind.wrap .u64 ((Hr .or .u64 (Dl .u64 d n) (Eg .u64 b p))*4294967296))+(Eg .u64 (Dl .u64 b i) 32)))-(IntKind.wrap .u64 (q*(Dl .u64 c g)))))),(14,.int .u64 (Hr .and .u64 (Dl .u64 b i) 4294967295)),(2,.int .u64 (Dl .u64 c g)),(8,.int .u64 (IntKind.wrap .u64 H)),(15,.int .u64 q),(18,.int .u64 G)] (L) λ_ _=>IntKind.has .u64 G∧E0 N d b c H g n p i q G=some r) ?_ ?_))))))))))
 ·refine BT (λn3=>λa w=>∃(z:Int) (t:Int),IV B U V (135,[]) a w [(17,.int .u64 (IntKind.wrap .u64 ((IntKind.wrap .u64 ((IntKind.wrap .u64 ((Hr .or .u64 (Dl .u64 d n) (Eg .u64 b p))*4294967296))+(Eg .u64 (Dl .u64 b i) 32)))-(IntKind.wrap .u64 (q*(Dl .u64 c g)))))),(14,.int .u64 (Hr .and .u64 (Dl .u64 b i) 4294967295)),(10,.int .u64 (Hr .and .u64 (Dl .u64 c g) 4294967295)),(9,.int .u64 (Eg .u64 (Dl .u64 c g) 32)),(2,.int .u64 (Dl .u64 c g)),(8,.int .u64 (IntKind.wrap .u64 H)),(15,.int .u64 q),(16,.int .u64 z),(18,.int .u64 t)] (L) λ_ _=>IntKind.has .u64 z∧IntKind.has .u64 t∧Dt N b c g i (E0 N d b c H g n p i q) n3 z t=some r) N ?_ ?_ ?_
  ·intro u x k m
   exact⟨(IntKind.wrap .u64 ((IntKind.wrap .u64 ((IntKind.wrap .u64 ((IntKind.wrap .u64 ((Hr .or .u64 (Dl .u64 d n) (Eg .u64 b p))*4294967296))+(Eg .u64 (Dl .u64 b i) 32)))-(IntKind.wrap .u64 (q*(Dl .u64 c g)))))-(IntKind.wrap .u64 (W*(Eg .u64 (Dl .u64 c g) 32))))),W,_,_,k.sub (kp [17,14,10,9,2,8,15,16,18] O),m,ah,(Cv.refl U V),(En _ _),ar,E⟩
  ·rintro u x ⟨_,_,_,_,_,_,_,_,_,_,E⟩
   rw[Dt] at E;cases E
  rintro n3 u x ⟨z,t,a5,a6,k,m,D,X,a7,au,E⟩
  refine A6 ?_ k m
  clear k m x u
  rw[Dt] at E
  refine AE (AI (AA O (HQ O (AA O (AW 9 113 (.bool ((decide (4294967296≤t))||(decide ((IntKind.wrap .u64 ((IntKind.wrap .u64 (4294967296*z))+(Hr .and .u64 (Dl .u64 b i) 4294967295)))<(IntKind.wrap .u64 (t*(Hr .and .u64 (Dl .u64 c g) 4294967295))))))) ?_ ?_)))))
  ·cases a8:(decide (4294967296≤t))
   ·exact AB O (AA O (AB O (AA O (AB O (II O O O (AB O (AA O (AB O (II O O O (AB O (AA O (AB O (Je O O O (AB O (CP O (AL O (AV O)))))))))))))))))
   exact A3 O O
  refine AN (kp [113,17,14,10,9,2,8,15,16,18] O) (AX O E (λav E=>?_) (λav E=>?_))
  ·refine AT (BV (AI (AA O (MN O O O (AM O (kp [18,17,14,10,9,2,8,15,16] O) (AI (AA O (AA O (Je O O O (AM O (kp [16,18,17,14,10,9,2,8,15] O) (AI (AA O (HQ O (AN (kp [120,16,18,17,14,10,9,2,8,15] O) (AX O E (λaw E=>?_) (λaw E=>?_))))))))))))))))
   ·refine By O (λu x k m=>?_)
    exact⟨(IntKind.wrap .u64 (t-1)),_,_,k.sub (kp [17,14,2,8,15,18] O),m,D,X,(En _ _),E⟩
   refine AT (B5 (WF.nil (λu x k m=>?_)))
   exact⟨(IntKind.wrap .u64 (z+(Eg .u64 (Dl .u64 c g) 32))),(IntKind.wrap .u64 (t-1)),_,_,k.sub (kp [17,14,10,9,2,8,15,16,18] O),m,D,X,(En _ _),(En _ _),E⟩
  refine By O (λu x k m=>?_)
  exact⟨t,_,_,k.sub (kp [17,14,2,8,15,18] O),m,D,X,au,E⟩
 rintro u x ⟨G,a9,ba,k,m,ai,ax,bb,E⟩
 refine A6 ?_ k m
 clear k m x u
 rw[E0] at E
 refine AI (AA O (II O O O (AA O (Je O O O (AA O (II O O O (AA O (Je O O O (AA O (AA O (II O O O (MN O O O (AA O ?_)))))))))))))
 obtain⟨ay,aj,E⟩:=bd E
 refine JL (j:=ay) O O O aj (AY O (AM O (kp [7,6] O) (A5 (λu x k m=>?_))))
 cases E
 exact Kn k O m (Ix (JP k (v:=_) O) (Ix (JP k (v:=_) O) Km)) O (al.trans (aq.trans ax)) ⟨O,(En _ _),(Pg _ (En _ _) _),ai⟩
end Go.Proofs.YtblcgjadhemlbaaGreat
