import Derived.Test.YtibidnaedddfdaaGreatDWalk1
namespace Go.Proofs.YtibidnaedddfdaaGreat
set_option linter.all false
open Go.RowKit
open Go.Proofs.Tryz
set_option maxRecDepth 10000
set_option maxHeartbeats 2000000
variable {N:Nat}{S:Nat→Prop}{L:List HP}{h:BB}
def GD (hs:St S L h) {i:Value}{k:(List BC)}(d:Sl S h CM i k) {r:Bool}(E:EE N k=some r):
 Ct prog 89 #[i] S h (λv S' h'=>v= .bool r∧St S' (L) h'):=by
 refine BO (l:=[i]) 63 func89 O ntmps89 O λB=>?_
 rw[EE] at E
 refine AE (AJ O (kp [0] O) (AC (AE (AA O (BJ O d He O λb1=>BE O (AA O (AO 4 12 (.bool ((decide ((↑k.length:Int)<1))||(decide (32<(↑k.length:Int))))) ?_ ?_)))))))
 ·cases c2:(decide ((↑k.length:Int)<1))
  ·exact AB O (AA O (AB O (BJ O d He O λb3=>AB O (CN O (AI O (AN O))))))
  exact AX O O
 refine AL (kp [12,0] O) (AW O E (λc4 E=>?_) (λc4 E=>?_))
 ·refine AE (AJ O (kp [2] O) (WF.ret (λt u m o=>?_)))
  cases E
  exact EU m o O O (Cm.refl S h) ⟨O,hs⟩
 refine AQ (AC (AE (AA O (BJ O d He O λb5=>AA O (AL (kp [15,14,13,0] O) (BG (λa w=>IV B S h (63,[]) a w [] (L) λ_ _=>Fu N=some r) ?_ ?_))))))
 ·refine Bt (λn1=>λa w=>∃(z:Int),IV B S h (63,[]) a w [(14,vI (↑k.length:Int)),(13,i),(0,i),(15,vI z)] (L) λ_ _=>AD z∧ED N k (Fu N) n1 z=some r) N ?_ ?_ ?_
  ·intro t u m o
   exact⟨0,_,_,m.sub (kp [14,13,0,15] O),o,hs,(Cm.refl S h),(iq (n:=0) O),E⟩
  ·rintro t u ⟨_,_,_,_,_,_,_,_,E⟩
   rw[ED] at E;cases E
  rintro n1 t u ⟨z,ai,aj,m,o,x,p,r9,E⟩
  refine A8 ?_ m o
  clear m o u t
  rw[ED] at E
  refine AE (BE O (AL (kp [16,14,13,0,15] O) (AC (AW O E (λU E=>?_) (λU E=>?_)))))
  ·refine AQ (AC (BW (WF.sl (A5 3 (AA O ?_)))))
   obtain⟨b,A,E⟩:=bd E
   refine B6 O O (d.mono' p) He A O λak V=>BP BX x.1 O V OM (λe=>by cases e) O λam W=>A6 (CX Ti O x λan ao C s=>A5 1 (A4 O (A6 ?_)))
   obtain⟨rfl,⟨ap,aq⟩⟩:=CM.ex (W.mono s)
   refine BU (vs:=[vI b.G,vI b.L]) O O O O OM O C .head O λar c y=>AS (kp [3,4,14,13,0,15] O) (AC (AE (AF IT O (AT BX c O mh O AZ O (BE O (AA O (AO 4 27 (.bool ((decide (b.G<0))||(decide (1125899906842624<b.G)))) ?_ ?_)))))))
   ·cases au:(decide (b.G<0))
    ·exact AB O (AF IT O (AB O (AT BX c O mh O AZ O (AB O (CN O (AI O (AN O)))))))
    exact AX O O
   refine AA O (AO 4 32 (.bool (((decide (b.G<0))||(decide (1125899906842624<b.G)))||(decide (b.L<0)))) ?_ ?_)
   ·cases av:((decide (b.G<0))||(decide (1125899906842624<b.G)))
    ·exact AB O (AF Hu O (AB O (AT BX c O mh O AZ O (AB O (BE O (AI O (AN O)))))))
    exact AX O O
   refine AA O (AO 4 37 (.bool ((((decide (b.G<0))||(decide (1125899906842624<b.G)))||(decide (b.L<0)))||(decide (1125899906842624<b.L)))) ?_ ?_)
   ·cases aw:(((decide (b.G<0))||(decide (1125899906842624<b.G)))||(decide (b.L<0)))
    ·exact AB O (AF Hu O (AB O (AT BX c O mh O AZ O (AB O (CN O (AI O (AN O)))))))
    exact AX O O
   refine AL (kp [37,3,4,14,13,0,15] O) (AW O E (λX E=>?_) (λX E=>?_))
   ·refine AE (AJ O (kp [2] O) (WF.ret (λt u m o=>?_)))
    have D:=c.drop .head
    cases E
    exact EU m o O O (p.trans (s.trans y)) ⟨O,D⟩
   refine AQ (AC (CL (.inr ⟨mo,by kernel_rfl⟩) (AA O (CN O (AA O ?_)))))
   obtain⟨Y,g,E⟩:=bd E
   refine AO 21 61 (.bool Y) ?_ ?_
   ·cases F:(decide (0<z))
    ·have g:=GY F g
     cases g
     exact AX O O
    have g:=GX F g
    refine AB O (AF IT O (AB O (AT BX c O mh O AZ O (AB O (AA O (AB O (AA O (AB O (FU O (AB O ?_))))))))))
    obtain⟨Z,H,g⟩:=bd g
    refine B6 O O (d.mono' (p.trans (s.trans y))) He H O λax ab=>AB O (AV O ab KG IT O λay ac=>AB O (AY BX c.1 O ac AZ O λaz=>AB O (HC O (AB O (AA O ?_)))))
    obtain⟨ad,j,g⟩:=bd g
    refine AO 10 60 (.bool ad) ?_ ?_
    ·cases I:(decide (b.G≤Z.G))
     ·have j:=GY I j
      refine AB O (AF Hu O (AB O (AT BX c O mh O AZ O (AB O (AA O (AB O (AA O (AB O (FU O (AB O ?_))))))))))
      obtain⟨a0,J,j⟩:=bd j
      refine B6 O O (d.mono' (p.trans (s.trans y))) He J O λa1 ae=>AB O (AV O ae KF Hu O λa2 af=>AB O (AY BX c.1 O af AZ O λa3=>AB O (BE O (AB O (AI O ?_)))))
      cases j
      exact AN O
     have j:=GX I j
     cases j
     exact AX O O
    refine AI O ?_
    cases g
    exact AN O
   refine AL (kp [61,14,13,0,15] O) (AW O E (λag E=>?_) (λag E=>?_))
   ·refine AE (AJ O (kp [2] O) (WF.ret (λt u m o=>?_)))
    have K:=c.drop .head
    cases E
    exact EU m o O O (p.trans (s.trans y)) ⟨O,K⟩
   refine AQ (B0 (CL (.inl O) (BD O (AA O (AL (kp [15,14,13,0] O) (WF.nil (λt u m o=>?_)))))))
   have M:=c.drop .head
   exact⟨(B8 (z+1)),_,_,m.sub (kp [14,13,0,15] O),o,M,(p.trans (s.trans y)),(CJ _),E⟩
  refine WF.exit O (λt u m o=>?_)
  exact⟨_,_,m.sub Kv,o,x,p,E⟩
 rintro t u ⟨a4,a5,m,o,Q,ah,E⟩
 refine A8 ?_ m o
 clear m o u t
 rw[Fu] at E
 refine AE (AJ O (kp [2] O) (WF.ret (λt u m o=>?_)))
 cases E
 exact EU m o O O ah ⟨O,Q⟩
def Ie (q:St S L h) {b:Int}(d:AD b) {a:Int}(g:AD a) {r:Bool}(E:Fv N b a=some r):
 Ct prog 90 #[vI b,vI a] S h (λv S' h'=>v= .bool r∧St S' (L) h'):=by
 refine BO (l:=[vI b,vI a]) 19 func90 O ntmps90 O λB=>?_
 rw[Fv] at E
 refine AE (AJ O (kp [0,1] O) (AC (WF.rc (.inl O) q (AA O ?_))))
 obtain⟨s,j,E⟩:=bd E
 refine BL O O O I3 O (λh' o=>CS (St.all h') d j) (AA O ?_)
 obtain⟨k,c,E⟩:=bd E
 refine AO 3 10 (.bool k) ?_ ?_
 ·cases p:s
  ·have c:=GY p c
   cases c
   exact AX O O
  have c:=GX p c
  refine AB O (AA O (AB O ?_))
  obtain⟨w,m,c⟩:=bd c
  refine BL O O O I3 O (λh' o=>CS (St.all h') g m) (AI O ?_)
  cases c
  exact AN O
 refine AA O (AO 7 18 (.bool (k&&((decide (a≠0))||(decide (b=0))))) ?_ ?_)
 ·cases x:k
  ·exact AX O O
  refine AB O (AA O (AB O (Cq O (AB O (AA O (AO 3 17 (.bool ((decide (a≠0))||(decide (b=0)))) ?_ ?_))))))
  ·cases y:(decide (a≠0))
   ·exact AB O (AA O (AB O (CR O (AB O (AI O (AN O))))))
   exact AX O O
  exact AI O (AN O)
 refine A4 O (Bu (kp [4] O) λz i n=>WF.ret (λA C t u=>?_))
 cases E
 exact EU t u O O n ⟨O,i⟩
def GE (j:St S L h) {b:Int}(c:AD b) {a:Int}(d:AD a) {r:Bool}(E:Ej N b a=some r):
 Ct prog 92 #[vI b,vI a] S h (λv S' h'=>v= .bool r∧St S' (L) h'):=by
 refine BO (l:=[vI b,vI a]) 9 func92 O ntmps92 O λB=>?_
 rw[Ej] at E
 refine AE (AJ O (kp [0,1] O) (AC (WF.rc (.inl O) j (AA O (AA O (FU O ?_))))))
 obtain⟨q,g,E⟩:=bd E
 refine BL O O O HV O (λh' o=>CH (St.all h') c (iq (n:=0) O) (CJ _) g) (A4 O (Bu (kp [4] O) λs i k=>WF.ret (λt u m p=>?_)))
 cases E
 exact EU m p O O k ⟨O,i⟩
def Kq (z:St S L h) {c:Value}{j:AU}(i:Rd S h Ch c j) {a:Int}(k:AD a) {b:Int}(g:AD b) {r:Bool}(E:HS N j a b=some r):
 Ct prog 91 #[c,vI a,vI b] S h (λv S' h'=>v= .bool r∧St S' (L) h'):=by
 refine BO (l:=[c,vI a,vI b]) 21 func91 O ntmps91 O λB=>?_
 rw[HS] at E
 refine WF.sl (BM O i (λe=>by cases e) O z λK M Q m A C=>A5 1 (A4 O (A6 (AS (kp [3,1,2] O) (AC (WF.rc (.inl O) m (AA O (CR O (AA O ?_)))))))))
 obtain⟨D,d,E⟩:=bd E
 refine AO 11 20 (.bool D) ?_ ?_
 ·cases y:(decide (b=(-1)))
  ·have d:=GY y d
   refine AB O (AA O (AB O (AV O C CC En O λU t=>AB O (BR Bs m.1 O t HD O λF u=>AB O (BJ O u Ga O λw=>AB O ?_)))))
   obtain⟨n,p,d⟩:=bd d
   refine BL O O O Ph O (λh' o=>GE (St.all h') g (LW w) p) (AB O (AA O (AO 4 19 (.bool (n&&(decide (b≠a)))) ?_ ?_)))
   ·cases G:n
    ·exact AX O O
    exact AB O (AA O (AB O (AA O (AB O (Cq O (AB O (AI O (AN O))))))))
   refine AI O ?_
   cases d
   exact AN O
  have d:=GX y d
  cases d
  exact AX O O
 refine A4 O (Bu (kp [6] O) λH s x=>WF.ret (λV W I J=>?_))
 cases E
 exact EU I J O O (A.trans x) ⟨O,s⟩
def Lg (hs:St S L h) {X:Value}{c:AU}(ax:Rd S h Ch X c) {r:Bool}(E:G9 N c=some r):
 Ct prog 38 #[X] S h (λv S' h'=>v= .bool r∧St S' (L) h'):=by
 refine BO (l:=[X]) 122 func38 O ntmps38 O λB=>?_
 rw[G9] at E
 refine WF.sl (BM O ax (λe=>by cases e) O hs λq1 S2 h3 bp e5 k6=>A5 1 (A4 O (A6 (AS (kp [1] O) (AE (AJ O (kp [3,1] O) (AC (AE (AV O k6 CC En O λq7 k8=>BR BX bp.1 O k8 HD O λv9 bq=>BJ O bq Ga O λea=>AA O (AL (kp [14,13,12,3,1] O) (BG (λa w=>∃(ay:Int),IV B S2 h3 (122,[]) a w [(3,vI ay)] (L) λ_ _=>AD ay∧CG N ay=some r) ?_ ?_)))))))))))
 ·refine Bt (λn1=>λa w=>∃(am:Int) (k:Int),IV B S2 h3 (122,[]) a w [(13,vI (↑c.D.length:Int)),(12,v9),(1,q1),(3,vI am),(14,vI k)] (L) λ_ _=>AD am∧AD k∧B5 N c (CG N) n1 am k=some r) N ?_ ?_ ?_
  ·intro m p g i
   exact⟨0,0,_,_,g.sub (kp [13,12,1,3,14] O),i,bp,(Cm.refl S2 h3),(iq (n:=0) O),(iq (n:=0) O),E⟩
  ·rintro m p ⟨_,_,_,_,_,_,_,_,_,_,E⟩
   rw[B5] at E;cases E
  rintro n1 m p ⟨am,k,az,cz,g,i,an,Y,br,c0,E⟩
  refine A8 ?_ g i
  clear g i p m
  rw[B5] at E
  refine AE (BE O (AL (kp [15,13,12,1,3,14] O) (AC (AW O E (λc1 E=>?_) (λc1 E=>?_)))))
  ·refine AQ (AC (BG (λa w=>∃(ao:Int),IV B az cz (122,[]) a w [(13,vI (↑c.D.length:Int)),(12,v9),(1,q1),(14,vI k),(3,vI ao)] (L) λ_ _=>AD ao∧Cg N k (B5 N c (CG N) n1) ao=some r) ?_ ?_))
   ·refine WF.sl (A5 3 (AA O ?_))
    obtain⟨b,bs,E⟩:=bd E
    refine B6 O O (bq.mono' Y) Ga bs O λeb c2=>BP BX an.1 O c2 KO (λe=>by cases e) O λec c3=>A6 (CX QG O an λa0 ed bt Z=>A5 1 (A4 O (A6 ?_)))
    obtain⟨a1,ap,aq,rfl,ee,c4,c5,c6,bu,ba,c7,c8,c9,da,db,bv⟩:=Cb.ex (c3.mono Z)
    refine IR (vs:=[.string b.J,vI b.C,vI b.Aj,vI b.Ag,a1,ap,vI b.N,vI b.H,vI b.Ao,vI b.V,vI b.Ax,aq]) (cs':=[.string b.J,vI b.C,vI b.Aj,vI b.Ag,a1,ap,vI b.N,vI b.H,vI b.Ao,vI b.V,vI b.Ax,aq]) O O O (AG O (AG O (AG O (AG O (AG bu.one (AG ba.one (AG O (AG O (AG O (AG O (AG O (AG bv.one GJ)))))))))))) KO O bt .head O O λef d G=>AS (kp [4,5,13,12,1,3,14] O) (AC (AC (WF.rc (.inl O) d (AF YE O (AT Bs d O mh O AZ O ?_)))))
    obtain⟨dc,bw,E⟩:=bd E
    refine BL O O O HV O (λh' o=>CH (St.all h') c4 (iq (n:=0) O) (iq (n:=3) O) bw) (BT O (AA O ?_))
    obtain⟨bx,s,E⟩:=bd E
    refine AO 5 28 (.bool bx) ?_ ?_
    ·cases bz:(!dc)
     ·have s:=GY bz s
      refine AB O (AF K4 O (AB O (AT Bs d O mh O AZ O (AB O ?_))))
      obtain⟨eg,b0,s⟩:=bd s
      refine BL O O O HV O (λh' o=>CH (St.all h') c5 (iq (n:=0) O) (iq (n:=2) O) b0) (AB O (BT O (AI O ?_)))
      cases s
      exact AN O
     have s:=GX bz s
     cases s
     exact AX O O
    refine AA O ?_
    obtain⟨b1,t,E⟩:=bd E
    refine AO 5 34 (.bool b1) ?_ ?_
    ·cases b2:bx
     ·have t:=GY b2 t
      refine AB O (AF Q8 O (AB O (AT Bs d O mh O AZ O (AB O ?_))))
      obtain⟨eh,b3,t⟩:=bd t
      refine BL O O O HV O (λh' o=>CH (St.all h') da (iq (n:=0) O) (iq (n:=240) O) b3) (AB O (BT O (AI O ?_)))
      cases t
      exact AN O
     have t:=GX b2 t
     cases t
     exact AX O O
    refine AA O ?_
    obtain⟨b4,u,E⟩:=bd E
    refine AO 5 40 (.bool b4) ?_ ?_
    ·cases b5:b1
     ·have u:=GY b5 u
      refine AB O (AF Nj O (AB O (AT Bs d O mh O AZ O (AB O ?_))))
      obtain⟨ei,b6,u⟩:=bd u
      refine BL O O O I3 O (λh' o=>CS (St.all h') c6 b6) (AB O (BT O (AI O ?_)))
      cases u
      exact AN O
     have u:=GX b5 u
     cases u
     exact AX O O
    refine AA O ?_
    obtain⟨b7,x,E⟩:=bd E
    refine AO 5 46 (.bool b7) ?_ ?_
    ·cases b8:b4
     ·have x:=GY b8 x
      refine AB O (AF WA O (AB O (AT Bs d O mh O AZ O (AB O ?_))))
      obtain⟨ej,b9,x⟩:=bd x
      refine BL O O O I3 O (λh' o=>CS (St.all h') db b9) (AB O (BT O (AI O ?_)))
      cases x
      exact AN O
     have x:=GX b8 x
     cases x
     exact AX O O
    refine AA O ?_
    obtain⟨a2,y,E⟩:=bd E
    refine AO 5 52 (.bool a2) ?_ ?_
    ·cases ca:b7
     ·have y:=GY ca y
      refine AB O (AF YD O (AB O (AT Bs d O mh O Hs O (AB O ?_))))
      obtain⟨ek,cb,y⟩:=bd y
      refine BL O O O Pi O (λh' o=>GD (St.all h') ((bu.mono' G).mono' (o.all d.1)) cb) (AB O (BT O (AI O ?_)))
      cases y
      exact AN O
     have y:=GX ca y
     cases y
     exact AX O O
    refine AA O (AO 8 61 (.bool (a2||(decide ((↑b.Bg.length:Int)≠(↑c.Ar.length:Int))))) ?_ ?_)
    ·cases el:a2
     ·exact AB O (AF UE O (AB O (AT Bs d O mh O Ro O (AB O (BJ O (ba.mono' G) Hf O λem=>AB O (AV O (k6.mono (Y.trans (Z.trans G))) Jh O2 O λen dd=>AB O (BR Bs d.1 O dd Tl O λeo de=>AB O (BJ O de Rz O λep=>AB O (Cq O (AI O (AN O)))))))))))
     exact AX O O
    refine AA O ?_
    obtain⟨cc,z,E⟩:=bd E
    refine AO 7 69 (.bool cc) ?_ ?_
    ·cases cd:(a2||(decide ((↑b.Bg.length:Int)≠(↑c.Ar.length:Int))))
     ·have z:=GY cd z
      refine AB O (AF Q9 O (AB O (AT Bs d O mh O AZ O (AB O (AF KR O (AB O (AT Bs d O mh O AZ O (AB O ?_))))))))
      obtain⟨eq,ce,z⟩:=bd z
      refine BL O O O Wk O (λh' o=>Ie (St.all h') c7 c8 ce) (AB O (BT O (AI O ?_)))
      cases z
      exact AN O
     have z:=GX cd z
     cases z
     exact AX O O
    refine AA O ?_
    obtain⟨df,A,E⟩:=bd E
    refine AO 7 77 (.bool df) ?_ ?_
    ·cases cf:cc
     ·have A:=GY cf A
      refine AB O (BP Bs d.1 O (k6.mono (Y.trans (Z.trans G))) Hc (λe=>by cases e) O λdh cg=>AB O (AA O (AB O (AF O0 O (AB O (AT Bs d O mh O AZ O (AB O ?_)))))))
      obtain⟨di,bb,A⟩:=bd A
      refine BL O O O Y5 O (λh' o=>Kq (St.all h') (cg.mono (o.all d.1)) c0 c9 bb) (AB O (BT O (AI O ?_)))
      cases A
      exact AN O
     have A:=GX cf A
     cases A
     exact AX O O
    refine Bu (kp [77,5,13,12,1,3,14] O) λar ae I=>AW O E (λch E=>?_) (λch E=>?_)
    ·refine AE (AJ O (kp [2] O) (WF.ret (λm p g i=>?_)))
     have bc:=ae.drop .head
     cases E
     exact EU g i O O (e5.trans (Y.trans (Z.trans (G.trans I)))) ⟨O,bc⟩
    refine AQ (AC (AE (AF UE O (AT BX ae O mh O Ro O ?_))))
    have a3:=ba.mono' (G.trans I)
    refine BJ O a3 Hf O λdj=>AA O (AL (kp [81,80,79,5,13,12,1,3,14] O) (BG (λa w=>∃(K:Int),IV B az ar (122,[]) a w [(5,vP a0 0),(13,vI (↑c.D.length:Int)),(12,v9),(1,q1),(14,vI k),(3,vI K)] (Bx a0 57 [.string b.J,vI b.C,vI b.Aj,vI b.Ag,a1,ap,vI b.N,vI b.H,vI b.Ao,vI b.V,vI b.Ax,aq]::L) λ_ _=>AD K∧D3 N c b (Cg N k (B5 N c (CG N) n1)) K=some r) ?_ ?_))
    ·refine Bt (λn4=>λa w=>∃(U:Int) (ab:Int),IV B az ar (122,[]) a w [(80,vI (↑b.Bg.length:Int)),(79,ap),(5,vP a0 0),(13,vI (↑c.D.length:Int)),(12,v9),(1,q1),(14,vI k),(3,vI U),(81,vI ab)] (Bx a0 57 [.string b.J,vI b.C,vI b.Aj,vI b.Ag,a1,ap,vI b.N,vI b.H,vI b.Ao,vI b.V,vI b.Ax,aq]::L) λ_ _=>AD U∧AD ab∧C4 N b (D3 N c b (Cg N k (B5 N c (CG N) n1))) n4 U ab=some r) N ?_ ?_ ?_
     ·intro m p g i
      exact⟨am,0,_,_,g.sub (kp [80,79,5,13,12,1,14,3,81] O),i,ae,(Cm.refl az ar),br,(iq (n:=0) O),E⟩
     ·rintro m p ⟨_,_,_,_,_,_,_,_,_,_,E⟩
      rw[C4] at E;cases E
     rintro n4 m p ⟨U,ab,dk,dl,g,i,af,ai,ci,dm,E⟩
     refine A8 ?_ g i
     clear g i p m
     rw[C4] at E
     refine AE (BE O (AL (kp [82,80,79,5,13,12,1,14,3,81] O) (AC (AW O E (λcj E=>?_) (λcj E=>?_)))))
     ·refine AQ (AC (BW (AE ?_)))
      obtain⟨ck,be,E⟩:=bd E
      refine B6 O O (a3.mono' ai) Hf be O λdn cl=>AY BX af.1 O cl AZ O λcm=>AJ O (kp [7,80,79,5,13,12,1,14,3,81] O) (AC (AC (WF.rc (.inl O) af (AA O ?_))))
      obtain⟨dp,bf,E⟩:=bd E
      refine BL O O O I3 O (λh' o=>CS (St.all h') cm bf) (BT O (Bu (kp [87,7,80,79,5,13,12,1,14,3,81] O) λdq au a4=>AW O E (λcn E=>?_) (λcn E=>?_)))
      ·refine AE (AJ O (kp [2] O) (WF.ret (λm p g i=>?_)))
       have bg:=au.drop .head
       cases E
       exact EU g i O O (e5.trans (Y.trans (Z.trans (G.trans (I.trans (ai.trans a4)))))) ⟨O,bg⟩
      refine AQ (CL (.inl O) (AA O (AA O (BD O (AJ O (kp [3,80,79,5,13,12,1,14,81] O) (B0 (CL (.inl O) (BD O (AA O (AL (kp [81,3,80,79,5,13,12,1,14] O) (WF.nil (λm p g i=>?_))))))))))))
      exact⟨(B8 (U+ck)),(B8 (ab+1)),_,_,g.sub (kp [80,79,5,13,12,1,14,3,81] O),i,au,(ai.trans a4),(CJ _),(CJ _),E⟩
     refine WF.exit O (λm p g i=>?_)
     exact⟨U,_,_,g.sub (kp [5,13,12,1,14,3] O),i,af,ai,ci,E⟩
    rintro m p ⟨K,a5,a6,g,i,av,aj,co,E⟩
    refine A8 ?_ g i
    clear g i p m
    rw[D3] at E
    refine AE (AJ O (kp [8,5,13,12,1,14,3] O) (AE (AF V9 O (AT BX av O mh O cG O ?_))))
    have a7:=bv.mono' (G.trans (I.trans aj))
    refine BJ O a7 Yw O λdr=>AA O (AL (kp [95,94,93,8,13,12,1,14,3] O) (BW (Bt (λn5=>λa w=>∃(M:Int) (ac:Int),IV B a5 a6 (122,[]) a w [(94,vI (↑b.Ai.length:Int)),(93,aq),(13,vI (↑c.D.length:Int)),(12,v9),(1,q1),(14,vI k),(3,vI K),(8,vI M),(95,vI ac)] (L) λ_ _=>AD M∧AD ac∧C3 N c b K (Cg N k (B5 N c (CG N) n1)) n5 M ac=some r) N ?_ ?_ ?_)))
    ·intro m p g i
     have bh:=av.drop .head
     exact⟨(-1),0,_,_,g.sub (kp [94,93,13,12,1,14,3,8,95] O),i,bh,(Cm.refl a5 a6),(iq (n:=(-1)) O),(iq (n:=0) O),E⟩
    ·rintro m p ⟨_,_,_,_,_,_,_,_,_,_,E⟩
     rw[C3] at E;cases E
    rintro n5 m p ⟨M,ac,ds,dt,g,i,ag,ad,du,dv,E⟩
    refine A8 ?_ g i
    clear g i p m
    rw[C3] at E
    refine AE (BE O (AL (kp [96,94,93,13,12,1,14,3,8,95] O) (AC (AW O E (λcp E=>?_) (λcp E=>?_)))))
    ·refine AQ (AC (BW (WF.sl (A5 2 ?_))))
     obtain⟨F,bi,E⟩:=bd E
     refine B6 O O (a7.mono' ad) Yw bi O λdw cq=>BP BX ag.1 O cq VS (λe=>by cases e) O λdx cr=>A6 (CX ZG O ag λdy dz bj ak=>?_)
     obtain⟨rfl,⟨cs,ct⟩⟩:=Je.ex (cr.mono ak)
     refine BU (vs:=[vI F.Bf,vI F.Bo]) O O O O VS O bj .head O λd0 Q aw=>AS (kp [10,94,93,13,12,1,14,3,8,95] O) (AC (AC (WF.rc (.inl O) Q (AF PV O (AT Bs Q O mh O AZ O (AA O (HC O (AA O (AO 6 109 (.bool ((decide (F.Bf≤M))||(decide (c.W≤F.Bf)))) ?_ ?_)))))))))
     ·cases d1:(decide (F.Bf≤M))
      ·exact AB O (AF PV O (AB O (AT Bs Q O mh O AZ O (AB O (AV O (k6.mono (Y.trans (Z.trans (G.trans (I.trans (aj.trans (ad.trans (ak.trans aw)))))))) KI RC O λd2 cu=>AB O (AY Bs Q.1 O cu AZ O λd3=>AB O (EQ O (AI O (AN O)))))))))
      exact AX O O
     refine AA O ?_
     obtain⟨cv,j,E⟩:=bd E
     refine AO 5 115 (.bool cv) ?_ ?_
     ·cases a8:((decide (F.Bf≤M))||(decide (c.W≤F.Bf)))
      ·have j:=GY a8 j
       refine AB O (AF WJ O (AB O (AT Bs Q O mh O AZ O (AB O ?_))))
       obtain⟨d4,bk,j⟩:=bd j
       refine BL O O O I3 O (λh' o=>CS (St.all h') ct bk) (AB O (BT O (AI O ?_)))
       cases j
       exact AN O
      have j:=GX a8 j
      cases j
      exact AX O O
     refine Bu (kp [115,10,94,93,13,12,1,14,3,95] O) λd5 ah a9=>AW O E (λcw E=>?_) (λcw E=>?_)
     ·refine AE (AJ O (kp [2] O) (WF.ret (λm p g i=>?_)))
      have bl:=ah.drop .head
      cases E
      exact EU g i O O (e5.trans (Y.trans (Z.trans (G.trans (I.trans (aj.trans (ad.trans (ak.trans (aw.trans a9))))))))) ⟨O,bl⟩
     refine AQ (CL (.inl O) (AF PV O (AT BX ah O mh O AZ O (AJ O (kp [8,94,93,13,12,1,14,3,95] O) (B0 (CL (.inl O) (BD O (AA O (AL (kp [95,8,94,93,13,12,1,14,3] O) (WF.nil (λm p g i=>?_)))))))))))
     have bm:=ah.drop .head
     exact⟨F.Bf,(B8 (ac+1)),_,_,g.sub (kp [94,93,13,12,1,14,3,8,95] O),i,bm,(ad.trans (ak.trans (aw.trans a9))),cs,(CJ _),E⟩
    refine JV O (WF.nil (λm p g i=>?_))
    exact⟨K,_,_,g.sub (kp [13,12,1,14,3] O),i,ag,(Z.trans (G.trans (I.trans (aj.trans ad)))),co,E⟩
   rintro m p ⟨ao,d6,d7,g,i,bn,cx,dg,E⟩
   refine A8 ?_ g i
   clear g i p m
   rw[Cg] at E
   refine CL (.inl O) (BD O (AA O (AL (kp [14,13,12,1,3] O) (WF.nil (λm p g i=>?_)))))
   exact⟨ao,(B8 (k+1)),_,_,g.sub (kp [13,12,1,3,14] O),i,bn,(Y.trans cx),dg,(CJ _),E⟩
  refine WF.exit O (λm p g i=>?_)
  exact⟨am,_,_,g.sub (kp [3] O),i,an,Y,br,E⟩
 rintro m p ⟨ay,d8,d9,g,i,bo,cy,er,E⟩
 refine A8 ?_ g i
 clear g i p m
 rw[CG] at E
 refine AE (AA O (HC O (AJ O (kp [2] O) (WF.ret (λm p g i=>?_)))))
 cases E
 exact EU g i O O (e5.trans cy) ⟨O,bo⟩
def Ob (hs:St S L h) {d:Int}(t:AD d) {c:Value}{s:(Int→Option Bool)}(u:Rd S h (B7.fn prog (λx:Int=>([vI x]:List Value)) (λx:Int=>AD x) (λy:Bool=> .bool y) (λy:Bool=>True)) c s) {r:Int}(E:JK N d s=some r):
 Ct prog 165 #[vI d,c] S h (λv S' h'=>v=vI r∧AD r∧St S' (L) h'):=by
 refine BO (l:=[vI d,c]) 26 func165 O ntmps165 O λB=>?_
 rw[JK] at E
 obtain⟨K,M,rfl,Q,U⟩:=u.fn
 refine AE (AJ O (kp [0,1] O) (AE (AA O (A4 O (AJ O (kp [6,5,1] O) (AC (BG (λa w=>∃(I:Int),IV B S h (26,[]) a w [(5,vI I)] (L) λ_ _=>AD I∧HM N I=some r) ?_ ?_)))))))
 ·refine Bt (λZ=>λa w=>∃(g:Int) (i:Int),IV B S h (26,[]) a w [(1,(.func (.func K) #[] M)),(5,vI g),(6,vI i)] (L) λ_ _=>AD g∧AD i∧FE N s (HM N) Z g i=some r) N ?_ ?_ ?_
  ·intro z A k m
   exact⟨0,d,_,_,k.sub (kp [1,5,6] O),m,hs,(Cm.refl S h),(iq (n:=0) O),t,E⟩
  ·rintro z A ⟨_,_,_,_,_,_,_,_,_,_,E⟩
   rw[FE] at E;cases E
  rintro Z z A ⟨g,i,ab,ac,k,m,p,q,D,V,E⟩
  refine A8 ?_ k m
  clear k m A z
  rw[FE] at E
  refine AC (AE (AA O (AA O (BE O (AL (kp [11,1,5,6] O) (AW O E (λW E=>?_) (λW E=>?_)))))))
  ·refine AQ (BW (AE (AA O (AA O (BD O (GI O Mz O6 O (Hw (j:=1) O O O O (GI O O6 Mz O (AJ O (kp [7,1,5,6] O) (AC (WF.rc (.inl O) p (AA O (AA O ?_)))))))))))))
   obtain⟨ad,F,E⟩:=bd E
   refine BL O O O Q O (λh' o=>U _ h' (λb J=>iY (p.1 b (q.sub b J)) o.siz) (λb J=>(o.same b (p.1 b (q.sub b J))).trans (q.same b J)) [] (St.all h') _ _ (CJ _) F) (BT O (Bu (kp [21,7,1,5,6] O) λae C G=>AW O E (λX E=>?_) (λX E=>?_)))
   ·refine CL (.inl O) (AA O (BD O (AJ O (kp [5,1,6] O) (B0 (WF.nil (λz A k m=>?_))))))
    exact⟨(B8 ((B8 (Du .u64 (IntKind.wrap .u64 (B8 (g+i))) 1))+1)),i,_,_,k.sub (kp [1,5,6] O),m,C,(q.trans G),(CJ _),V,E⟩
   refine CL (.inl O) (AA O (AJ O (kp [6,1,5] O) (B0 (WF.nil (λz A k m=>?_)))))
   exact⟨g,(B8 (Du .u64 (IntKind.wrap .u64 (B8 (g+i))) 1)),_,_,k.sub (kp [1,5,6] O),m,C,(q.trans G),D,(CJ _),E⟩
  refine WF.exit O (λz A k m=>?_)
  exact⟨g,_,_,k.sub (kp [5] O),m,p,q,D,E⟩
 rintro z A ⟨I,af,ag,k,m,H,Y,r6,E⟩
 refine A8 ?_ k m
 clear k m A z
 rw[HM] at E
 refine AE (AA O (AJ O (kp [4] O) (WF.ret (λz A k m=>?_))))
 cases E
 exact EU k m O O Y ⟨O,r6,H⟩
def Np (j:St S L h) {c:Int}(k:AD c) {a:Value}{i:(List BC)}(d:Pt S h (B7.sl CM) a i) {b:Value}{c2_:Int}(g:Pt S h BQ b c2_) {r:Bool}(E:Eh N i c2_ c=some r):
 Ct prog 183 #[vI c,a,b] S h (λv S' h'=>v= .bool r∧St S' (L) h'):=by
 refine BO (l:=[vI c,a,b]) 12 func183 O ntmps183 O λB=>?_
 rw[Eh] at E
 refine AE (AJ O (kp [0,1,2] O) (AC (CL (.inr ⟨mo,by kernel_rfl⟩) (BR BX j.1 O d Hs O λt n=>AA O ?_))))
 obtain⟨u,m,E⟩:=bd E
 refine B6 O O n He m O λw o=>AV O o KG IT O λx p=>AY BX j.1 O p AZ O λy=>AY BX j.1 O g AZ O λz=>CN O (AJ O (kp [4] O) (WF.ret (λA C q s=>?_)))
 cases E
 exact EU q s O O (Cm.refl S h) ⟨O,j⟩
def Jl (i:St S L h) {a:Int}(c:IntKind.has .u64 a) {b:Int}(d:IntKind.has .u64 b) {r:Int×Int}(E:F8 N a b=some r):
 Ct prog 142 #[.int .u64 a,.int .u64 b] S h (λv S' h'=>v= .tuple #[.int .u64 r.1,.int .u64 r.2]∧IntKind.has .u64 r.1∧IntKind.has .u64 r.2∧St S' (L) h'):=by
 refine BO (l:=[.int .u64 a,.int .u64 b]) 51 func142 O ntmps142 O λB=>?_
 rw[F8] at E
 refine AE (A4 O (AJ O (kp [0,1] O) (AE (AA O (Nz O O O (AJ O (kp [6,0,1] O) (AE (AA O (Hw (j:=32) O O O O (AJ O (kp [7,6,0,1] O) (AE (AA O (Nz O O O (AJ O (kp [8,7,6,0,1] O) (AE (AA O (Hw (j:=32) O O O O (AJ O (kp [9,8,7,6,0,1] O) (AE (AA O (AA O (HB O O O (AJ O (kp [10,9,8,7,6,0,1] O) (AE (AA O (AA O (HB O O O (AA O (Hw (j:=32) O O O O ?_)))))))))))))))))))))))))))))
 refine Id O O O (AJ O (kp [11,9,7,6,0,1] O) (AE (AA O (Nz O O O (AJ O (kp [12,11,9,7,6,0,1] O) (AE (AA O (Hw (j:=32) O O O O (AJ O (kp [13,12,9,7,6,0,1] O) (AE (AA O (AA O (AA O (HB O O O (Id O O O (AJ O (kp [12,13,9,7,0,1] O) (AE (AA O (AA O (HB O O O (AA O (Id O O O (AA O (Hw (j:=32) O O O O (Id O O O (AJ O (kp [4,0,1] O) (AE (AA O (AA O ?_)))))))))))))))))))))))))))))
 refine HB O O O (AJ O (kp [5,4] O) (WF.ret (λm n g k=>?_)))
 cases E
 exact I1 g O k (IH (LV g (v:=_) O) (IH (LV g (v:=_) O) Io)) O (Cm.refl S h) ⟨O,(EN _ _),(EN _ _),i⟩
def Mf (Q:St S L h) {d:Int}(g:IntKind.has .u64 d) {r:Int}(E:Gv N d=some r):
 Ct prog 184 #[.int .u64 d] S h (λv S' h'=>v=vI r∧AD r∧St S' (L) h'):=by
 refine BO (l:=[.int .u64 d]) 25 func184 O ntmps184 O λB=>?_
 rw[Gv] at E
 refine AE (AJ O (kp [2,0] O) (AC (AE (AA O (EQ O (AL (kp [4,2,0] O) (HW (λa w=>∃(y:Int) (z:Int),IV B S h (25,[]) a w [(0,.int .u64 y),(2,vI z)] (L) λ_ _=>IntKind.has .u64 y∧AD z∧FI N y z=some r) ?_ ?_)))))))
 ·refine AW O E (λV E=>?_) (λV E=>?_)
  ·refine AE (AA O (Hw (j:=32) O O O O (AJ O (kp [0] O) (CL (.inl O) (AJ O (kp [2,0] O) (WF.nil (λm o b c=>?_)))))))
   exact⟨(Du .u64 d 32),32,_,_,b.sub (kp [0,2] O),c,Q,(Cm.refl S h),(Ow _ g _),(iq (n:=32) O),E⟩
  refine AQ (WF.nil (λm o b c=>?_))
  exact⟨d,0,_,_,b.sub (kp [0,2] O),c,Q,(Cm.refl S h),g,(iq (n:=0) O),E⟩
 rintro m o ⟨y,z,F,G,b,c,A,W,U,X,E⟩
 refine A8 ?_ b c
 clear b c o m
 rw[FI] at E
 refine AC (AE (AA O (EQ O (AL (kp [8,0,2] O) (HW (λa w=>∃(i:Int) (k:Int),IV B F G (25,[]) a w [(0,.int .u64 i),(2,vI k)] (L) λ_ _=>IntKind.has .u64 i∧AD k∧FH N i k=some r) ?_ ?_)))))
 ·refine AW O E (λH E=>?_) (λH E=>?_)
  ·refine AE (AA O (Hw (j:=16) O O O O (AJ O (kp [0,2] O) (CL (.inl O) (AA O (BD O (AJ O (kp [2,0] O) (WF.nil (λm o b c=>?_)))))))))
   exact⟨(Du .u64 y 16),(B8 (z+16)),_,_,b.sub (kp [0,2] O),c,A,(Cm.refl F G),(Ow _ U _),(CJ _),E⟩
  refine AQ (WF.nil (λm o b c=>?_))
  exact⟨y,z,_,_,b.sub (kp [0,2] O),c,A,(Cm.refl F G),U,X,E⟩
 rintro m o ⟨i,k,u,x,b,c,s,I,C,J,E⟩
 refine A8 ?_ b c
 clear b c o m
 rw[FH] at E
 refine AC (AE (AA O (EQ O (AL (kp [14,0,2] O) (HW (λa w=>∃(p:Int) (q:Int),IV B u x (25,[]) a w [(0,.int .u64 p),(2,vI q)] (L) λ_ _=>IntKind.has .u64 p∧AD q∧FG N p q=some r) ?_ ?_)))))
 ·refine AW O E (λK E=>?_) (λK E=>?_)
  ·refine AE (AA O (Hw (j:=8) O O O O (AJ O (kp [0,2] O) (CL (.inl O) (AA O (BD O (AJ O (kp [2,0] O) (WF.nil (λm o b c=>?_)))))))))
   exact⟨(Du .u64 i 8),(B8 (k+8)),_,_,b.sub (kp [0,2] O),c,s,(Cm.refl u x),(Ow _ C _),(CJ _),E⟩
  refine AQ (WF.nil (λm o b c=>?_))
  exact⟨i,k,_,_,b.sub (kp [0,2] O),c,s,(Cm.refl u x),C,J,E⟩
 rintro m o ⟨p,q,Y,Z,b,c,D,M,ab,ac,E⟩
 refine A8 ?_ b c
 clear b c o m
 rw[FG] at E
 refine AE (AA O (AA O (GI O KX cF O ?_)))
 obtain⟨ad,t,E⟩:=bd E
 have ae:=Ns t
 refine Ny O O P4 t O (GI O cF Mz O (BD O (AJ O (kp [2] O) (WF.ret (λm o b c=>?_)))))
 cases E
 exact EU b c O O (W.trans (I.trans M)) ⟨O,(CJ _),D⟩
end Go.Proofs.YtibidnaedddfdaaGreat
