import Derived.Test.YtblcgjadhemlbaaGreatWWalk13
namespace Go.Proofs.YtblcgjadhemlbaaGreat
set_option linter.all false
open Go.RowKit
open Go.Proofs.Tryz
set_option maxRecDepth 10000
set_option maxHeartbeats 2000000
variable {N:Nat}{S:Nat→Prop}{L:List HP}{h:BM}
def B4 (G:St S L h) {b:Value}{o:(List Int)}(d:Sl S h AJ b o) {c:Value}{p:(List Int)}(k:Sl S h AJ c p) {r:Bool}(E:Dk N o p=some r):
 DK prog 18 #[b,c] S h (λv S' h'=>v= .bool r∧St S' (L) h'):=by
 refine B0 (l:=[b,c]) 26 func18 O ntmps18 O λB=>?_
 rw[Dk] at E
 refine AI (AM O (kp [0,1] O) (AE (AI (AA O (BE O d CA O λZ=>AA O (BE O k CA O λb2=>Cg O (AN (kp [10,0,1] O) (AY O E (λI E=>?_) (λI E=>?_)))))))))
 ·refine AI (AM O (kp [4] O) (A5 (λq s g i=>?_)))
  cases E
  exact Em g i O O (C9.refl S h) ⟨O,G⟩
 refine AS (AE (AI (AM O (kp [5,0,1] O) (BH (λa w=>IV B S h (26,[]) a w [] (L) λ_ _=>IC N=some r) ?_ ?_))))
 ·refine BV (λH=>λa w=>∃(t:Int),IV B S h (26,[]) a w [(0,b),(1,c),(5,vI t)] (L) λ_ _=>AH t∧G1 N o p (IC N) H t=some r) N ?_ ?_ ?_
  ·intro q s g i
   exact⟨0,_,_,g.sub (kp [0,1,5] O),i,G,(C9.refl S h),(iq (n:=0) O),E⟩
  ·rintro q s ⟨_,_,_,_,_,_,_,_,E⟩
   rw[G1] at E;cases E
  rintro H q s ⟨t,S8,h9,g,i,j,m,r7,E⟩
  refine A6 ?_ g i
  clear g i s q
  rw[G1] at E
  refine AE (AI (AA O (AA O (BE O (d.mono' m) CA O λJ=>BI O (AN (kp [14,0,1,5] O) (AY O E (λz E=>?_) (λz E=>?_)))))))
  ·refine AS (AE (BY (AE (CL (.inr ⟨mo,by kernel_rfl⟩) (AA O (AA O ?_))))))
   obtain⟨K,u,E⟩:=bd E
   refine B1 O O (d.mono' m) CA u O λM A=>BC Bu j.1 O A BA O λQ=>AA O (AA O ?_)
   obtain⟨U,x,E⟩:=bd E
   refine B1 O O (k.mono' m) CA x O λV C=>BC Bu j.1 O C BA O λW=>Cg O (AN (kp [25,0,1,5] O) (AY O E (λD E=>?_) (λD E=>?_)))
   ·refine AI (AM O (kp [4] O) (A5 (λq s g i=>?_)))
    cases E
    exact Em g i O O m ⟨O,j⟩
   refine AS (B7 (CL (.inl O) (AA O (A9 O (AM O (kp [5,0,1] O) (WF.nil (λq s g i=>?_)))))))
   exact⟨(Bw (t+1)),_,_,g.sub (kp [0,1,5] O),i,j,m,(B5 _),E⟩
  refine By O (λq s g i=>?_)
  exact⟨_,_,g.sub Py,i,j,m,E⟩
 rintro q s ⟨X,Y,g,i,y,F,E⟩
 refine A6 ?_ g i
 clear g i s q
 rw[IC] at E
 refine AI (AM O (kp [4] O) (A5 (λq s g i=>?_)))
 cases E
 exact Em g i O O F ⟨O,y⟩
def MF {g:Nat}{c1_:(List Int)}{c:Value}(U:St S (Bx g 29 [c]::OS AJ 3 c c1_::L) h) {b:Value}{d:(List Int)}(k:Sl S h AJ b d) {r:(List Int)}(E:Ij N c1_ d=some r):
 DK prog 35 #[b,vP g 0] S h (λv S' h'=>∃m:Value,v= .tuple #[]∧St S' (Bx g 29 [m]::OS AJ 3 m r::L) h'):=by
 refine B0 (l:=[b,vP g 0]) 25 func35 O ntmps35 O λB=>?_
 rw[Ij] at E
 refine AI (AT Bu U O mh O CH O (L3 U (mt mh) O CA O λb1=>AA O (BE O k CA O λb2=>RB O O O (AA O (AN (kp [9,8,0,1] O) (BY (BV (λn0=>λa w=>∃(s:Int) (u:List Int),IV B S h (25,[]) a w [(8,vI (min (↑c1_.length:Int) (↑d.length:Int))),(0,b),(1,vP g 0),(9,vI s)] (Bx g 29 [c]::OS AJ 3 c u::L) λ_ _=>AH s∧Fp N d c1_ n0 s u=some r) N ?_ ?_ ?_)))))))
 ·intro y z p q
  exact⟨0,c1_,_,_,p.sub (kp [8,0,1,9] O),q,U,(C9.refl S h),(iq (n:=0) O),E⟩
 ·rintro y z ⟨_,_,_,_,_,_,_,_,_,E⟩
  rw[Fp] at E;cases E
 rintro n0 y z ⟨s,u,S9,ag,p,q,j,t,r7,E⟩
 refine A6 ?_ p q
 clear p q z y
 rw[Fp] at E
 refine AI (BI O (AN (kp [10,8,0,1,9] O) (AE (AY O E (λV E=>?_) (λV E=>?_)))))
 ·refine AS (AE (BY (AI (AA O (AM O (kp [3,8,0,1,9] O) (L9 12 mo (by kernel_rfl) O j (AT CQ j O mh O CH O (AA O (AT CQ j O mh O CH O (AA O ?_))))))))))
  obtain⟨ah,A,E⟩:=bd E
  refine BX j (mt mh) O O CA A O λai C=>?_
  obtain⟨aj,D,E⟩:=bd E
  have W:=j.epAt (mt mh) D GO.id C
  refine BC CQ (λ_ x=>x) O W BA O λX=>AA O (AA O ?_)
  obtain⟨ak,F,E⟩:=bd E
  refine B1 O O (k.mono' t) CA F O λal Y=>BC CQ j.1 O Y BA O λZ=>?_
  obtain⟨G,H,E⟩:=bd E
  refine DW O O O SK O (λh' o=>JE (St.all h') X Z H) λab=>?_
  have ac:=ab
  obtain⟨am,I,E⟩:=bd E
  refine BX j (mt mh) O O CA I O λan J=>Kq λao K ad=>?_
  obtain⟨ae,M,E⟩:=bd E
  refine Fd (r:=AJ) (l:=u) (i:=s) (x:=ae) O O (⟨_,O,O,ac⟩:Rd _ _ AJ _ G) J M MS.id BA (λ_=>rfl) K (.tail .head) λap Q af=>AZ (kp [8,0,1,9] O) (B7 (CL (.inl O) (A9 O (AA O (AN (kp [9,8,0,1] O) (WF.nil (λy z p q=>?_)))))))
  exact⟨(Bw (s+1)),(upd u s G),_,_,p.sub (kp [8,0,1,9] O),q,Q,(t.trans (ad.trans af)),(B5 _),E⟩
 refine Lh O (WF.nil (λy z p q=>?_))
 cases E
 exact K5 p O q K4 O t ⟨_,O,j⟩
def LY (hs:St S L h) {i:Value}{b:A7}(D:Rd S h DE i b) {r:(List Int)}(E:Jd N b=some r):
 DK prog 12 #[i] S h (λv S' h'=>St S' (OS AJ 3 v r::L) h'):=by
 refine B0 (l:=[i]) 38 func12 O ntmps12 O λB=>?_
 rw[Jd] at E
 refine WF.sl (C3 O D (λe=>by cases e) O hs λq1 S2 h3 ao e5 k6=>AF 1 (A0 O (AD (AZ (kp [1] O) (WF.sl (AF 3 (A8 O k6 KD Kl O λq7 k8=>BF Bu ao.1 O k8 CH O λv9 be=>BE O be CA O λb1=>AD ?_)))))))
 obtain⟨ap,E⟩:=LO E
 refine Jl (r:=AJ) (zx:=0) GM O ⟨O,by unfold AH;omega⟩ O O ap O O ao λb2 b3 aq ar=>Di Xn O aq λg b4 Q au=>?_
 obtain⟨U,m,rfl,b5⟩:=Q.oslen (mt mh)
 refine Ek (vs:=[(.slice U (List.replicate ((↑b.S.length:Int):Int).toNat (0:Int)).length m)]) O O O O CH O Q .head O λab V av=>AZ (kp [3,1] O) (AI (PW O O O (AM O (kp [4,3,1] O) (AE (AI ?_)))))
 have aw:=k6.mono (ar.trans (au.trans av))
 refine A8 O aw I0 EF O λb6 bf=>BF Bu V.1 O bf HO O λbg ax=>BE O ax Fl O λb7=>AA O (AN (kp [17,16,15,4,3,1] O) (BH (λa w=>∃(G:Value) (H:List Int),IV B S2 ab (38,[]) a w [(4,.func (.func 35) #[] #[vP g 0]),(3,vP g 0),(1,q1)] (OS AJ 3 G H::Bx g 29 [G]::L) λ_ _=>GF N b H=some r) ?_ ?_))
 ·refine BV (λn1=>λa w=>∃(o:Int) (I:Value) (s:List Int),IV B S2 ab (38,[]) a w [(16,vI (↑b.F.length:Int)),(15,bg),(4,.func (.func 35) #[] #[vP g 0]),(3,vP g 0),(1,q1),(17,vI o)] (OS AJ 3 I s::Bx g 29 [I]::L) λ_ _=>AH o∧GE N b (GF N b) n1 o s=some r) N ?_ ?_ ?_
  ·intro j k c d
   have ay:=V.sel [1,0] 0 O
   exact⟨0,(.slice U (List.replicate ((↑b.S.length:Int):Int).toNat (0:Int)).length m),(List.replicate ((↑b.S.length:Int):Int).toNat (0:Int)),_,_,c.sub (kp [16,15,4,3,1,17] O),d,ay,(C9.refl S2 ab),(iq (n:=0) O),E⟩
  ·rintro j k ⟨_,_,_,_,_,_,_,_,_,_,E⟩
   rw[GE] at E;cases E
  rintro n1 j k ⟨o,I,s,b8,b9,c,d,t,ac,ca,E⟩
  refine A6 ?_ c d
  clear c d k j
  rw[GE] at E
  refine AI (BI O (AN (kp [18,16,15,4,3,1,17] O) (AE (AY O E (λbh E=>?_) (λbh E=>?_)))))
  ·refine AS (AE (BY (AI ?_)))
   obtain⟨cb,az,E⟩:=bd E
   refine B1 O O (ax.mono' ac) Fl az O λcc bi=>BF Bu t.1 O bi CH O λcd bj=>AM O (kp [6,16,15,4,3,1,17] O) (FG (AF 2 (AA O (AA O (AD ?_)))))
   have a0:=t.sel [1,0] 0 O
   obtain⟨bk,a1,E⟩:=bd E
   refine Dj O O O dW O (MF (c1_:=s) a0 bj a1) λce cf cg bl p=>?_
   obtain⟨bm,rfl,a2⟩:=p
   refine AZ (kp [16,15,4,3,1,17] O) (B7 (CL (.inl O) (A9 O (AA O (AN (kp [17,16,15,4,3,1] O) (WF.nil (λj k c d=>?_)))))))
   have a3:=a2.sel [1,0] 0 O
   exact⟨(Bw (o+1)),bm,bk,_,_,c.sub (kp [16,15,4,3,1,17] O),d,a3,(ac.trans bl),(B5 _),E⟩
  refine By O (λj k c d=>?_)
  exact⟨I,s,_,_,c.sub (kp [4,3,1] O),d,t,ac,E⟩
 rintro j k ⟨G,H,ad,ae,c,d,W,a4,E⟩
 refine A6 ?_ c d
 clear c d k j
 rw[GF] at E
 refine AE (AI (A8 O (aw.mono a4) JZ Km O λch bn=>BF Bu W.1 O bn MD O λbo a5=>BE O a5 KZ O λci=>AA O (AN (kp [28,27,26,4,3] O) (BH (λa w=>∃(af:Value) (ag:List Int),IV B ad ae (38,[]) a w [(3,vP g 0)] (OS AJ 3 af ag::Bx g 29 [af]::L) λ_ _=>II N ag=some r) ?_ ?_))))
 ·refine BV (λn3=>λa w=>∃(u:Int) (J:Value) (x:List Int),IV B ad ae (38,[]) a w [(27,vI (↑b.M.length:Int)),(26,bo),(4,.func (.func 35) #[] #[vP g 0]),(3,vP g 0),(28,vI u)] (OS AJ 3 J x::Bx g 29 [J]::L) λ_ _=>AH u∧Gq N b (II N) n3 u x=some r) N ?_ ?_ ?_
  ·intro j k c d
   exact⟨0,G,H,_,_,c.sub (kp [27,26,4,3,28] O),d,W,(C9.refl ad ae),(iq (n:=0) O),E⟩
  ·rintro j k ⟨_,_,_,_,_,_,_,_,_,_,E⟩
   rw[Gq] at E;cases E
  rintro n3 j k ⟨u,J,x,cj,ck,c,d,y,ah,cl,E⟩
  refine A6 ?_ c d
  clear c d k j
  rw[Gq] at E
  refine AI (BI O (AN (kp [29,27,26,4,3,28] O) (AE (AY O E (λbp E=>?_) (λbp E=>?_)))))
  ·refine AS (AE (BY (WF.sl (AF 2 ?_))))
   obtain⟨K,a6,E⟩:=bd E
   refine B1 O O (a5.mono' ah) KZ a6 O λcm bq=>Cq Bu y.1 O bq Lq (λe=>by cases e) O λcn br=>AD (Di Ri O y λco cp a7 a8=>?_)
   obtain⟨X,rfl,bs,bt,Y⟩:=BJ.ex (br.mono a8)
   refine Ht (vs:=[vI K.Ak,vI K.C,X]) (cs':=[vI K.Ak,vI K.C,X]) O O O (AC O (AC O (AC Y.one Es))) Lq O a7 .head O O λbu z Z=>AZ (kp [8,27,26,4,3,28] O) (FG (AF 3 (AA O (AG Lv O (AT Bu z O mh O CH O (AD ?_))))))
   have ai:=z.sel [2,1,0] 0 O
   obtain⟨a9,aj,E⟩:=bd E
   refine Dj O O O dW O (MF (c1_:=x) ai (Y.mono' Z) aj) λbv bw bx ba p=>?_
   obtain⟨bb,rfl,ak⟩:=p
   refine AZ (kp [27,26,4,3,28] O) (B7 (CL (.inl O) (A9 O (AA O (AN (kp [28,27,26,4,3] O) (WF.nil (λj k c d=>?_)))))))
   have am:=ak.sel [1,0] 1 O
   exact⟨(Bw (u+1)),bb,a9,_,_,c.sub (kp [27,26,4,3,28] O),d,am,(ah.trans (a8.trans (Z.trans ba))),(B5 _),E⟩
  refine By O (λj k c d=>?_)
  exact⟨J,x,_,_,c.sub (kp [3] O),d,y,ah,E⟩
 rintro j k ⟨af,ag,bz,b0,c,d,A,bc,E⟩
 refine A6 ?_ c d
 clear c d k j
 rw[II] at E
 refine AI (AT Bu A O (mt mh) O CH O (AM O (kp [2] O) (A5 (λj k c d=>?_))))
 have an:=A.drop (.tail .head)
 cases E
 exact Em c d O O (e5.trans (ar.trans (au.trans (av.trans (a4.trans bc))))) an
def Ji (hs:St S L h) {c:Value}{k:(List (List Int))}(i:Sl S h (BZ.sl AJ) c k) {d:Value}{t:(List (List Int))}(m:Sl S h (BZ.sl AJ) d t) {j:Value}{u:(((List Int)×(List Int))→Option Bool)}(z:Rd S h (BZ.fnr prog (λS h vs (x:((List Int)×(List Int)))=>∃w0 w1:Value,vs=[w0,w1]∧Sl S h AJ w0 x.1∧Sl S h AJ w1 x.2) (λS h v (y:Bool)=>v= .bool y)) j u) {r:Bool}(E:GN N k t u=some r):
 DK prog 40 #[c,d,j] S h (λv S' h'=>v= .bool r∧St S' (L) h'):=by
 refine B0 (l:=[c,d,j]) 32 func40 O ntmps40 O λB=>?_
 rw[GN] at E
 obtain⟨Q,U,rfl,V,W⟩:=z.fnr
 refine AI (AM O (kp [0,1,2] O) (AE (AI (AA O (BE O i Fl O λb5=>AA O (BE O m Fl O λb6=>Cg O (AN (kp [14,0,1,2] O) (AY O E (λc7 E=>?_) (λc7 E=>?_)))))))))
 ·refine AI (AM O (kp [6] O) (A5 (λC D p q=>?_)))
  cases E
  exact Em p q O O (C9.refl S h) ⟨O,hs⟩
 refine AS (AE (AI (AA O (BE O i Fl O λb8=>AA O (AN (kp [17,16,15,1,2] O) (BH (λa w=>IV B S h (32,[]) a w [] (L) λ_ _=>EG N=some r) ?_ ?_))))))
 ·refine BV (λn1=>λa w=>∃(A:Int),IV B S h (32,[]) a w [(16,vI (↑k.length:Int)),(15,c),(1,d),(2,(.func (.func Q) #[] U)),(17,vI A)] (L) λ_ _=>AH A∧DX N k t u (EG N) n1 A=some r) N ?_ ?_ ?_
  ·intro C D p q
   exact⟨0,_,_,p.sub (kp [16,15,1,2,17] O),q,hs,(C9.refl S h),(iq (n:=0) O),E⟩
  ·rintro C D ⟨_,_,_,_,_,_,_,_,E⟩
   rw[DX] at E;cases E
  rintro n1 C D ⟨A,ah,ai,p,q,g,s,aj,E⟩
  refine A6 ?_ p q
  clear p q D C
  rw[DX] at E
  refine AI (BI O (AN (kp [18,16,15,1,2,17] O) (AE (AY O E (λX E=>?_) (λX E=>?_)))))
  ·refine AS (AE (BY (AI (AA O ?_))))
   obtain⟨Y,G,E⟩:=bd E
   refine B1 O O (i.mono' s) Fl G O λak Z=>BF Bu g.1 O Z CH O λal ab=>A0 O (AM O (kp [8,7,16,15,1,2,17] O) (AI (AA O (AA O ?_))))
   obtain⟨ac,H,E⟩:=bd E
   refine B1 O O (m.mono' s) Fl H O λam ad=>BF Bu g.1 O ad CH O λan ae=>AM O (kp [9,8,16,15,1,2,17] O) (AE (Cn (.inl O) g (AA O (AA O (AA O ?_)))))
   obtain⟨ao,I,E⟩:=bd E
   refine BU O O O V O (λh' o=>W _ h' (λb M=>qZ (g.1 b (s.sub b M)) o.siz) (λb M=>(o.same b (g.1 b (s.sub b M))).trans (s.same b M)) [] (St.all h') (Y,ac) _ _ ⟨_,_,O,(ab.mono' (o.all g.1)),(ae.mono' (o.all g.1))⟩ I) (CI O (B9 (kp [30,16,15,1,2,17] O) λap F J=>AY O E (λaf E=>?_) (λaf E=>?_)))
   ·refine AI (AM O (kp [6] O) (A5 (λC D p q=>?_)))
    cases E
    exact Em p q O O (s.trans J) ⟨O,F⟩
   refine AS (B7 (CL (.inl O) (A9 O (AA O (AN (kp [17,16,15,1,2] O) (WF.nil (λC D p q=>?_)))))))
   exact⟨(Bw (A+1)),_,_,p.sub (kp [16,15,1,2,17] O),q,F,(s.trans J),(B5 _),E⟩
  refine By O (λC D p q=>?_)
  exact⟨_,_,p.sub Py,q,g,s,E⟩
 rintro C D ⟨aq,ar,p,q,K,ag,E⟩
 refine A6 ?_ p q
 clear p q D C
 rw[EG] at E
 refine AI (AM O (kp [6] O) (A5 (λC D p q=>?_)))
 cases E
 exact Em p q O O ag ⟨O,K⟩
def F6 (G:St S L h) {b:Value}{g:(List Int)}(d:Sl S h AJ b g) {c:Value}{o:(List Int)}(i:Sl S h AJ c o) {r:Bool}(E:D7 N g o=some r):
 DK prog 41 #[b,c] S h (λv S' h'=>v= .bool r∧St S' (L) h'):=by
 refine B0 (l:=[b,c]) 26 func41 O ntmps41 O λB=>?_
 rw[D7] at E
 refine AI (AM O (kp [0,1] O) (AE (AI (AA O (BE O d CA O λZ=>AA O (BE O i CA O λb2=>Cg O (AN (kp [10,0,1] O) (AY O E (λI E=>?_) (λI E=>?_)))))))))
 ·refine AI (AM O (kp [4] O) (A5 (λq s j k=>?_)))
  cases E
  exact Em j k O O (C9.refl S h) ⟨O,G⟩
 refine AS (AE (AI (AA O (BE O d CA O λb4=>AA O (AN (kp [13,12,0,1] O) (BH (λa w=>IV B S h (26,[]) a w [] (L) λ_ _=>Gz N=some r) ?_ ?_))))))
 ·refine BV (λH=>λa w=>∃(t:Int),IV B S h (26,[]) a w [(12,vI (↑g.length:Int)),(0,b),(1,c),(13,vI t)] (L) λ_ _=>AH t∧Fe N g o (Gz N) H t=some r) N ?_ ?_ ?_
  ·intro q s j k
   exact⟨0,_,_,j.sub (kp [12,0,1,13] O),k,G,(C9.refl S h),(iq (n:=0) O),E⟩
  ·rintro q s ⟨_,_,_,_,_,_,_,_,E⟩
   rw[Fe] at E;cases E
  rintro H q s ⟨t,S9,J,j,k,m,p,r8,E⟩
  refine A6 ?_ j k
  clear j k s q
  rw[Fe] at E
  refine AI (BI O (AN (kp [14,12,0,1,13] O) (AE (AY O E (λz E=>?_) (λz E=>?_)))))
  ·refine AS (AE (BY (AI (AA O (AM O (kp [5,12,0,1,13] O) (AE (CL (.inr ⟨mo,by kernel_rfl⟩) (AA O (AA O ?_)))))))))
   obtain⟨K,u,E⟩:=bd E
   refine B1 O O (d.mono' p) CA u O λM A=>BC Bu m.1 O A BA O λQ=>AA O (AA O ?_)
   obtain⟨U,x,E⟩:=bd E
   refine B1 O O (i.mono' p) CA x O λV C=>BC Bu m.1 O C BA O λW=>Cg O (AN (kp [24,12,0,1,13] O) (AY O E (λD E=>?_) (λD E=>?_)))
   ·refine AI (AM O (kp [4] O) (A5 (λq s j k=>?_)))
    cases E
    exact Em j k O O p ⟨O,m⟩
   refine AS (B7 (CL (.inl O) (A9 O (AA O (AN (kp [13,12,0,1] O) (WF.nil (λq s j k=>?_)))))))
   exact⟨(Bw (t+1)),_,_,j.sub (kp [12,0,1,13] O),k,m,p,(B5 _),E⟩
  refine By O (λq s j k=>?_)
  exact⟨_,_,j.sub Py,k,m,p,E⟩
 rintro q s ⟨X,Y,j,k,y,F,E⟩
 refine A6 ?_ j k
 clear j k s q
 rw[Gz] at E
 refine AI (AM O (kp [4] O) (A5 (λq s j k=>?_)))
 cases E
 exact Em j k O O F ⟨O,y⟩
def EV (hs:St S L h) {c:Value}{k:(List BD)}(g:Sl S h BJ c k) {d:Value}{z:(List BD)}(m:Sl S h BJ d z) {i:Value}{A:((BD×BD)→Option Bool)}(D:Rd S h (BZ.fnr prog (λS h vs (x:(BD×BD))=>∃w0 w1:Value,vs=[w0,w1]∧Rd S h BJ w0 x.1∧Rd S h BJ w1 x.2) (λS h v (y:Bool)=>v= .bool y)) i A) {r:Bool}(E:CM N k z A=some r):
 DK prog 42 #[c,d,i] S h (λv S' h'=>v= .bool r∧St S' (L) h'):=by
 refine B0 (l:=[c,d,i]) 32 func42 O ntmps42 O λB=>?_
 rw[CM] at E
 obtain⟨ao,ap,rfl,aq,ar⟩:=D.fnr
 refine AI (AM O (kp [0,1,2] O) (AE (AI (AA O (BE O g KZ O λb5=>AA O (BE O m KZ O λb6=>Cg O (AN (kp [14,0,1,2] O) (AY O E (λc7 E=>?_) (λc7 E=>?_)))))))))
 ·refine AI (AM O (kp [6] O) (A5 (λM Q p s=>?_)))
  cases E
  exact Em p s O O (C9.refl S h) ⟨O,hs⟩
 refine AS (AE (AI (AA O (BE O g KZ O λb8=>AA O (AN (kp [17,16,15,1,2] O) (BH (λa w=>IV B S h (32,[]) a w [] (L) λ_ _=>Bv N=some r) ?_ ?_))))))
 ·refine BV (λn1=>λa w=>∃(F:Int),IV B S h (32,[]) a w [(16,vI (↑k.length:Int)),(15,c),(1,d),(2,(.func (.func ao) #[] ap)),(17,vI F)] (L) λ_ _=>AH F∧BP N k z A (Bv N) n1 F=some r) N ?_ ?_ ?_
  ·intro M Q p s
   exact⟨0,_,_,p.sub (kp [16,15,1,2,17] O),s,hs,(C9.refl S h),(iq (n:=0) O),E⟩
  ·rintro M Q ⟨_,_,_,_,_,_,_,_,E⟩
   rw[BP] at E;cases E
  rintro n1 M Q ⟨F,a5,a6,p,s,G,H,a7,E⟩
  refine A6 ?_ p s
  clear p s Q M
  rw[BP] at E
  refine AI (BI O (AN (kp [18,16,15,1,2,17] O) (AE (AY O E (λau E=>?_) (λau E=>?_)))))
  ·refine AS (AE (BY (WF.sl (AF 3 (AA O ?_)))))
   obtain⟨t,ac,E⟩:=bd E
   refine B1 O O (g.mono' H) KZ ac O λa8 av=>Cq Bu G.1 O av Lq (λe=>by cases e) O λa9 aw=>AD (Di Ri O G λba bb ad U=>AF 1 (A0 O (AD ?_)))
   obtain⟨Z,rfl,ax,ay,ae⟩:=BJ.ex (aw.mono U)
   refine Ht (vs:=[vI t.Ak,vI t.C,Z]) (cs':=[vI t.Ak,vI t.C,Z]) O O O (AC O (AC O (AC ae.one Es))) Lq O ad .head O O λbc W V=>AZ (kp [7,8,16,15,1,2,17] O) (WF.sl (AF 4 (AA O (AA O ?_))))
   have X:=H.trans (U.trans V)
   obtain⟨u,af,E⟩:=bd E
   refine B1 O O (m.mono' X) KZ af O λbe az=>Cq Bu W.1 O az Lq (λe=>by cases e) O λbf a0=>AD (Di Ri O W λbg bh ag I=>?_)
   obtain⟨ab,rfl,a1,a2,ah⟩:=BJ.ex (a0.mono I)
   refine Ht (vs:=[vI u.Ak,vI u.C,ab]) (cs':=[vI u.Ak,vI u.C,ab]) O O O (AC O (AC O (AC ah.one Es))) Lq O ag .head O O λbi j J=>AZ (kp [9,8,16,15,1,2,17] O) (AE (Cn (.inl O) j (AA O (ES (vs:=[vI t.Ak,vI t.C,Z]) CQ j O (mt mh) O O Lq O O (ES (vs:=[vI u.Ak,vI u.C,ab]) CQ j O mh O O Lq O O ?_)))))
   have K:=X.trans (I.trans J)
   obtain⟨bj,ai,E⟩:=bd E
   refine BU O O O aq O (λh' o=>ar _ h' (λb hb=>qZ (j.1 b (K.sub b hb)) o.siz) (λb hb=>(o.same b (j.1 b (K.sub b hb))).trans (K.same b hb)) [] (St.all h') (t,u) _ _ ⟨_,_,O,(BJ.mk (x:=t) ax ay ((ae.mono' (V.trans (I.trans J))).mono' (o.all j.1))),(BJ.mk (x:=u) a1 a2 ((ah.mono' J).mono' (o.all j.1)))⟩ ai) (CI O (B9 (kp [30,16,15,1,2,17] O) λbk Y aj=>AY O E (λa3 E=>?_) (λa3 E=>?_)))
   ·refine AI (AM O (kp [6] O) (A5 (λM Q p s=>?_)))
    have ak:=Y.sel [] 2 O
    cases E
    exact Em p s O O (H.trans (U.trans (V.trans (I.trans (J.trans aj))))) ⟨O,ak⟩
   refine AS (B7 (CL (.inl O) (A9 O (AA O (AN (kp [17,16,15,1,2] O) (WF.nil (λM Q p s=>?_)))))))
   have am:=Y.sel [] 2 O
   exact⟨(Bw (F+1)),_,_,p.sub (kp [16,15,1,2,17] O),s,am,(H.trans (U.trans (V.trans (I.trans (J.trans aj))))),(B5 _),E⟩
  refine By O (λM Q p s=>?_)
  exact⟨_,_,p.sub Py,s,G,H,E⟩
 rintro M Q ⟨bl,bm,p,s,an,a4,E⟩
 refine A6 ?_ p s
 clear p s Q M
 rw[Bv] at E
 refine AI (AM O (kp [6] O) (A5 (λM Q p s=>?_)))
 cases E
 exact Em p s O O a4 ⟨O,an⟩
def IG (I:St S L h) {b:Value}{g:(List BG)}(d:Sl S h Bz b g) {c:Value}{o:(List BG)}(i:Sl S h Bz c o) {r:Bool}(E:ED N g o=some r):
 DK prog 44 #[b,c] S h (λv S' h'=>v= .bool r∧St S' (L) h'):=by
 refine B0 (l:=[b,c]) 26 func44 O ntmps44 O λB=>?_
 rw[ED] at E
 refine AI (AM O (kp [0,1] O) (AE (AI (AA O (BE O d LB O λb1=>AA O (BE O i LB O λb2=>Cg O (AN (kp [10,0,1] O) (AY O E (λK E=>?_) (λK E=>?_)))))))))
 ·refine AI (AM O (kp [4] O) (A5 (λq s j k=>?_)))
  cases E
  exact Em j k O O (C9.refl S h) ⟨O,I⟩
 refine AS (AE (AI (AA O (BE O d LB O λb4=>AA O (AN (kp [13,12,0,1] O) (BH (λa w=>IV B S h (26,[]) a w [] (L) λ_ _=>DH N=some r) ?_ ?_))))))
 ·refine BV (λJ=>λa w=>∃(t:Int),IV B S h (26,[]) a w [(12,vI (↑g.length:Int)),(0,b),(1,c),(13,vI t)] (L) λ_ _=>AH t∧Ch N g o (DH N) J t=some r) N ?_ ?_ ?_
  ·intro q s j k
   exact⟨0,_,_,j.sub (kp [12,0,1,13] O),k,I,(C9.refl S h),(iq (n:=0) O),E⟩
  ·rintro q s ⟨_,_,_,_,_,_,_,_,E⟩
   rw[Ch] at E;cases E
  rintro J q s ⟨t,S9,M,j,k,m,p,r8,E⟩
  refine A6 ?_ j k
  clear j k s q
  rw[Ch] at E
  refine AI (BI O (AN (kp [14,12,0,1,13] O) (AE (AY O E (λz E=>?_) (λz E=>?_)))))
  ·refine AS (AE (BY (AI (AA O (AM O (kp [5,12,0,1,13] O) (AE (CL (.inr ⟨mo,by kernel_rfl⟩) (AA O (AA O ?_)))))))))
   obtain⟨Q,u,E⟩:=bd E
   refine B1 O O (d.mono' p) LB u O λU A=>Cq Bu m.1 O A H1 (λe=>by cases e) O λV C=>AA O (AA O ?_)
   obtain⟨W,x,E⟩:=bd E
   refine B1 O O (i.mono' p) LB x O λX D=>Cq Bu m.1 O D H1 (λe=>by cases e) O λY F=>?_
   obtain⟨rfl,⟨Z,ab⟩⟩:=Bz.ex C
   obtain⟨rfl,⟨ac,ad⟩⟩:=Bz.ex F
   refine iC O O lN O O O O (AN (kp [24,12,0,1,13] O) (AY O E (λG E=>?_) (λG E=>?_)))
   ·refine AI (AM O (kp [4] O) (A5 (λq s j k=>?_)))
    cases E
    exact Em j k O O p ⟨O,m⟩
   refine AS (B7 (CL (.inl O) (A9 O (AA O (AN (kp [13,12,0,1] O) (WF.nil (λq s j k=>?_)))))))
   exact⟨(Bw (t+1)),_,_,j.sub (kp [12,0,1,13] O),k,m,p,(B5 _),E⟩
  refine By O (λq s j k=>?_)
  exact⟨_,_,j.sub Py,k,m,p,E⟩
 rintro q s ⟨ae,af,j,k,y,H,E⟩
 refine A6 ?_ j k
 clear j k s q
 rw[DH] at E
 refine AI (AM O (kp [4] O) (A5 (λq s j k=>?_)))
 cases E
 exact Em j k O O H ⟨O,y⟩
def Ob (M:St S L h) {g:Value}{c:BD}(j:Rd S h BJ g c) {i:Value}{d:BD}(k:Rd S h BJ i d) {r:Bool}(E:Jy N c d=some r):
 DK prog 43 #[g,i] S h (λv S' h'=>v= .bool r∧St S' (L) h'):=by
 refine B0 (l:=[g,i]) 24 func43 O ntmps43 O λB=>?_
 rw[Jy] at E
 refine WF.sl (C3 O j (λe=>by cases e) O M λq1 S2 h3 w K Q=>C3 O (k.mono K) (λe=>by cases e) O w λq8 S9 U a p m=>AF 1 (A0 O (AD (AZ (kp [3,2] O) (AE (Cn (.inl O) a ?_))))))
 have n:=Q.mono p
 refine A8 O n RJ O0 O λV x=>BC CQ a.1 O x BA O λW=>A8 O m RJ O0 O λX y=>BC CQ a.1 O y BA O λY=>B6 O (AA O (AW 6 16 (.bool ((decide (c.Ak=d.Ak))&&(decide (c.C=d.C)))) ?_ ?_))
 ·cases Z:(decide (c.Ak=d.Ak))
  ·exact A4 O O
  exact AB O (A8 O n BD.f_To Lw O λab z=>AB O (BC CQ a.1 O z BA O λac=>AB O (A8 O m BD.f_To Lw O λad A=>AB O (BC CQ a.1 O A BA O λae=>AB O (B6 O (AL O (AV O)))))))
 refine AA O ?_
 obtain⟨D,b,E⟩:=bd E
 refine AW 6 23 (.bool D) ?_ ?_
 ·cases s:((decide (c.Ak=d.Ak))&&(decide (c.C=d.C)))
  ·have b:=Hj s b
   cases b
   exact A4 O O
  have b:=Hi s b
  refine AB O (A8 O n BD.f_Part Lv O λaf F=>AB O (BF CQ a.1 O F CH O λag G=>AB O (A8 O m BD.f_Part Lv O λah H=>AB O (BF CQ a.1 O H CH O λai I=>AB O ?_))))
  obtain⟨aj,t,b⟩:=bd b
  refine BU O O O Um O (λh' o=>F6 (St.all h') (G.mono' (o.all a.1)) (I.mono' (o.all a.1)) t) (AL O ?_)
  cases b
  exact AV O
 refine A0 O (B9 (kp [4] O) λak u J=>A5 (λaa ww hf hw=>?_))
 cases E
 exact Em hf hw O O (K.trans (p.trans J)) ⟨O,u⟩
def N9 (F:St S L h) {k:Value}{t:A7}(w:Rd S h DE k t) {m:Value}{u:A7}(z:Rd S h DE m u) {r:Bool}(E:Ly N t u=some r):
 DK prog 20 #[k,m] S h (λv S' h'=>v= .bool r∧St S' (L) h'):=by
 refine B0 (l:=[k,m]) 52 func20 O ntmps20 O λB=>?_
 rw[Ly] at E
 refine WF.sl (C3 O w (λe=>by cases e) O F λq1 S2 h3 ak e5 k6=>C3 O (z.mono e5) (λe=>by cases e) O ak λq8 S9 G a H n=>AF 1 (A0 O (AD (AZ (kp [3,2] O) (AE (Cn (.inl O) a ?_))))))
 have s:=k6.mono H
 refine A8 O s A7.f_Hour Jc O λbi al=>BC CQ a.1 O al BA O λbj=>A8 O n A7.f_Hour Jc O λbk am=>BC CQ a.1 O am BA O λbl=>B6 O (AA O ?_)
 obtain⟨I,b,E⟩:=bd E
 refine AW 6 16 (.bool I) ?_ ?_
 ·cases J:(decide (t.D=u.D))
  ·have b:=Hj J b
   cases b
   exact A4 O O
  have b:=Hi J b
  refine AB O (A8 O s I0 EF O λbm an=>AB O (BF CQ a.1 O an HO O λbn ao=>AB O (A8 O n I0 EF O λbo ap=>AB O (BF CQ a.1 O ap HO O λbp aq=>AB O ?_))))
  have K:Rd S9 G (BZ.fnr prog (λS h vs (x:((List Int)×(List Int)))=>∃A C:Value,vs=[A,C]∧Sl S h AJ A x.1∧Sl S h AJ C x.2) (λS h v (y:Bool)=>v= .bool y)) (.func (.func 41) #[] #[]) (λx=>D7 N x.1 x.2):=K2 41 #[] Um λS' h' s' e' L F x y vs h1 h2=>by obtain⟨A,C,rfl,a0,a1⟩:=h1;exact(F6 F a0 a1 h2).mono λ_ _ _ _ p=>p
  obtain⟨bq,M,b⟩:=bd b
  refine BU O O O nD O (λh' o=>Ji (St.all h') (ao.mono' (o.all a.1)) (aq.mono' (o.all a.1)) (K.mono (o.all a.1)) M) (AL O ?_)
  cases b
  exact AV O
 refine AA O ?_
 obtain⟨Q,c,E⟩:=bd E
 refine AW 6 23 (.bool Q) ?_ ?_
 ·cases U:I
  ·have c:=Hj U c
   cases c
   exact A4 O O
  have c:=Hi U c
  refine AB O (A8 O s KT Kn O λbr ar=>AB O (BF CQ a.1 O ar CH O λbs au=>AB O (A8 O n KT Kn O λbt av=>AB O (BF CQ a.1 O av CH O λbu aw=>AB O ?_))))
  obtain⟨bv,V,c⟩:=bd c
  refine BU O O O Um O (λh' o=>F6 (St.all h') (au.mono' (o.all a.1)) (aw.mono' (o.all a.1)) V) (AL O ?_)
  cases c
  exact AV O
 refine AA O ?_
 obtain⟨W,d,E⟩:=bd E
 refine AW 6 30 (.bool W) ?_ ?_
 ·cases X:Q
  ·have d:=Hj X d
   cases d
   exact A4 O O
  have d:=Hi X d
  refine AB O (A8 O s JZ Km O λbw ax=>AB O (BF CQ a.1 O ax MD O λbx ay=>AB O (A8 O n JZ Km O λbz az=>AB O (BF CQ a.1 O az MD O λb0 a2=>AB O ?_))))
  have Y:Rd S9 G (BZ.fnr prog (λS h vs (x:(BD×BD))=>∃A C:Value,vs=[A,C]∧Rd S h BJ A x.1∧Rd S h BJ C x.2) (λS h v (y:Bool)=>v= .bool y)) (.func (.func 43) #[] #[]) (λx=>Jy N x.1 x.2):=K2 43 #[] nB λS' h' s' e' L F x y vs h1 h2=>by obtain⟨A,C,rfl,a0,a1⟩:=h1;exact(Ob F a0 a1 h2).mono λ_ _ _ _ p=>p
  obtain⟨b1,Z,d⟩:=bd d
  refine BU O O O nC O (λh' o=>EV (St.all h') (ay.mono' (o.all a.1)) (a2.mono' (o.all a.1)) (Y.mono (o.all a.1)) Z) (AL O ?_)
  cases d
  exact AV O
 refine AA O ?_
 obtain⟨ab,g,E⟩:=bd E
 refine AW 6 37 (.bool ab) ?_ ?_
 ·cases ac:W
  ·have g:=Hj ac g
   cases g
   exact A4 O O
  have g:=Hi ac g
  refine AB O (A8 O s KU Iv O λb2 a3=>AB O (BF CQ a.1 O a3 LW O λb3 a4=>AB O (A8 O n KU Iv O λb4 a5=>AB O (BF CQ a.1 O a5 LW O λb5 a6=>AB O ?_))))
  obtain⟨b6,ad,g⟩:=bd g
  refine BU O O O nA O (λh' o=>IG (St.all h') (a4.mono' (o.all a.1)) (a6.mono' (o.all a.1)) ad) (AL O ?_)
  cases g
  exact AV O
 refine AA O ?_
 obtain⟨ae,i,E⟩:=bd E
 refine AW 6 44 (.bool ae) ?_ ?_
 ·cases af:ab
  ·have i:=Hj af i
   cases i
   exact A4 O O
  have i:=Hi af i
  refine AB O (A8 O s KD Kl O λb7 a7=>AB O (BF CQ a.1 O a7 CH O λb8 a8=>AB O (A8 O n KD Kl O λb9 a9=>AB O (BF CQ a.1 O a9 CH O λca ba=>AB O ?_))))
  obtain⟨cb,ag,i⟩:=bd i
  refine BU O O O Um O (λh' o=>F6 (St.all h') (a8.mono' (o.all a.1)) (ba.mono' (o.all a.1)) ag) (AL O ?_)
  cases i
  exact AV O
 refine AA O ?_
 obtain⟨bb,j,E⟩:=bd E
 refine AW 6 51 (.bool bb) ?_ ?_
 ·cases ah:ae
  ·have j:=Hj ah j
   cases j
   exact A4 O O
  have j:=Hi ah j
  refine AB O (A8 O s LQ KO O λcc bc=>AB O (BF CQ a.1 O bc CH O λcd be=>AB O (A8 O n LQ KO O λce bf=>AB O (BF CQ a.1 O bf CH O λcf bg=>AB O ?_))))
  obtain⟨cg,ai,j⟩:=bd j
  refine BU O O O Um O (λh' o=>F6 (St.all h') (be.mono' (o.all a.1)) (bg.mono' (o.all a.1)) ai) (AL O ?_)
  cases j
  exact AV O
 refine A0 O (B9 (kp [4] O) λch aj bh=>A5 (λaa ww hf hw=>?_))
 cases E
 exact Em hf hw O O (e5.trans (H.trans bh)) ⟨O,aj⟩
def Mx (hs:St S L h) {r:Bool}(E:Hf N=some r):
 DK prog 9 #[] S h (λv S' h'=>v= .bool r∧St S' (L) h'):=by
 refine B0 (l:=[]) 176 func9 O ntmps9 O λB=>?_
 rw[Hf] at E
 refine AI (AM O Py (WF.sl ?_))
 obtain⟨y1,ov,E⟩:=bd E
 refine Dj O O O nM O (Mj hs ov) λv2 S3 h4 e5 p=>?_
 obtain⟨k7,ow⟩:=p
 refine Di cK O ow λb9 xs lf fo=>?_
 obtain⟨bc,be,bf,bg,bh,bi,bj,bk,rfl,eg,c5,eh,c6,c7,c8,c9,da,db,dc,ei⟩:=C2.ex (k7.mono fo)
 refine Ht (vs:=[.string y1.H,bc,vI y1.T,be,bf,bg,bh,bi,bj,bk,vI y1.V]) (cs':=[.string y1.H,bc,vI y1.T,be,bf,bg,bh,bi,bj,bk,vI y1.V]) O O O (AC O (AC c5.one (AC O (AC c6.one (AC c7.one (AC c8.one (AC c9.one (AC da.one (AC db.one (AC dc.one (AC O Es))))))))))) H2 O lf .head O O λxt gw aq=>AZ (kp [1] O) (WF.sl (AF 1 (ES (vs:=[.string y1.H,bc,vI y1.T,be,bf,bg,bh,bi,bj,bk,vI y1.V]) Bu gw O mh O O H2 O O (AD ?_))))
 obtain⟨ai,lg,E⟩:=bd E
 refine Dj O O O nR O (Qd gw (C2.mk (x:=y1) eg (c5.mono' aq) eh (c6.mono' aq) (c7.mono' aq) (c8.mono' aq) (c9.mono' aq) (da.mono' aq) (db.mono' aq) (dc.mono' aq) ei) (iq (n:=5) O) lg) λxu xv xw dd p=>?_
 obtain⟨ox,lh⟩:=p
 refine Di N7 O lh λej xx li ct=>?_
 obtain⟨bl,bm,bn,bo,bp,bq,rfl,ek,cu,de,df,dg,dh,di⟩:=DE.ex (ox.mono ct)
 refine Ht (vs:=[vI ai.D,bl,bm,bn,bo,bp,bq]) (cs':=[vI ai.D,bl,bm,bn,bo,bp,bq]) O O O (AC O (AC cu.one (AC de.one (AC df.one (AC dg.one (AC dh.one (AC di.one Es))))))) G6 O li .head O O λxy i J=>AZ (kp [2,1] O) (AE (AE (Cn (.inl O) i (ES (vs:=[.string y1.H,bc,vI y1.T,be,bf,bg,bh,bi,bj,bk,vI y1.V]) CQ i O (mt mh) O O H2 O O ?_))))
 have a0:=aq.trans (dd.trans (ct.trans J))
 obtain⟨oy,lj,E⟩:=bd E
 refine BU O O O dX O (λh' o=>Mr (St.all h') (C2.mk (x:=y1) eg ((c5.mono' a0).mono' (o.all i.1)) eh ((c6.mono' a0).mono' (o.all i.1)) ((c7.mono' a0).mono' (o.all i.1)) ((c8.mono' a0).mono' (o.all i.1)) ((c9.mono' a0).mono' (o.all i.1)) ((da.mono' a0).mono' (o.all i.1)) ((db.mono' a0).mono' (o.all i.1)) ((dc.mono' a0).mono' (o.all i.1)) ei) lj) (CI O (AA O ?_))
 obtain⟨hr,a1,E⟩:=bd E
 refine AW 5 23 (.bool hr) ?_ ?_
 ·cases ll:(!oy)
  ·have a1:=Hj ll a1
   refine AB O (ES (vs:=[.string y1.H,bc,vI y1.T,be,bf,bg,bh,bi,bj,bk,vI y1.V]) CQ i O (mt mh) O O H2 O O (AB O (ES (vs:=[vI ai.D,bl,bm,bn,bo,bp,bq]) CQ i O mh O O G6 O O (AB O ?_))))
   have a2:=aq.trans (dd.trans (ct.trans J))
   obtain⟨ry,ht,a1⟩:=bd a1
   refine BU O O O Wj O (λh' o=>KG (St.all h') (C2.mk (x:=y1) eg ((c5.mono' a2).mono' (o.all i.1)) eh ((c6.mono' a2).mono' (o.all i.1)) ((c7.mono' a2).mono' (o.all i.1)) ((c8.mono' a2).mono' (o.all i.1)) ((c9.mono' a2).mono' (o.all i.1)) ((da.mono' a2).mono' (o.all i.1)) ((db.mono' a2).mono' (o.all i.1)) ((dc.mono' a2).mono' (o.all i.1)) ei) (DE.mk (x:=ai) ek ((cu.mono' J).mono' (o.all i.1)) ((de.mono' J).mono' (o.all i.1)) ((df.mono' J).mono' (o.all i.1)) ((dg.mono' J).mono' (o.all i.1)) ((dh.mono' J).mono' (o.all i.1)) ((di.mono' J).mono' (o.all i.1))) ht) (AB O (CI O (AL O ?_)))
   cases a1
   exact AV O
  have a1:=Hi ll a1
  cases a1
  exact A4 O O
 refine AA O (AW 5 29 (.bool (hr||(decide ((↑ai.F.length:Int)≠1)))) ?_ ?_)
 ·cases rz:hr
  ·exact AB O (AG EF O (AB O (AT CQ i O mh O HO O (AB O (BE O (cu.mono' J) Fl O λr0=>AB O (Cg O (AL O (AV O))))))))
  exact A4 O O
 refine B9 (kp [29,2,1] O) λr1 b7 Q=>AY O E (λlm E=>?_) (λlm E=>?_)
 ·refine AI (AM O (kp [0] O) (A5 (λaa ww hf hw=>?_)))
  have hu:=b7.sel [] 2 O
  cases E
  exact Em hf hw O O (e5.trans (fo.trans (aq.trans (dd.trans (ct.trans (J.trans Q)))))) ⟨O,hu⟩
 refine AS (WF.sl (AF 3 (ES (vs:=[.string y1.H,bc,vI y1.T,be,bf,bg,bh,bi,bj,bk,vI y1.V]) Bu b7 O (mt mh) O O H2 O O (ES (vs:=[vI ai.D,bl,bm,bn,bo,bp,bq]) Bu b7 O mh O O G6 O O (Iz (cs:=[vN,vN,vN,vN,vN]) cY O O O (AD ?_))))))
 have ag:=aq.trans (dd.trans (ct.trans (J.trans Q)))
 obtain⟨j,hv,E⟩:=bd E
 refine Dj O O O Wk O (Kj b7 (C2.mk (x:=y1) eg (c5.mono' ag) eh (c6.mono' ag) (c7.mono' ag) (c8.mono' ag) (c9.mono' ag) (da.mono' ag) (db.mono' ag) (dc.mono' ag) ei) (DE.mk (x:=ai) ek (cu.mono' (J.trans Q)) (de.mono' (J.trans Q)) (df.mono' (J.trans Q)) (dg.mono' (J.trans Q)) (dh.mono' (J.trans Q)) (di.mono' (J.trans Q))) (G0.mk (x:=(⟨[],[],[],[],[]⟩:DO)) (.inl ⟨O,O⟩) (.inl ⟨O,O⟩) (.inl ⟨O,O⟩) (.inl ⟨O,O⟩) (.inl ⟨O,O⟩)) hv) λr2 r3 r4 br p=>?_
 obtain⟨r5,el,em,rfl,lo,hx⟩:=p
 refine AF 4 (AA O (CX O (CX O (CX O (AD (Di N7 O hx λb3 r6 hy a3=>?_))))))
 obtain⟨a4,a5,a6,a7,a8,a9,rfl,en,aw,d9,ea,eb,ec,bs⟩:=DE.ex (lo.mono a3)
 refine Ht (vs:=[vI j.1.D,a4,a5,a6,a7,a8,a9]) (cs':=[vI j.1.D,a4,a5,a6,a7,a8,a9]) O O O (AC O (AC aw.one (AC d9.one (AC ea.one (AC eb.one (AC ec.one (AC bs.one Es))))))) G6 O hy .head O O λr7 dj U=>AF 2 (A0 O (A0 O (AD (AZ (kp [5,4,3,2,1] O) (WF.sl (AF 3 (ES (vs:=[.string y1.H,bc,vI y1.T,be,bf,bg,bh,bi,bj,bk,vI y1.V]) Bu dj O (mt (mt (mt (mt mh)))) O O H2 O O (ES (vs:=[vI ai.D,bl,bm,bn,bo,bp,bq]) Bu dj O (mt (mt (mt mh))) O O G6 O O (Iz (cs:=[vI 0,vI 1,vI 60,vI (-1)]) jU O O O (AD (E3 (cs:=[vI 0,vI 1,vI 60,vI (-1)]) lQ O O O O O O O dj λlp r8 hz W=>AF 1 ?_)))))))))))
 have h0:=hz.bxos (r:=Gd) (l:=([(⟨0,1,60,(-1)⟩:G9)]:List G9)) .head ⟨_,_,O,⟨O,⟨(iq (n:=0) O),(iq (n:=1) O),(iq (n:=60) O),(iq (n:=(-1)) O)⟩⟩,O⟩ (by simp [maxLen])
 obtain⟨r9,h1,X,lq⟩:=h0.pubs .head
 refine Iz (cs:=[vN,vN,vN,(.slice (some ⟨lp,0,none⟩) 1 1),vN]) cY O O O (AD ?_)
 have aj:=ag.trans (br.trans (a3.trans (U.trans (W.trans X))))
 have ax:=J.trans (Q.trans (br.trans (a3.trans (U.trans (W.trans X)))))
 obtain⟨z,h2,E⟩:=bd E
 refine Dj O O O Wk O (Kj h1 (C2.mk (x:=y1) eg (c5.mono' aj) eh (c6.mono' aj) (c7.mono' aj) (c8.mono' aj) (c9.mono' aj) (da.mono' aj) (db.mono' aj) (dc.mono' aj) ei) (DE.mk (x:=ai) ek (cu.mono' ax) (de.mono' ax) (df.mono' ax) (dg.mono' ax) (dh.mono' ax) (di.mono' ax)) (G0.mk (x:=(⟨[],[],[],([(⟨0,1,60,(-1)⟩:G9)]:List G9),[]⟩:DO)) (.inl ⟨O,O⟩) (.inl ⟨O,O⟩) (.inl ⟨O,O⟩) lq (.inl ⟨O,O⟩)) h2) λsa gx sc ah p=>?_
 obtain⟨sd,cv,eo,rfl,lr,h3⟩:=p
 refine AF 4 (AA O (CX O (CX O (CX O (AD (Di N7 O h3 λcw se h5 af=>?_))))))
 obtain⟨cx,cy,cz,c0,c1,c2,rfl,sf,ep,ls,lt,lu,lv,lw⟩:=DE.ex (lr.mono af)
 refine Ht (vs:=[vI z.1.D,cx,cy,cz,c0,c1,c2]) (cs':=[vI z.1.D,cx,cy,cz,c0,c1,c2]) O O O (AC O (AC ep.one (AC ls.one (AC lt.one (AC lu.one (AC lv.one (AC lw.one Es))))))) G6 O h5 .head O O λgz d Y=>AF 2 (A0 O (A0 O (AD (AZ (kp [7,6,5,4,3,2,1] O) (AE (AI (AA O (L3 d (mt (mt (mt (mt mh)))) O I4 O λsg=>Cg O (AA O (AW 4 55 (.bool ((decide ((↑j.2.1.length:Int)≠2))||(decide ((↑z.2.1.length:Int)≠2)))) ?_ ?_))))))))))
 ·cases sh:(decide ((↑j.2.1.length:Int)≠2))
  ·exact AB O (AA O (AB O (L3 d (mt mh) O I4 O λsi=>AB O (Cg O (AL O (AV O))))))
  exact A4 O O
 refine AA O (AW 5 61 (.bool (((decide ((↑j.2.1.length:Int)≠2))||(decide ((↑z.2.1.length:Int)≠2)))||(decide ((↑j.1.F.length:Int)≠1)))) ?_ ?_)
 ·cases sj:((decide ((↑j.2.1.length:Int)≠2))||(decide ((↑z.2.1.length:Int)≠2)))
  ·exact AB O (AG EF O (AB O (AT Bu d O (mt (mt (mt mh))) O HO O (AB O (BE O (aw.mono' (U.trans (W.trans (X.trans (ah.trans (af.trans Y)))))) Fl O λsk=>AB O (Cg O (AL O (AV O))))))))
  exact A4 O O
 refine AA O (AW 5 67 (.bool ((((decide ((↑j.2.1.length:Int)≠2))||(decide ((↑z.2.1.length:Int)≠2)))||(decide ((↑j.1.F.length:Int)≠1)))||(decide ((↑z.1.F.length:Int)≠1)))) ?_ ?_)
 ·cases sn:(((decide ((↑j.2.1.length:Int)≠2))||(decide ((↑z.2.1.length:Int)≠2)))||(decide ((↑j.1.F.length:Int)≠1)))
  ·exact AB O (AG EF O (AB O (AT Bu d O mh O HO O (AB O (BE O (ep.mono' Y) Fl O λso=>AB O (Cg O (AL O (AV O))))))))
  exact A4 O O
 refine AN (kp [67,7,6,5,4,3,2,1] O) (AY O E (λlx E=>?_) (λlx E=>?_))
 ·refine AI (AM O (kp [0] O) (A5 (λaa ww hf hw=>?_)))
  have h6:=d.sel [] 8 O
  cases E
  exact Em hf hw O O (e5.trans (fo.trans (aq.trans (dd.trans (ct.trans (J.trans (Q.trans (br.trans (a3.trans (U.trans (W.trans (X.trans (ah.trans (af.trans Y)))))))))))))) ⟨O,h6⟩
 refine AS (AE ?_)
 obtain⟨sp,bt,E⟩:=bd E
 obtain⟨ly,bu,E⟩:=bd E
 obtain⟨sq,A,E⟩:=bd E
 obtain⟨ss,K,E⟩:=bd E
 obtain⟨su,u,E⟩:=bd E
 obtain⟨ba,M,E⟩:=bd E
 refine He (λa w=>IV B gx gz (176,[]) a w [(9,.bool ba),(7,cv),(6,vP cw 0),(3,vP b3 0),(2,vP ej 0),(1,vP b9 0)] (Bx cw 36 [vI z.1.D,cx,cy,cz,c0,c1,c2]::OS CJ 50 cv z.2.1::OS AJ 3 eo z.2.2::Bx b3 36 [vI j.1.D,a4,a5,a6,a7,a8,a9]::OS CJ 50 el j.2.1::OS AJ 3 em j.2.2::Bx ej 36 [vI ai.D,bl,bm,bn,bo,bp,bq]::Bx b9 31 [.string y1.H,bc,vI y1.T,be,bf,bg,bh,bi,bj,bk,vI y1.V]::L) λ_ _=>True) ?_ ?_
 ·rcases Zd (decide (ly.Be=(-1))) with bb|bb
  ·have A:=Hj bb A
   have lz:=qS A
   subst lz
   have l0:=qS K
   subst l0
   have l1:=qS u
   subst l1
   have l2:=qS M
   subst l2
   refine FG (AF 1 (AA O (AD (AF 1 (BX d (mt (mt (mt (mt mh)))) O O I4 bt O λsv h7=>AD (AF 1 (H9 O h7 Jx O λsw h8=>AD (AF 1 ?_))))))))
   have l3:=d.epAt (mt (mt (mt (mt mh)))) bu Gy h8
   refine BC Bu (λ_ x=>x) O l3 BA O λsx=>AD (AF 1 (B6 O (AD (Ha bb (AF 1 (AA O (AD (AF 1 (BO O (AD (AF 1 (BO O (AD (AF 1 (BO O (AD (AF 1 (BO O (AD (AF 1 (BO O (AD (AF 1 (BO O (AD (AF 1 (AL O (AD ?_))))))))))))))))))))))))))))
   refine AF 1 (AA O (AD (AF 1 (BO O (AD (AF 1 (BO O (AD (AF 1 (BO O (AD (AF 1 (BO O (AD (AF 1 (BO O (AD (AF 1 (AL O (AD (AF 1 (AA O (AD (AF 1 (BO O (AD (AF 1 (BO O (AD ?_)))))))))))))))))))))))))))))
   refine AF 1 (BO O (AD (AF 1 (BO O (AD (AF 1 (BO O (AD (AF 1 (BO O (AD (AF 1 (AL O (AD (AF 1 (AA O (AD (AF 1 (BO O (AD (AF 1 (BO O (AD (AF 1 (BO O (AD (AF 1 (AL O (AD ?_)))))))))))))))))))))))))))))
   exact AF 1 (A0 O (AD (AZ (kp [9,7,6,3,2,1] O) (WF.nil (λaa ww hf hw=>⟨_,_,hf.sub (kp [9,7,6,3,2,1] O),hw,d,(C9.refl gx gz),trivial⟩)))))
  have A:=Hi bb A
  obtain⟨sy,b8,A⟩:=bd A
  obtain⟨sz,ca,A⟩:=bd A
  obtain⟨l4,cb,A⟩:=bd A
  have l5:=qS A
  subst l5
  rcases Zd l4 with bv|bv
  ·have K:=Hj bv K
   have l6:=qS K
   subst l6
   have l7:=qS u
   subst l7
   have l8:=qS M
   subst l8
   refine FG (AF 1 (AA O (AD (AF 1 (BX d (mt (mt (mt (mt mh)))) O O I4 bt O λs0 h9=>AD (AF 1 (H9 O h9 Jx O λs1 ia=>AD (AF 1 ?_))))))))
   have l9:=d.epAt (mt (mt (mt (mt mh)))) bu Gy ia
   refine BC Bu (λ_ x=>x) O l9 BA O λs2=>AD (AF 1 (B6 O (AD (Ha bb (AF 1 (AA O (AD (AF 1 (AB O (AA O (AD (AF 1 (AB O (BX d (mt (mt (mt (mt mh)))) O O I4 b8 O λs3 ib=>AD (AF 1 (AB O (H9 O ib KN O λs4 ic=>AD (AF 1 (AB O ?_)))))))))))))))))))
   have ma:=d.epAt (mt (mt (mt (mt mh)))) ca BB.f_Part ic
   refine BF Bu (λ_ x=>x) O ma CH O λs5 mb=>AD (G8 O O O (E3 (cs:=[vI 10,vI 5]) GM O O O O O O O d λs6 s7 id g0=>G8 O O O ?_))
   have ie:=id.bxos (r:=AJ) (l:=([10,5]:List Int)) .head ⟨_,_,O,⟨O,(iq (n:=10) O)⟩,⟨_,_,O,⟨O,(iq (n:=5) O)⟩,O⟩⟩ (by simp [maxLen])
   obtain⟨s8,dk,g1,mc⟩:=ie.pubs .head
   refine CG O O O Ju O dk (B4 (St.all _) ((mb.mono' (g0.trans g1)).mono (λb g=>dk.1 b g) (λ_ _=>rfl)) (mc.mono (λb g=>dk.1 b g) (λ_ _=>rfl)) cb) λs9 ta tb ig md tc p=>?_
   obtain⟨rfl,oz⟩:=p
   refine Ha bv (AF 1 (AL O (AD (AF 1 (AA O (AD (AF 1 (BO O (AD (AF 1 (BO O (AD (AF 1 (BO O (AD (AF 1 (BO O (AD (AF 1 (BO O (AD (AF 1 (AL O (AD (AF 1 (AA O (AD (AF 1 (BO O ?_)))))))))))))))))))))))))))))
   refine AD (AF 1 (BO O (AD (AF 1 (BO O (AD (AF 1 (BO O (AD (AF 1 (BO O (AD (AF 1 (BO O (AD (AF 1 (AL O (AD (AF 1 (AA O (AD (AF 1 (BO O (AD (AF 1 (BO O (AD (AF 1 (BO O ?_)))))))))))))))))))))))))))))
   exact AD (AF 1 (AL O (AD (AF 1 (A0 O (AD (AZ (kp [9,7,6,3,2,1] O) (WF.nil (λaa ww hf hw=>⟨_,_,hf.sub (kp [9,7,6,3,2,1] O),hw,ig,(g0.trans (g1.trans md)),trivial⟩)))))))))
  have K:=Hi bv K
  obtain⟨td,dl,K⟩:=bd K
  obtain⟨me,dm,K⟩:=bd K
  have mf:=qS K
  subst mf
  rcases Zd (decide (me.Be=(-2))) with b4|b4
  ·have u:=Hj b4 u
   have mg:=qS u
   subst mg
   have mi:=qS M
   subst mi
   refine FG (AF 1 (AA O (AD (AF 1 (BX d (mt (mt (mt (mt mh)))) O O I4 bt O λte ih=>AD (AF 1 (H9 O ih Jx O λtf ii=>AD (AF 1 ?_))))))))
   have mj:=d.epAt (mt (mt (mt (mt mh)))) bu Gy ii
   refine BC Bu (λ_ x=>x) O mj BA O λtg=>AD (AF 1 (B6 O (AD (Ha bb (AF 1 (AA O (AD (AF 1 (AB O (AA O (AD (AF 1 (AB O (BX d (mt (mt (mt (mt mh)))) O O I4 b8 O λth ij=>AD (AF 1 (AB O (H9 O ij KN O λti ik=>AD (AF 1 (AB O ?_)))))))))))))))))))
   have ml:=d.epAt (mt (mt (mt (mt mh)))) ca BB.f_Part ik
   refine BF Bu (λ_ x=>x) O ml CH O λtj mm=>AD (G8 O O O (E3 (cs:=[vI 10,vI 5]) GM O O O O O O O d λtk tl il g2=>G8 O O O ?_))
   have im:=il.bxos (r:=AJ) (l:=([10,5]:List Int)) .head ⟨_,_,O,⟨O,(iq (n:=10) O)⟩,⟨_,_,O,⟨O,(iq (n:=5) O)⟩,O⟩⟩ (by simp [maxLen])
   obtain⟨tm,dn,g3,mn⟩:=im.pubs .head
   refine CG O O O Ju O dn (B4 (St.all _) ((mm.mono' (g2.trans g3)).mono (λb g=>dn.1 b g) (λ_ _=>rfl)) (mn.mono (λb g=>dn.1 b g) (λ_ _=>rfl)) cb) λtn tp tq dp mp tr p=>?_
   obtain⟨rfl,o0⟩:=p
   refine Ha bv (AF 1 (AL O (AD (AF 1 (AA O (AD (AF 1 (AB O (AA O (AD (AF 1 (AB O (BX dp (mt (mt (mt (mt mh)))) O O I4 dl O λts io=>AD (AF 1 (AB O (H9 O io Jx O λtt ip=>AD (AF 1 (AB O ?_))))))))))))))))))
   have mq:=dp.epAt (mt (mt (mt (mt mh)))) dm Gy ip
   refine BC Bu (λ_ x=>x) O mq BA O λtu=>AD (AF 1 (AB O (B6 O (AD (Ha b4 (AF 1 (AL O (AD (AF 1 (AA O (AD (AF 1 (BO O (AD (AF 1 (BO O (AD (AF 1 (BO O (AD (AF 1 (BO O (AD (AF 1 (BO O (AD (AF 1 (BO O ?_))))))))))))))))))))))))))))
   exact AD (AF 1 (AL O (AD (AF 1 (AA O (AD (AF 1 (BO O (AD (AF 1 (BO O (AD (AF 1 (BO O (AD (AF 1 (AL O (AD (AF 1 (A0 O (AD (AZ (kp [9,7,6,3,2,1] O) (WF.nil (λaa ww hf hw=>⟨_,_,hf.sub (kp [9,7,6,3,2,1] O),hw,dp,(g2.trans (g3.trans mp)),trivial⟩))))))))))))))))))))))))
  have u:=Hi b4 u
  obtain⟨tv,eq,u⟩:=bd u
  obtain⟨tw,er,u⟩:=bd u
  obtain⟨mr,es,u⟩:=bd u
  have ms:=qS u
  subst ms
  rcases Zd mr with c3|c3
  ·have M:=Hj c3 M
   have mu:=qS M
   subst mu
   refine FG (AF 1 (AA O (AD (AF 1 (BX d (mt (mt (mt (mt mh)))) O O I4 bt O λtx ir=>AD (AF 1 (H9 O ir Jx O λty it=>AD (AF 1 ?_))))))))
   have mv:=d.epAt (mt (mt (mt (mt mh)))) bu Gy it
   refine BC Bu (λ_ x=>x) O mv BA O λtz=>AD (AF 1 (B6 O (AD (Ha bb (AF 1 (AA O (AD (AF 1 (AB O (AA O (AD (AF 1 (AB O (BX d (mt (mt (mt (mt mh)))) O O I4 b8 O λt0 iu=>AD (AF 1 (AB O (H9 O iu KN O λt1 iv=>AD (AF 1 (AB O ?_)))))))))))))))))))
   have mw:=d.epAt (mt (mt (mt (mt mh)))) ca BB.f_Part iv
   refine BF Bu (λ_ x=>x) O mw CH O λt2 mx=>AD (G8 O O O (E3 (cs:=[vI 10,vI 5]) GM O O O O O O O d λt3 t4 iw g4=>G8 O O O ?_))
   have iy:=iw.bxos (r:=AJ) (l:=([10,5]:List Int)) .head ⟨_,_,O,⟨O,(iq (n:=10) O)⟩,⟨_,_,O,⟨O,(iq (n:=5) O)⟩,O⟩⟩ (by simp [maxLen])
   obtain⟨t5,dq,g5,my⟩:=iy.pubs .head
   refine CG O O O Ju O dq (B4 (St.all _) ((mx.mono' (g4.trans g5)).mono (λb g=>dq.1 b g) (λ_ _=>rfl)) (my.mono (λb g=>dq.1 b g) (λ_ _=>rfl)) cb) λt6 t7 t8 bw mz t9 p=>?_
   obtain⟨rfl,o1⟩:=p
   refine Ha bv (AF 1 (AL O (AD (AF 1 (AA O (AD (AF 1 (AB O (AA O (AD (AF 1 (AB O (BX bw (mt (mt (mt (mt mh)))) O O I4 dl O λua iz=>AD (AF 1 (AB O (H9 O iz Jx O λub i0=>AD (AF 1 (AB O ?_))))))))))))))))))
   have m0:=bw.epAt (mt (mt (mt (mt mh)))) dm Gy i0
   refine BC Bu (λ_ x=>x) O m0 BA O λuc=>AD (AF 1 (AB O (B6 O (AD (Ha b4 (AF 1 (AL O (AD (AF 1 (AA O (AD (AF 1 (AB O (AA O (AD (AF 1 (AB O (BX bw (mt (mt (mt (mt mh)))) O O I4 eq O λud i1=>AD (AF 1 (AB O (H9 O i1 KN O λue i2=>AD (AF 1 (AB O ?_)))))))))))))))))))))))
   have m1:=bw.epAt (mt (mt (mt (mt mh)))) er BB.f_Part i2
   refine BF Bu (λ_ x=>x) O m1 CH O λuf m2=>AD (G8 O O O (E3 (cs:=[vI 10,vI 5]) GM O O O O O O O bw λug uh i3 g6=>G8 O O O ?_))
   have i4:=i3.bxos (r:=AJ) (l:=([10,5]:List Int)) .head ⟨_,_,O,⟨O,(iq (n:=10) O)⟩,⟨_,_,O,⟨O,(iq (n:=5) O)⟩,O⟩⟩ (by simp [maxLen])
   obtain⟨ui,dr,g7,m3⟩:=i4.pubs .head
   refine CG O O O Ju O dr (B4 (St.all _) ((m2.mono' (g6.trans g7)).mono (λb g=>dr.1 b g) (λ_ _=>rfl)) (m3.mono (λb g=>dr.1 b g) (λ_ _=>rfl)) es) λuj uk ul i5 m4 um p=>?_
   obtain⟨rfl,o2⟩:=p
   exact Ha c3 (AF 1 (AL O (AD (AF 1 (AA O (AD (AF 1 (BO O (AD (AF 1 (BO O (AD (AF 1 (BO O (AD (AF 1 (AL O (AD (AF 1 (A0 O (AD (AZ (kp [9,7,6,3,2,1] O) (WF.nil (λaa ww hf hw=>⟨_,_,hf.sub (kp [9,7,6,3,2,1] O),hw,i5,(g4.trans (g5.trans (mz.trans (g6.trans (g7.trans m4))))),trivial⟩))))))))))))))))))))))))
  have M:=Hi c3 M
  obtain⟨un,i6,M⟩:=bd M
  have m5:=qS M
  subst m5
  refine FG (AF 1 (AA O (AD (AF 1 (BX d (mt (mt (mt (mt mh)))) O O I4 bt O λuo i7=>AD (AF 1 (H9 O i7 Jx O λup i8=>AD (AF 1 ?_))))))))
  have m6:=d.epAt (mt (mt (mt (mt mh)))) bu Gy i8
  refine BC Bu (λ_ x=>x) O m6 BA O λuq=>AD (AF 1 (B6 O (AD (Ha bb (AF 1 (AA O (AD (AF 1 (AB O (AA O (AD (AF 1 (AB O (BX d (mt (mt (mt (mt mh)))) O O I4 b8 O λur i9=>AD (AF 1 (AB O (H9 O i9 KN O λus ja=>AD (AF 1 (AB O ?_)))))))))))))))))))
  have m7:=d.epAt (mt (mt (mt (mt mh)))) ca BB.f_Part ja
  refine BF Bu (λ_ x=>x) O m7 CH O λut m8=>AD (G8 O O O (E3 (cs:=[vI 10,vI 5]) GM O O O O O O O d λuu uv jb g8=>G8 O O O ?_))
  have jc:=jb.bxos (r:=AJ) (l:=([10,5]:List Int)) .head ⟨_,_,O,⟨O,(iq (n:=10) O)⟩,⟨_,_,O,⟨O,(iq (n:=5) O)⟩,O⟩⟩ (by simp [maxLen])
  obtain⟨uw,ds,g9,m9⟩:=jc.pubs .head
  refine CG O O O Ju O ds (B4 (St.all _) ((m8.mono' (g8.trans g9)).mono (λb g=>ds.1 b g) (λ_ _=>rfl)) (m9.mono (λb g=>ds.1 b g) (λ_ _=>rfl)) cb) λux uy uz bx na u0 p=>?_
  obtain⟨rfl,o3⟩:=p
  refine Ha bv (AF 1 (AL O (AD (AF 1 (AA O (AD (AF 1 (AB O (AA O (AD (AF 1 (AB O (BX bx (mt (mt (mt (mt mh)))) O O I4 dl O λu1 jd=>AD (AF 1 (AB O (H9 O jd Jx O λu2 je=>AD (AF 1 (AB O ?_))))))))))))))))))
  have nb:=bx.epAt (mt (mt (mt (mt mh)))) dm Gy je
  refine BC Bu (λ_ x=>x) O nb BA O λu3=>AD (AF 1 (AB O (B6 O (AD (Ha b4 (AF 1 (AL O (AD (AF 1 (AA O (AD (AF 1 (AB O (AA O (AD (AF 1 (AB O (BX bx (mt (mt (mt (mt mh)))) O O I4 eq O λu4 jf=>AD (AF 1 (AB O (H9 O jf KN O λu5 jg=>AD (AF 1 (AB O ?_)))))))))))))))))))))))
  have nc:=bx.epAt (mt (mt (mt (mt mh)))) er BB.f_Part jg
  refine BF Bu (λ_ x=>x) O nc CH O λu6 nd=>AD (G8 O O O (E3 (cs:=[vI 10,vI 5]) GM O O O O O O O bx λu7 u8 jh ha=>G8 O O O ?_))
  have ji:=jh.bxos (r:=AJ) (l:=([10,5]:List Int)) .head ⟨_,_,O,⟨O,(iq (n:=10) O)⟩,⟨_,_,O,⟨O,(iq (n:=5) O)⟩,O⟩⟩ (by simp [maxLen])
  obtain⟨u9,dt,hc,ne⟩:=ji.pubs .head
  refine CG O O O Ju O dt (B4 (St.all _) ((nd.mono' (ha.trans hc)).mono (λb g=>dt.1 b g) (λ_ _=>rfl)) (ne.mono (λb g=>dt.1 b g) (λ_ _=>rfl)) es) λva vb vc jj nf vd p=>?_
  obtain⟨rfl,o4⟩:=p
  refine Ha c3 (AF 1 (AL O (AD (AF 1 (AA O (AD (AF 1 (AB O (AA O (AD (G8 O O O (E3 (cs:=[vI 150]) GM O O O O O O O jj λve vf jk ng=>G8 O O O ?_))))))))))))
  have jl:=jk.bxos (r:=AJ) (l:=([150]:List Int)) .head ⟨_,_,O,⟨O,(iq (n:=150) O)⟩,O⟩ (by simp [maxLen])
  obtain⟨vg,du,nh,ni⟩:=jl.pubs .head
  refine CG O O O Ju O du (B4 (St.all _) (du.oslAll (mt (mt (mt (mt (mt mh)))))) (ni.mono (λb g=>du.1 b g) (λ_ _=>rfl)) i6) λvh vi vj jm nj vk p=>?_
  obtain⟨rfl,o5⟩:=p
  exact AF 1 (AL O (AD (AF 1 (A0 O (AD (AZ (kp [9,7,6,3,2,1] O) (WF.nil (λaa ww hf hw=>⟨_,_,hf.sub (kp [9,7,6,3,2,1] O),hw,jm,(g8.trans (g9.trans (na.trans (ha.trans (hc.trans (nf.trans (ng.trans (nh.trans nj)))))))),trivial⟩))))))))
 rintro aa ww ⟨nk,nl,hf,hw,C,ak,_⟩
 refine A6 ?_ hf hw
 clear hf hw ww aa
 refine AE ?_
 obtain⟨vl,cc,E⟩:=bd E
 obtain⟨nm,cd,E⟩:=bd E
 obtain⟨vm,am,E⟩:=bd E
 obtain⟨vn,ar,E⟩:=bd E
 obtain⟨b5,G,E⟩:=bd E
 refine He (λa w=>IV B nk nl (176,[]) a w [(10,.bool b5),(9,.bool ba),(7,cv),(6,vP cw 0),(3,vP b3 0),(2,vP ej 0),(1,vP b9 0)] (Bx cw 36 [vI z.1.D,cx,cy,cz,c0,c1,c2]::OS CJ 50 cv z.2.1::OS AJ 3 eo z.2.2::Bx b3 36 [vI j.1.D,a4,a5,a6,a7,a8,a9]::OS CJ 50 el j.2.1::OS AJ 3 em j.2.2::Bx ej 36 [vI ai.D,bl,bm,bn,bo,bp,bq]::Bx b9 31 [.string y1.H,bc,vI y1.T,be,bf,bg,bh,bi,bj,bk,vI y1.V]::L) λ_ _=>True) ?_ ?_
 ·rcases Zd nm with bz|bz
  ·have am:=Hj bz am
   have nn:=qS am
   subst nn
   have no:=qS ar
   subst no
   have np:=qS G
   subst np
   refine FG (AF 1 (AG EF O (AD (AF 1 (AT Bu C O (mt (mt (mt mh))) O HO O (AD (AF 1 (B1 O O (aw.mono' (U.trans (W.trans (X.trans (ah.trans (af.trans (Y.trans ak))))))) Fl cc O λvo nq=>AD (AF 1 (BF Bu C.1 O nq CH O λvp nr=>AD (E3 (cs:=[vI 80,vI 40]) GM O O O O O O O C λvq vr jn hd=>?_)))))))))))
   have jo:=jn.bxos (r:=AJ) (l:=([80,40]:List Int)) .head ⟨_,_,O,⟨O,(iq (n:=80) O)⟩,⟨_,_,O,⟨O,(iq (n:=40) O)⟩,O⟩⟩ (by simp [maxLen])
   obtain⟨vt,dv,he,ns⟩:=jo.pubs .head
   refine CG O O O Ju O dv (B4 (St.all _) ((nr.mono' (hd.trans he)).mono (λb g=>dv.1 b g) (λ_ _=>rfl)) (ns.mono (λb g=>dv.1 b g) (λ_ _=>rfl)) cd) λvu vv vw jp nt vx p=>?_
   obtain⟨rfl,o6⟩:=p
   refine Ha bz (AF 1 (AA O (AD (AF 1 (BO O (AD (AF 1 (BO O (AD (AF 1 (BO O (AD (AF 1 (BO O (AD (AF 1 (AL O (AD (AF 1 (AA O (AD (AF 1 (BO O (AD (AF 1 (BO O (AD (AF 1 (BO O ?_)))))))))))))))))))))))))))))
   exact AD (AF 1 (AL O (AD (AF 1 (AA O (AD (AF 1 (BO O (AD (AF 1 (BO O (AD (AF 1 (BO O (AD (AF 1 (BO O (AD (AF 1 (AL O (AD (AF 1 (A0 O (AD (AZ (kp [10,9,7,6,3,2,1] O) (WF.nil (λaa ww hf hw=>⟨_,_,hf.sub (kp [10,9,7,6,3,2,1] O),hw,jp,(hd.trans (he.trans nt)),trivial⟩)))))))))))))))))))))))))))
  have am:=Hi bz am
  obtain⟨nu,dw,am⟩:=bd am
  have nv:=qS am
  subst nv
  rcases Zd nu with b6|b6
  ·have ar:=Hj b6 ar
   have nw:=qS ar
   subst nw
   have nx:=qS G
   subst nx
   refine FG (AF 1 (AG EF O (AD (AF 1 (AT Bu C O (mt (mt (mt mh))) O HO O (AD (AF 1 ?_)))))))
   have et:=U.trans (W.trans (X.trans (ah.trans (af.trans (Y.trans ak)))))
   refine B1 O O (aw.mono' et) Fl cc O λvy ny=>AD (AF 1 (BF Bu C.1 O ny CH O λvz nz=>AD (E3 (cs:=[vI 80,vI 40]) GM O O O O O O O C λv0 v3 jq eu=>?_)))
   have jr:=jq.bxos (r:=AJ) (l:=([80,40]:List Int)) .head ⟨_,_,O,⟨O,(iq (n:=80) O)⟩,⟨_,_,O,⟨O,(iq (n:=40) O)⟩,O⟩⟩ (by simp [maxLen])
   obtain⟨v4,dx,ev,n0⟩:=jr.pubs .head
   refine CG O O O Ju O dx (B4 (St.all _) ((nz.mono' (eu.trans ev)).mono (λb g=>dx.1 b g) (λ_ _=>rfl)) (n0.mono (λb g=>dx.1 b g) (λ_ _=>rfl)) cd) λv5 v6 v7 ew hg v8 p=>?_
   obtain⟨rfl,o7⟩:=p
   refine Ha bz (AF 1 (AA O (AD (AF 1 (AB O (AG KO O (AD (AF 1 (AB O (AT Bu ew O (mt (mt (mt mh))) O CH O (AD (G8 O O O (E3 (cs:=[vI 20,vI 10]) GM O O O O O O O ew λv9 wa js hh=>G8 O O O ?_)))))))))))))
   have jt:=js.bxos (r:=AJ) (l:=([20,10]:List Int)) .head ⟨_,_,O,⟨O,(iq (n:=20) O)⟩,⟨_,_,O,⟨O,(iq (n:=10) O)⟩,O⟩⟩ (by simp [maxLen])
   obtain⟨wb,dy,hi,n1⟩:=jt.pubs .head
   refine CG O O O Ju O dy (B4 (St.all _) ((bs.mono' (et.trans (eu.trans (ev.trans (hg.trans (hh.trans hi)))))).mono (λb g=>dy.1 b g) (λ_ _=>rfl)) (n1.mono (λb g=>dy.1 b g) (λ_ _=>rfl)) dw) λwc wd we ju n2 wf p=>?_
   obtain⟨rfl,o8⟩:=p
   refine Ha b6 (AF 1 (AL O (AD (AF 1 (AA O (AD (AF 1 (BO O (AD (AF 1 (BO O (AD (AF 1 (BO O (AD (AF 1 (AL O (AD (AF 1 (AA O (AD (AF 1 (BO O (AD (AF 1 (BO O (AD (AF 1 (BO O ?_)))))))))))))))))))))))))))))
   exact AD (AF 1 (BO O (AD (AF 1 (AL O (AD (AF 1 (A0 O (AD (AZ (kp [10,9,7,6,3,2,1] O) (WF.nil (λaa ww hf hw=>⟨_,_,hf.sub (kp [10,9,7,6,3,2,1] O),hw,ju,(eu.trans (ev.trans (hg.trans (hh.trans (hi.trans n2))))),trivial⟩))))))))))))
  have ar:=Hi b6 ar
  have n3:=qS ar
  subst n3
  rcases Zd (decide (j.1.D=6)) with c4|c4
  ·have G:=Hj c4 G
   have n4:=qS G
   subst n4
   refine FG (AF 1 (AG EF O (AD (AF 1 (AT Bu C O (mt (mt (mt mh))) O HO O (AD (AF 1 ?_)))))))
   have ey:=U.trans (W.trans (X.trans (ah.trans (af.trans (Y.trans ak)))))
   refine B1 O O (aw.mono' ey) Fl cc O λwg n5=>AD (AF 1 (BF Bu C.1 O n5 CH O λwh n6=>AD (E3 (cs:=[vI 80,vI 40]) GM O O O O O O O C λwi wj jv ez=>?_)))
   have jw:=jv.bxos (r:=AJ) (l:=([80,40]:List Int)) .head ⟨_,_,O,⟨O,(iq (n:=80) O)⟩,⟨_,_,O,⟨O,(iq (n:=40) O)⟩,O⟩⟩ (by simp [maxLen])
   obtain⟨wk,dz,e0,n7⟩:=jw.pubs .head
   refine CG O O O Ju O dz (B4 (St.all _) ((n6.mono' (ez.trans e0)).mono (λb g=>dz.1 b g) (λ_ _=>rfl)) (n7.mono (λb g=>dz.1 b g) (λ_ _=>rfl)) cd) λwl wm wn e1 hj wo p=>?_
   obtain⟨rfl,o9⟩:=p
   refine Ha bz (AF 1 (AA O (AD (AF 1 (AB O (AG KO O (AD (AF 1 (AB O (AT Bu e1 O (mt (mt (mt mh))) O CH O (AD (G8 O O O (E3 (cs:=[vI 20,vI 10]) GM O O O O O O O e1 λwp wq jx hk=>G8 O O O ?_)))))))))))))
   have jy:=jx.bxos (r:=AJ) (l:=([20,10]:List Int)) .head ⟨_,_,O,⟨O,(iq (n:=20) O)⟩,⟨_,_,O,⟨O,(iq (n:=10) O)⟩,O⟩⟩ (by simp [maxLen])
   obtain⟨wr,d0,hl,n8⟩:=jy.pubs .head
   refine CG O O O Ju O d0 (B4 (St.all _) ((bs.mono' (ey.trans (ez.trans (e0.trans (hj.trans (hk.trans hl)))))).mono (λb g=>d0.1 b g) (λ_ _=>rfl)) (n8.mono (λb g=>d0.1 b g) (λ_ _=>rfl)) dw) λws wt wu e2 n9 wv p=>?_
   obtain⟨rfl,pa⟩:=p
   refine Ha b6 (AF 1 (AL O (AD (AF 1 (AA O (AD (AF 1 (AB O (AG Jc O (AD (AF 1 (AB O (AT Bu e2 O (mt (mt (mt mh))) O BA O (AD (AF 1 (AB O (B6 O (AD (Ha c4 (AF 1 (AL O (AD (AF 1 (AA O (AD (AF 1 (BO O (AD (AF 1 ?_)))))))))))))))))))))))))))))
   exact BO O (AD (AF 1 (BO O (AD (AF 1 (BO O (AD (AF 1 (AL O (AD (AF 1 (A0 O (AD (AZ (kp [10,9,7,6,3,2,1] O) (WF.nil (λaa ww hf hw=>⟨_,_,hf.sub (kp [10,9,7,6,3,2,1] O),hw,e2,(ez.trans (e0.trans (hj.trans (hk.trans (hl.trans n9))))),trivial⟩))))))))))))))))
  have G:=Hi c4 G
  obtain⟨wx,jz,G⟩:=bd G
  obtain⟨wy,j0,G⟩:=bd G
  have oa:=qS G
  subst oa
  refine FG (AF 1 (AG EF O (AD (AF 1 (AT Bu C O (mt (mt (mt mh))) O HO O (AD (AF 1 ?_)))))))
  have e3:=U.trans (W.trans (X.trans (ah.trans (af.trans (Y.trans ak)))))
  refine B1 O O (aw.mono' e3) Fl cc O λwz ob=>AD (AF 1 (BF Bu C.1 O ob CH O λw0 oc=>AD (E3 (cs:=[vI 80,vI 40]) GM O O O O O O O C λw1 w2 j1 e4=>?_)))
  have j2:=j1.bxos (r:=AJ) (l:=([80,40]:List Int)) .head ⟨_,_,O,⟨O,(iq (n:=80) O)⟩,⟨_,_,O,⟨O,(iq (n:=40) O)⟩,O⟩⟩ (by simp [maxLen])
  obtain⟨w3,d1,e6,od⟩:=j2.pubs .head
  refine CG O O O Ju O d1 (B4 (St.all _) ((oc.mono' (e4.trans e6)).mono (λb g=>d1.1 b g) (λ_ _=>rfl)) (od.mono (λb g=>d1.1 b g) (λ_ _=>rfl)) cd) λw4 w5 w6 e7 hm w7 p=>?_
  obtain⟨rfl,pb⟩:=p
  refine Ha bz (AF 1 (AA O (AD (AF 1 (AB O (AG KO O (AD (AF 1 (AB O (AT Bu e7 O (mt (mt (mt mh))) O CH O (AD (G8 O O O (E3 (cs:=[vI 20,vI 10]) GM O O O O O O O e7 λw8 w9 j3 hn=>G8 O O O ?_)))))))))))))
  have j4:=j3.bxos (r:=AJ) (l:=([20,10]:List Int)) .head ⟨_,_,O,⟨O,(iq (n:=20) O)⟩,⟨_,_,O,⟨O,(iq (n:=10) O)⟩,O⟩⟩ (by simp [maxLen])
  obtain⟨xa,d2,ho,oe⟩:=j4.pubs .head
  have au:=e3.trans (e4.trans (e6.trans (hm.trans (hn.trans ho))))
  refine CG O O O Ju O d2 (B4 (St.all _) ((bs.mono' au).mono (λb g=>d2.1 b g) (λ_ _=>rfl)) (oe.mono (λb g=>d2.1 b g) (λ_ _=>rfl)) dw) λxb xc xd ae b0 xe p=>?_
  obtain⟨rfl,pc⟩:=p
  refine Ha b6 (AF 1 (AL O (AD (AF 1 (AA O (AD (AF 1 (AB O (AG Jc O (AD (AF 1 (AB O (AT Bu ae O (mt (mt (mt mh))) O BA O (AD (AF 1 (AB O (B6 O (AD (Ha c4 (AF 1 (AL O (AD (AF 1 (AA O (AD (AF 1 (AB O (ES (vs:=[vI j.1.D,a4,a5,a6,a7,a8,a9]) Bu ae O (mt (mt (mt mh))) O O G6 O O (AD ?_)))))))))))))))))))))))))))))
  refine G8 O O O (CG O O O Za O ae (LY (St.all _) (DE.mk (x:=j.1) en ((aw.mono' (au.trans b0)).mono (λb g=>ae.1 b g) (λ_ _=>rfl)) ((d9.mono' (au.trans b0)).mono (λb g=>ae.1 b g) (λ_ _=>rfl)) ((ea.mono' (au.trans b0)).mono (λb g=>ae.1 b g) (λ_ _=>rfl)) ((eb.mono' (au.trans b0)).mono (λb g=>ae.1 b g) (λ_ _=>rfl)) ((ec.mono' (au.trans b0)).mono (λb g=>ae.1 b g) (λ_ _=>rfl)) ((bs.mono' (au.trans b0)).mono (λb g=>ae.1 b g) (λ_ _=>rfl))) jz) λxf xg xh pd og oh p=>?_)
  have j5:=p
  have e8:=ae.join oh j5 ⟨OS.flat (λ{_ _ _ _ _ _} k=>k),trivial⟩
  simp only[rW,rQ] at e8
  refine G8 O O O (E3 (cs:=[vI 80,vI 40]) GM O O O O O O O e8 λxi xj j6 oi=>G8 O O O ?_)
  have j7:=j6.bxos (r:=AJ) (l:=([80,40]:List Int)) .head ⟨_,_,O,⟨O,(iq (n:=80) O)⟩,⟨_,_,O,⟨O,(iq (n:=40) O)⟩,O⟩⟩ (by simp [maxLen])
  obtain⟨xk,d3,oj,ok⟩:=j7.pubs .head
  refine CG O O O Ju O d3 (B4 (St.all _) (d3.oslAll mh) (ok.mono (λb g=>d3.1 b g) (λ_ _=>rfl)) j0) λxl xm xn j8 ol xo p=>?_
  obtain⟨rfl,pe⟩:=p
  refine AF 1 (AL O (AD (AF 1 (A0 O (AD (AZ (kp [10,9,7,6,3,2,1] O) ?_))))))
  have j9:=j8.sel [1,1,1,1,1,1,1,1] 1 O
  exact WF.nil (λaa ww hf hw=>⟨_,_,hf.sub (kp [10,9,7,6,3,2,1] O),hw,j9,(e4.trans (e6.trans (hm.trans (hn.trans (ho.trans (b0.trans (og.trans (oi.trans (oj.trans ol))))))))),trivial⟩)
 rintro aa ww ⟨hp,hq,hf,hw,m,b1,_⟩
 refine A6 ?_ hf hw
 clear hf hw ww aa
 refine AE ?_
 obtain⟨xp,ce,E⟩:=bd E
 obtain⟨om,cf,E⟩:=bd E
 obtain⟨xq,I,E⟩:=bd E
 obtain⟨xr,y,E⟩:=bd E
 obtain⟨d4,s,E⟩:=bd E
 refine He (λa w=>IV B hp hq (176,[]) a w [(11,.bool d4),(10,.bool b5),(9,.bool ba),(3,vP b3 0),(2,vP ej 0),(1,vP b9 0)] (Bx cw 36 [vI z.1.D,cx,cy,cz,c0,c1,c2]::OS CJ 50 cv z.2.1::OS AJ 3 eo z.2.2::Bx b3 36 [vI j.1.D,a4,a5,a6,a7,a8,a9]::OS CJ 50 el j.2.1::OS AJ 3 em j.2.2::Bx ej 36 [vI ai.D,bl,bm,bn,bo,bp,bq]::Bx b9 31 [.string y1.H,bc,vI y1.T,be,bf,bg,bh,bi,bj,bk,vI y1.V]::L) λ_ _=>True) ?_ ?_
 ·rcases Zd (decide (om.Be=(-3))) with av|av
  ·have I:=Hj av I
   have ka:=qS I
   subst ka
   have kb:=qS y
   subst kb
   have kc:=qS s
   subst kc
   refine FG (AF 1 (AA O (AD (AF 1 (BX m (mt mh) O O I4 ce O λpf fp=>AD (AF 1 (H9 O fp Jx O λpg fq=>AD (AF 1 ?_))))))))
   have kd:=m.epAt (mt mh) cf Gy fq
   refine BC Bu (λ_ x=>x) O kd BA O λph=>AD (AF 1 (B6 O (AD (Ha av (AF 1 (AA O (AD (AF 1 (BO O (AD (AF 1 (BO O (AD (AF 1 (BO O (AD (AF 1 (BO O (AD (AF 1 (BO O (AD (AF 1 (BO O (AD (AF 1 (AL O (AD ?_))))))))))))))))))))))))))))
   refine AF 1 (AA O (AD (AF 1 (BO O (AD (AF 1 (BO O (AD (AF 1 (BO O (AD (AF 1 (BO O (AD (AF 1 (BO O (AD (AF 1 (BO O (AD (AF 1 (AL O (AD (AF 1 (AA O (AD (AF 1 (BO O (AD ?_)))))))))))))))))))))))))))))
   exact AF 1 (BO O (AD (AF 1 (BO O (AD (AF 1 (BO O (AD (AF 1 (BO O (AD (AF 1 (BO O (AD (AF 1 (AL O (AD (AF 1 (A0 O (AD (AZ (kp [11,10,9,3,2,1] O) (WF.nil (λaa ww hf hw=>⟨_,_,hf.sub (kp [11,10,9,3,2,1] O),hw,m,(C9.refl hp hq),trivial⟩)))))))))))))))))))))))
  have I:=Hi av I
  obtain⟨pi,cg,I⟩:=bd I
  obtain⟨pj,ch,I⟩:=bd I
  obtain⟨ke,ci,I⟩:=bd I
  have kf:=qS I
  subst kf
  rcases Zd ke with ay|ay
  ·have y:=Hj ay y
   have kg:=qS y
   subst kg
   have kh:=qS s
   subst kh
   refine FG (AF 1 (AA O (AD (AF 1 (BX m (mt mh) O O I4 ce O λpk fr=>AD (AF 1 (H9 O fr Jx O λpl fs=>AD (AF 1 ?_))))))))
   have ki:=m.epAt (mt mh) cf Gy fs
   refine BC Bu (λ_ x=>x) O ki BA O λpm=>AD (AF 1 (B6 O (AD (Ha av (AF 1 (AA O (AD (AF 1 (AB O (AA O (AD (AF 1 (AB O (BX m (mt mh) O O I4 cg O λpn ft=>AD (AF 1 (AB O (H9 O ft KN O λpo fu=>AD (AF 1 (AB O ?_)))))))))))))))))))
   have kj:=m.epAt (mt mh) ch BB.f_Part fu
   refine BF Bu (λ_ x=>x) O kj CH O λpp kk=>AD (G8 O O O (E3 (cs:=[vI 0,vI 50]) GM O O O O O O O m λpq pr fv e9=>G8 O O O ?_))
   have fw:=fv.bxos (r:=AJ) (l:=([0,50]:List Int)) .head ⟨_,_,O,⟨O,(iq (n:=0) O)⟩,⟨_,_,O,⟨O,(iq (n:=50) O)⟩,O⟩⟩ (by simp [maxLen])
   obtain⟨ps,cj,fa,kl⟩:=fw.pubs .head
   refine CG O O O Ju O cj (B4 (St.all _) ((kk.mono' (e9.trans fa)).mono (λb g=>cj.1 b g) (λ_ _=>rfl)) (kl.mono (λb g=>cj.1 b g) (λ_ _=>rfl)) ci) λpu pv pw fx km px p=>?_
   obtain⟨rfl,oo⟩:=p
   refine Ha ay (AF 1 (AL O (AD (AF 1 (AA O (AD (AF 1 (BO O (AD (AF 1 (BO O (AD (AF 1 (BO O (AD (AF 1 (BO O (AD (AF 1 (BO O (AD (AF 1 (BO O (AD (AF 1 (AL O (AD (AF 1 (AA O ?_)))))))))))))))))))))))))))))
   exact AD (AF 1 (BO O (AD (AF 1 (BO O (AD (AF 1 (BO O (AD (AF 1 (BO O (AD (AF 1 (BO O (AD (AF 1 (BO O (AD (AF 1 (AL O (AD (AF 1 (A0 O (AD (AZ (kp [11,10,9,3,2,1] O) (WF.nil (λaa ww hf hw=>⟨_,_,hf.sub (kp [11,10,9,3,2,1] O),hw,fx,(e9.trans (fa.trans km)),trivial⟩)))))))))))))))))))))))))))
  have y:=Hi ay y
  obtain⟨py,ed,y⟩:=bd y
  obtain⟨pz,ee,y⟩:=bd y
  obtain⟨kn,ef,y⟩:=bd y
  have ko:=qS y
  subst ko
  rcases Zd kn with b2|b2
  ·have s:=Hj b2 s
   have kq:=qS s
   subst kq
   refine FG (AF 1 (AA O (AD (AF 1 (BX m (mt mh) O O I4 ce O λp0 fy=>AD (AF 1 (H9 O fy Jx O λp1 fz=>AD (AF 1 ?_))))))))
   have kr:=m.epAt (mt mh) cf Gy fz
   refine BC Bu (λ_ x=>x) O kr BA O λp2=>AD (AF 1 (B6 O (AD (Ha av (AF 1 (AA O (AD (AF 1 (AB O (AA O (AD (AF 1 (AB O (BX m (mt mh) O O I4 cg O λp3 f0=>AD (AF 1 (AB O (H9 O f0 KN O λp4 f1=>AD (AF 1 (AB O ?_)))))))))))))))))))
   have ks:=m.epAt (mt mh) ch BB.f_Part f1
   refine BF Bu (λ_ x=>x) O ks CH O λp5 kt=>AD (G8 O O O (E3 (cs:=[vI 0,vI 50]) GM O O O O O O O m λp6 p7 f2 fb=>G8 O O O ?_))
   have f3:=f2.bxos (r:=AJ) (l:=([0,50]:List Int)) .head ⟨_,_,O,⟨O,(iq (n:=0) O)⟩,⟨_,_,O,⟨O,(iq (n:=50) O)⟩,O⟩⟩ (by simp [maxLen])
   obtain⟨p8,ck,fc,ku⟩:=f3.pubs .head
   refine CG O O O Ju O ck (B4 (St.all _) ((kt.mono' (fb.trans fc)).mono (λb g=>ck.1 b g) (λ_ _=>rfl)) (ku.mono (λb g=>ck.1 b g) (λ_ _=>rfl)) ci) λp9 qa qb cl kv qc p=>?_
   obtain⟨rfl,op⟩:=p
   refine Ha ay (AF 1 (AL O (AD (AF 1 (AA O (AD (AF 1 (AB O (AA O (AD (AF 1 (AB O (BX cl (mt mh) O O I4 ed O λqd f4=>AD (AF 1 (AB O (H9 O f4 KN O λqe f5=>AD (AF 1 (AB O ?_))))))))))))))))))
   have kw:=cl.epAt (mt mh) ee BB.f_Part f5
   refine BF Bu (λ_ x=>x) O kw CH O λqf kx=>AD (G8 O O O (E3 (cs:=[vI 15,vI 0]) GM O O O O O O O cl λqg qh f6 fd=>G8 O O O ?_))
   have f7:=f6.bxos (r:=AJ) (l:=([15,0]:List Int)) .head ⟨_,_,O,⟨O,(iq (n:=15) O)⟩,⟨_,_,O,⟨O,(iq (n:=0) O)⟩,O⟩⟩ (by simp [maxLen])
   obtain⟨qi,cm,fe,ky⟩:=f7.pubs .head
   refine CG O O O Ju O cm (B4 (St.all _) ((kx.mono' (fd.trans fe)).mono (λb g=>cm.1 b g) (λ_ _=>rfl)) (ky.mono (λb g=>cm.1 b g) (λ_ _=>rfl)) ef) λqj qk ql f8 kz qm p=>?_
   obtain⟨rfl,oq⟩:=p
   refine Ha b2 (AF 1 (AL O (AD (AF 1 (AA O (AD (AF 1 (BO O (AD (AF 1 (BO O (AD (AF 1 (BO O (AD (AF 1 (BO O (AD (AF 1 (BO O (AD (AF 1 (BO O (AD (AF 1 (AL O (AD (AF 1 (A0 O ?_)))))))))))))))))))))))))))))
   exact AD (AZ (kp [11,10,9,3,2,1] O) (WF.nil (λaa ww hf hw=>⟨_,_,hf.sub (kp [11,10,9,3,2,1] O),hw,f8,(fb.trans (fc.trans (kv.trans (fd.trans (fe.trans kz))))),trivial⟩)))
  have s:=Hi b2 s
  obtain⟨qn,f9,s⟩:=bd s
  obtain⟨qo,ga,s⟩:=bd s
  have k0:=qS s
  subst k0
  refine FG (AF 1 (AA O (AD (AF 1 (BX m (mt mh) O O I4 ce O λqp gb=>AD (AF 1 (H9 O gb Jx O λqq gc=>AD (AF 1 ?_))))))))
  have k1:=m.epAt (mt mh) cf Gy gc
  refine BC Bu (λ_ x=>x) O k1 BA O λqr=>AD (AF 1 (B6 O (AD (Ha av (AF 1 (AA O (AD (AF 1 (AB O (AA O (AD (AF 1 (AB O (BX m (mt mh) O O I4 cg O λqs gd=>AD (AF 1 (AB O (H9 O gd KN O λqt ge=>AD (AF 1 (AB O ?_)))))))))))))))))))
  have k2:=m.epAt (mt mh) ch BB.f_Part ge
  refine BF Bu (λ_ x=>x) O k2 CH O λqu k3=>AD (G8 O O O (E3 (cs:=[vI 0,vI 50]) GM O O O O O O O m λqv qw gf d5=>G8 O O O ?_))
  have gg:=gf.bxos (r:=AJ) (l:=([0,50]:List Int)) .head ⟨_,_,O,⟨O,(iq (n:=0) O)⟩,⟨_,_,O,⟨O,(iq (n:=50) O)⟩,O⟩⟩ (by simp [maxLen])
  obtain⟨qx,cn,d6,k4⟩:=gg.pubs .head
  refine CG O O O Ju O cn (B4 (St.all _) ((k3.mono' (d5.trans d6)).mono (λb g=>cn.1 b g) (λ_ _=>rfl)) (k4.mono (λb g=>cn.1 b g) (λ_ _=>rfl)) ci) λqy q0 q1 co ff q2 p=>?_
  obtain⟨rfl,os⟩:=p
  refine Ha ay (AF 1 (AL O (AD (AF 1 (AA O (AD (AF 1 (AB O (AA O (AD (AF 1 (AB O (BX co (mt mh) O O I4 ed O λq3 gh=>AD (AF 1 (AB O (H9 O gh KN O λq4 gi=>AD (AF 1 (AB O ?_))))))))))))))))))
  have k5:=co.epAt (mt mh) ee BB.f_Part gi
  refine BF Bu (λ_ x=>x) O k5 CH O λq5 k6=>AD (G8 O O O (E3 (cs:=[vI 15,vI 0]) GM O O O O O O O co λq6 q7 gj d7=>G8 O O O ?_))
  have gl:=gj.bxos (r:=AJ) (l:=([15,0]:List Int)) .head ⟨_,_,O,⟨O,(iq (n:=15) O)⟩,⟨_,_,O,⟨O,(iq (n:=0) O)⟩,O⟩⟩ (by simp [maxLen])
  obtain⟨q8,cp,d8,k8⟩:=gl.pubs .head
  refine CG O O O Ju O cp (B4 (St.all _) ((k6.mono' (d7.trans d8)).mono (λb g=>cp.1 b g) (λ_ _=>rfl)) (k8.mono (λb g=>cp.1 b g) (λ_ _=>rfl)) ef) λq9 ra rd cq fg re p=>?_
  obtain⟨rfl,ot⟩:=p
  refine Ha b2 (AF 1 (AL O (AD (AF 1 (AA O (AD (AF 1 (AB O (AG EF O (AD (AF 1 (AB O (AT Bu cq O mh O HO O (AD (AF 1 (AB O (B1 O O (ep.mono' (Y.trans (ak.trans (b1.trans (d5.trans (d6.trans (ff.trans (d7.trans (d8.trans fg))))))))) Fl f9 O λrf k9=>AD (AF 1 (AB O (BF Bu cq.1 O k9 CH O λrg la=>AD (G8 O O O (E3 (cs:=[vI 85,vI 0]) GM O O O O O O O cq λrh ri gm fh=>G8 O O O ?_))))))))))))))))))))))
  have gn:=gm.bxos (r:=AJ) (l:=([85,0]:List Int)) .head ⟨_,_,O,⟨O,(iq (n:=85) O)⟩,⟨_,_,O,⟨O,(iq (n:=0) O)⟩,O⟩⟩ (by simp [maxLen])
  obtain⟨rj,cr,fi,lb⟩:=gn.pubs .head
  refine CG O O O Ju O cr (B4 (St.all _) ((la.mono' (fh.trans fi)).mono (λb g=>cr.1 b g) (λ_ _=>rfl)) (lb.mono (λb g=>cr.1 b g) (λ_ _=>rfl)) ga) λrk rm rn gp lc ro p=>?_
  obtain⟨rfl,ou⟩:=p
  exact AF 1 (AL O (AD (AF 1 (A0 O (AD (AZ (kp [11,10,9,3,2,1] O) (WF.nil (λaa ww hf hw=>⟨_,_,hf.sub (kp [11,10,9,3,2,1] O),hw,gp,(d5.trans (d6.trans (ff.trans (d7.trans (d8.trans (fg.trans (fh.trans (fi.trans lc)))))))),trivial⟩))))))))
 rintro aa ww ⟨rp,rq,hf,hw,c,az,_⟩
 refine A6 ?_ hf hw
 clear hf hw ww aa
 refine AE (Cn (.inl O) c (AA O (AA O (AW 2 156 (.bool (ba&&b5)) ?_ ?_))))
 ·cases rr:ba
  ·exact A4 O O
  exact AB O (AA O (AL O (AV O)))
 refine AA O (AW 2 159 (.bool ((ba&&b5)&&d4)) ?_ ?_)
 ·cases rs:(ba&&b5)
  ·exact A4 O O
  exact AB O (AA O (AL O (AV O)))
 refine AA O ?_
 obtain⟨fj,Z,E⟩:=bd E
 refine AW 4 164 (.bool fj) ?_ ?_
 ·cases fk:((ba&&b5)&&d4)
  ·have Z:=Hj fk Z
   cases Z
   exact A4 O O
  have Z:=Hi fk Z
  refine AB O (ES (vs:=[vI ai.D,bl,bm,bn,bo,bp,bq]) CQ c O (mt (mt (mt (mt (mt (mt mh)))))) O O G6 O O (AB O (ES (vs:=[vI ai.D,bl,bm,bn,bo,bp,bq]) CQ c O (mt (mt (mt (mt (mt (mt mh)))))) O O G6 O O (AB O ?_))))
  have t:=J.trans (Q.trans (br.trans (a3.trans (U.trans (W.trans (X.trans (ah.trans (af.trans (Y.trans (ak.trans (b1.trans az)))))))))))
  obtain⟨rt,gq,Z⟩:=bd Z
  refine BU O O O dY O (λh' o=>N9 (St.all h') (DE.mk (x:=ai) ek ((cu.mono' t).mono' (o.all c.1)) ((de.mono' t).mono' (o.all c.1)) ((df.mono' t).mono' (o.all c.1)) ((dg.mono' t).mono' (o.all c.1)) ((dh.mono' t).mono' (o.all c.1)) ((di.mono' t).mono' (o.all c.1))) (DE.mk (x:=ai) ek ((cu.mono' t).mono' (o.all c.1)) ((de.mono' t).mono' (o.all c.1)) ((df.mono' t).mono' (o.all c.1)) ((dg.mono' t).mono' (o.all c.1)) ((dh.mono' t).mono' (o.all c.1)) ((di.mono' t).mono' (o.all c.1))) gq) (AL O ?_)
  cases Z
  exact AV O
 refine AA O ?_
 obtain⟨fl,ab,E⟩:=bd E
 refine AW 5 170 (.bool fl) ?_ ?_
 ·cases fm:fj
  ·have ab:=Hj fm ab
   cases ab
   exact A4 O O
  have ab:=Hi fm ab
  refine AB O (ES (vs:=[vI ai.D,bl,bm,bn,bo,bp,bq]) CQ c O (mt (mt (mt (mt (mt (mt mh)))))) O O G6 O O (AB O (ES (vs:=[vI j.1.D,a4,a5,a6,a7,a8,a9]) CQ c O (mt (mt (mt mh))) O O G6 O O (AB O ?_))))
  have an:=J.trans (Q.trans (br.trans (a3.trans (U.trans (W.trans (X.trans (ah.trans (af.trans (Y.trans (ak.trans (b1.trans az)))))))))))
  have ao:=U.trans (W.trans (X.trans (ah.trans (af.trans (Y.trans (ak.trans (b1.trans az)))))))
  obtain⟨ru,gr,ab⟩:=bd ab
  refine BU O O O dY O (λh' o=>N9 (St.all h') (DE.mk (x:=ai) ek ((cu.mono' an).mono' (o.all c.1)) ((de.mono' an).mono' (o.all c.1)) ((df.mono' an).mono' (o.all c.1)) ((dg.mono' an).mono' (o.all c.1)) ((dh.mono' an).mono' (o.all c.1)) ((di.mono' an).mono' (o.all c.1))) (DE.mk (x:=j.1) en ((aw.mono' ao).mono' (o.all c.1)) ((d9.mono' ao).mono' (o.all c.1)) ((ea.mono' ao).mono' (o.all c.1)) ((eb.mono' ao).mono' (o.all c.1)) ((ec.mono' ao).mono' (o.all c.1)) ((bs.mono' ao).mono' (o.all c.1))) gr) (AB O (CI O (AL O ?_)))
  cases ab
  exact AV O
 refine AA O ?_
 obtain⟨ld,ac,E⟩:=bd E
 refine AW 4 175 (.bool ld) ?_ ?_
 ·cases fn:fl
  ·have ac:=Hj fn ac
   cases ac
   exact A4 O O
  have ac:=Hi fn ac
  refine AB O (ES (vs:=[.string y1.H,bc,vI y1.T,be,bf,bg,bh,bi,bj,bk,vI y1.V]) CQ c O (mt (mt (mt (mt (mt (mt (mt mh))))))) O O H2 O O (AB O (ES (vs:=[vI j.1.D,a4,a5,a6,a7,a8,a9]) CQ c O (mt (mt (mt mh))) O O G6 O O (AB O ?_))))
  have ad:=aq.trans (dd.trans (ct.trans (J.trans (Q.trans (br.trans (a3.trans (U.trans (W.trans (X.trans (ah.trans (af.trans (Y.trans (ak.trans (b1.trans az))))))))))))))
  have ap:=U.trans (W.trans (X.trans (ah.trans (af.trans (Y.trans (ak.trans (b1.trans az)))))))
  obtain⟨rv,gs,ac⟩:=bd ac
  refine BU O O O Wj O (λh' o=>KG (St.all h') (C2.mk (x:=y1) eg ((c5.mono' ad).mono' (o.all c.1)) eh ((c6.mono' ad).mono' (o.all c.1)) ((c7.mono' ad).mono' (o.all c.1)) ((c8.mono' ad).mono' (o.all c.1)) ((c9.mono' ad).mono' (o.all c.1)) ((da.mono' ad).mono' (o.all c.1)) ((db.mono' ad).mono' (o.all c.1)) ((dc.mono' ad).mono' (o.all c.1)) ei) (DE.mk (x:=j.1) en ((aw.mono' ap).mono' (o.all c.1)) ((d9.mono' ap).mono' (o.all c.1)) ((ea.mono' ap).mono' (o.all c.1)) ((eb.mono' ap).mono' (o.all c.1)) ((ec.mono' ap).mono' (o.all c.1)) ((bs.mono' ap).mono' (o.all c.1))) gs) (AL O ?_)
  cases ac
  exact AV O
 refine A0 O (B9 (kp [0] O) λrx gu le=>A5 (λaa ww hf hw=>?_))
 have gv:=gu.sel [] 8 O
 cases E
 exact Em hf hw O O (e5.trans (fo.trans (aq.trans (dd.trans (ct.trans (J.trans (Q.trans (br.trans (a3.trans (U.trans (W.trans (X.trans (ah.trans (af.trans (Y.trans (ak.trans (b1.trans (az.trans le)))))))))))))))))) ⟨O,gv⟩
end Go.Proofs.YtblcgjadhemlbaaGreat
