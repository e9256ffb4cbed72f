import Derived.Test.YtblcgjadhemlbaaGreatVWalk13
namespace Go.Proofs.YtblcgjadhemlbaaGreat
set_option linter.all false
open Go.RowKit
open Go.Proofs.Tryz
set_option maxRecDepth 10000
set_option maxHeartbeats 2000000
variable {N:Nat}{S:Nat→Prop}{L:List HP}{h:BL}
def Bw (G:St S L h) {b:Value}{o:(List Int)}(d:Sl S h AJ b o) {c:Value}{p:(List Int)}(k:Sl S h AJ c p) {r:Bool}(E:DW N o p=some r):
 C5 prog 18 #[b,c] S h (λv S' h'=>v= .bool r∧St S' (L) h'):=by
 refine Bv (l:=[b,c]) 26 func18 O ntmps18 O λB=>?_
 rw[DW] at E
 refine AI (AM O (kp [0,1] O) (AE (AI (AA O (BC O d CA O λZ=>AA O (BC O k CA O λb2=>CW O (AN (kp [10,0,1] O) (AX O E (λI E=>?_) (λI E=>?_)))))))))
 ·refine AI (AM O (kp [4] O) (A5 (λq s g i=>?_)))
  cases E
  exact Ee g i O O (Cv.refl S h) ⟨O,G⟩
 refine AT (AE (AI (AM O (kp [5,0,1] O) (BF (λa w=>IV B S h (26,[]) a w [] (L) λ_ _=>Hn N=some r) ?_ ?_))))
 ·refine BT (λH=>λa w=>∃(t:Int),IV B S h (26,[]) a w [(0,b),(1,c),(5,vI t)] (L) λ_ _=>AH t∧Gg N o p (Hn N) H t=some r) N ?_ ?_ ?_
  ·intro q s g i
   exact⟨0,_,_,g.sub (kp [0,1,5] O),i,G,(Cv.refl S h),(iq (n:=0) O),E⟩
  ·rintro q s ⟨_,_,_,_,_,_,_,_,E⟩
   rw[Gg] at E;cases E
  rintro H q s ⟨t,S8,h9,g,i,j,m,r7,E⟩
  refine A6 ?_ g i
  clear g i s q
  rw[Gg] at E
  refine AE (AI (AA O (AA O (BC O (d.mono' m) CA O λJ=>BK O (AN (kp [14,0,1,5] O) (AX O E (λz E=>?_) (λz E=>?_)))))))
  ·refine AT (AE (BV (AE (CN (.inr ⟨mo,by kernel_rfl⟩) (AA O (AA O ?_))))))
   obtain⟨K,u,E⟩:=bd E
   refine Bz O O (d.mono' m) CA u O λM A=>A9 BY j.1 O A A7 O λQ=>AA O (AA O ?_)
   obtain⟨U,x,E⟩:=bd E
   refine Bz O O (k.mono' m) CA x O λV C=>A9 BY j.1 O C A7 O λW=>CW O (AN (kp [25,0,1,5] O) (AX O E (λD E=>?_) (λD E=>?_)))
   ·refine AI (AM O (kp [4] O) (A5 (λq s g i=>?_)))
    cases E
    exact Ee g i O O m ⟨O,j⟩
   refine AT (B5 (CN (.inl O) (AA O (BB O (AM O (kp [5,0,1] O) (WF.nil (λq s g i=>?_)))))))
   exact⟨(B0 (t+1)),_,_,g.sub (kp [0,1,5] O),i,j,m,(B1 _),E⟩
  refine By O (λq s g i=>?_)
  exact⟨_,_,g.sub PO,i,j,m,E⟩
 rintro q s ⟨X,Y,g,i,y,F,E⟩
 refine A6 ?_ g i
 clear g i s q
 rw[Hn] at E
 refine AI (AM O (kp [4] O) (A5 (λq s g i=>?_)))
 cases E
 exact Ee g i O O F ⟨O,y⟩
def Lr {g:Nat}{c1_:(List Int)}{c:Value}(U:St S (Bx g 29 [c]::OS AJ 3 c c1_::L) h) {b:Value}{d:(List Int)}(k:Sl S h AJ b d) {r:(List Int)}(E:Jw N c1_ d=some r):
 C5 prog 35 #[b,vP g 0] S h (λv S' h'=>∃m:Value,v= .tuple #[]∧St S' (Bx g 29 [m]::OS AJ 3 m r::L) h'):=by
 refine Bv (l:=[b,vP g 0]) 25 func35 O ntmps35 O λB=>?_
 rw[Jw] at E
 refine AI (AS BY U O mh O CG O (MO U (mt mh) O CA O λb1=>AA O (BC O k CA O λb2=>Sh O O O (AA O (AN (kp [9,8,0,1] O) (BV (BT (λn0=>λa w=>∃(s:Int) (u:List Int),IV B S h (25,[]) a w [(8,vI (min (↑c1_.length:Int) (↑d.length:Int))),(0,b),(1,vP g 0),(9,vI s)] (Bx g 29 [c]::OS AJ 3 c u::L) λ_ _=>AH s∧H4 N d c1_ n0 s u=some r) N ?_ ?_ ?_)))))))
 ·intro y z p q
  exact⟨0,c1_,_,_,p.sub (kp [8,0,1,9] O),q,U,(Cv.refl S h),(iq (n:=0) O),E⟩
 ·rintro y z ⟨_,_,_,_,_,_,_,_,_,E⟩
  rw[H4] at E;cases E
 rintro n0 y z ⟨s,u,S9,ag,p,q,j,t,r7,E⟩
 refine A6 ?_ p q
 clear p q z y
 rw[H4] at E
 refine AI (BK O (AN (kp [10,8,0,1,9] O) (AE (AX O E (λV E=>?_) (λV E=>?_)))))
 ·refine AT (AE (BV (AI (AA O (AM O (kp [3,8,0,1,9] O) (Lk 12 mo (by kernel_rfl) O j (AS CL j O mh O CG O (AA O (AS CL j O mh O CG O (AA O ?_))))))))))
  obtain⟨ah,A,E⟩:=bd E
  refine BU j (mt mh) O O CA A O λai C=>?_
  obtain⟨aj,D,E⟩:=bd E
  have W:=j.epAt (mt mh) D GM.id C
  refine A9 CL (λ_ x=>x) O W A7 O λX=>AA O (AA O ?_)
  obtain⟨ak,F,E⟩:=bd E
  refine Bz O O (k.mono' t) CA F O λal Y=>A9 CL j.1 O Y A7 O λZ=>?_
  obtain⟨G,H,E⟩:=bd E
  refine DF O O O Rb O (λh' o=>Iy (St.all h') X Z H) λab=>?_
  have ac:=ab
  obtain⟨am,I,E⟩:=bd E
  refine BU j (mt mh) O O CA I O λan J=>KT λao K ad=>?_
  obtain⟨ae,M,E⟩:=bd E
  refine Fm (r:=AJ) (l:=u) (i:=s) (x:=ae) O O (⟨_,O,O,ac⟩:Rd _ _ AJ _ G) J M ML.id A7 (λ_=>rfl) K (.tail .head) λap Q af=>AZ (kp [8,0,1,9] O) (B5 (CN (.inl O) (BB O (AA O (AN (kp [9,8,0,1] O) (WF.nil (λy z p q=>?_)))))))
  exact⟨(B0 (s+1)),(upd u s G),_,_,p.sub (kp [8,0,1,9] O),q,Q,(t.trans (ad.trans af)),(B1 _),E⟩
 refine LN O (WF.nil (λy z p q=>?_))
 cases E
 exact Kn p O q Km O t ⟨_,O,j⟩
def Px (hs:St S L h) {i:Value}{b:BD}(C:Rd S h C3 i b) {r:(List Int)}(E:MH N b=some r):
 C5 prog 12 #[i] S h (λv S' h'=>St S' (OS AJ 3 v r::L) h'):=by
 refine Bv (l:=[i]) 38 func12 O ntmps12 O λB=>?_
 rw[MH] at E
 refine WF.sl (Cm O C (λe=>by cases e) O hs λq1 S2 h3 ao e5 k6=>AF 1 (AY O (AG (AZ (kp [1] O) (WF.sl (AF 3 (A8 O k6 Kj K3 O λq7 k8=>BG BY ao.1 O k8 CG O λv9 be=>BC O be CA O λb1=>AG ?_)))))))
 obtain⟨ap,E⟩:=Mc E
 refine Jk (r:=AJ) (zx:=0) GK O ⟨O,by unfold AH;omega⟩ O O ap O O ao λb2 b3 aq ar=>Di WU O aq λg b4 Q au=>?_
 obtain⟨U,m,rfl,b5⟩:=Q.oslen (mt mh)
 refine EW (vs:=[(.slice U (List.replicate ((↑b.O.length:Int):Int).toNat (0:Int)).length m)]) O O O O CG O Q .head O λab V av=>AZ (kp [3,1] O) (AI (Oz O O O (AM O (kp [4,3,1] O) (AE (AI ?_)))))
 have aw:=k6.mono (ar.trans (au.trans av))
 refine A8 O aw J5 Eo O λb6 bf=>BG BY V.1 O bf Hz O λbg ax=>BC O ax Fx O λb7=>AA O (AN (kp [17,16,15,4,3,1] O) (BF (λa w=>∃(F:Value) (H:List Int),IV B S2 ab (38,[]) a w [(4,.func (.func 35) #[] #[vP g 0]),(3,vP g 0),(1,q1)] (OS AJ 3 F H::Bx g 29 [F]::L) λ_ _=>Jc N b H=some r) ?_ ?_))
 ·refine BT (λn1=>λa w=>∃(o:Int) (I:Value) (s:List Int),IV B S2 ab (38,[]) a w [(16,vI (↑b.G.length:Int)),(15,bg),(4,.func (.func 35) #[] #[vP g 0]),(3,vP g 0),(1,q1),(17,vI o)] (OS AJ 3 I s::Bx g 29 [I]::L) λ_ _=>AH o∧Ir N b (Jc N b) n1 o s=some r) N ?_ ?_ ?_
  ·intro j k c d
   have ay:=V.sel [1,0] 0 O
   exact⟨0,(.slice U (List.replicate ((↑b.O.length:Int):Int).toNat (0:Int)).length m),(List.replicate ((↑b.O.length:Int):Int).toNat (0:Int)),_,_,c.sub (kp [16,15,4,3,1,17] O),d,ay,(Cv.refl S2 ab),(iq (n:=0) O),E⟩
  ·rintro j k ⟨_,_,_,_,_,_,_,_,_,_,E⟩
   rw[Ir] at E;cases E
  rintro n1 j k ⟨o,I,s,b8,b9,c,d,t,ac,ca,E⟩
  refine A6 ?_ c d
  clear c d k j
  rw[Ir] at E
  refine AI (BK O (AN (kp [18,16,15,4,3,1,17] O) (AE (AX O E (λbh E=>?_) (λbh E=>?_)))))
  ·refine AT (AE (BV (AI ?_)))
   obtain⟨cb,az,E⟩:=bd E
   refine Bz O O (ax.mono' ac) Fx az O λcc bi=>BG BY t.1 O bi CG O λcd bj=>AM O (kp [6,16,15,4,3,1,17] O) (FO (AF 2 (AA O (AA O (AG ?_)))))
   have a0:=t.sel [1,0] 0 O
   obtain⟨bk,a1,E⟩:=bd E
   refine DU O O O aT O (Lr (c1_:=s) a0 bj a1) λce cf cg bl p=>?_
   obtain⟨bm,rfl,a2⟩:=p
   refine AZ (kp [16,15,4,3,1,17] O) (B5 (CN (.inl O) (BB O (AA O (AN (kp [17,16,15,4,3,1] O) (WF.nil (λj k c d=>?_)))))))
   have a3:=a2.sel [1,0] 0 O
   exact⟨(B0 (o+1)),bm,bk,_,_,c.sub (kp [16,15,4,3,1,17] O),d,a3,(ac.trans bl),(B1 _),E⟩
  refine By O (λj k c d=>?_)
  exact⟨I,s,_,_,c.sub (kp [4,3,1] O),d,t,ac,E⟩
 rintro j k ⟨F,H,ad,ae,c,d,W,a4,E⟩
 refine A6 ?_ c d
 clear c d k j
 rw[Jc] at E
 refine AE (AI (A8 O (aw.mono a4) JG KO O λch bn=>BG BY W.1 O bn Lp O λbo a5=>BC O a5 KA O λci=>AA O (AN (kp [28,27,26,4,3] O) (BF (λa w=>∃(af:Value) (ag:List Int),IV B ad ae (38,[]) a w [(3,vP g 0)] (OS AJ 3 af ag::Bx g 29 [af]::L) λ_ _=>Jb N ag=some r) ?_ ?_))))
 ·refine BT (λn3=>λa w=>∃(u:Int) (K:Value) (x:List Int),IV B ad ae (38,[]) a w [(27,vI (↑b.J.length:Int)),(26,bo),(4,.func (.func 35) #[] #[vP g 0]),(3,vP g 0),(28,vI u)] (OS AJ 3 K x::Bx g 29 [K]::L) λ_ _=>AH u∧Iq N b (Jb N) n3 u x=some r) N ?_ ?_ ?_
  ·intro j k c d
   exact⟨0,F,H,_,_,c.sub (kp [27,26,4,3,28] O),d,W,(Cv.refl ad ae),(iq (n:=0) O),E⟩
  ·rintro j k ⟨_,_,_,_,_,_,_,_,_,_,E⟩
   rw[Iq] at E;cases E
  rintro n3 j k ⟨u,K,x,cj,ck,c,d,y,ah,cl,E⟩
  refine A6 ?_ c d
  clear c d k j
  rw[Iq] at E
  refine AI (BK O (AN (kp [29,27,26,4,3,28] O) (AE (AX O E (λbp E=>?_) (λbp E=>?_)))))
  ·refine AT (AE (BV (WF.sl (AF 2 ?_))))
   obtain⟨M,a6,E⟩:=bd E
   refine Bz O O (a5.mono' ah) KA a6 O λcm bq=>Ci BY y.1 O bq LU (λe=>by cases e) O λcn br=>AG (Di Q4 O y λco cp a7 a8=>?_)
   obtain⟨X,rfl,bs,bt,Y⟩:=BI.ex (br.mono a8)
   refine IA (vs:=[vI M.Ad,vI M.D,X]) (cs':=[vI M.Ad,vI M.D,X]) O O O (AC O (AC O (AC Y.one FA))) LU O a7 .head O O λbu z Z=>AZ (kp [8,27,26,4,3,28] O) (FO (AF 3 (AA O (AD LZ O (AS BY z O mh O CG O (AG ?_))))))
   have ai:=z.sel [2,1,0] 0 O
   obtain⟨a9,aj,E⟩:=bd E
   refine DU O O O aT O (Lr (c1_:=x) ai (Y.mono' Z) aj) λbv bw bx ba p=>?_
   obtain⟨bb,rfl,ak⟩:=p
   refine AZ (kp [27,26,4,3,28] O) (B5 (CN (.inl O) (BB O (AA O (AN (kp [28,27,26,4,3] O) (WF.nil (λj k c d=>?_)))))))
   have am:=ak.sel [1,0] 1 O
   exact⟨(B0 (u+1)),bb,a9,_,_,c.sub (kp [27,26,4,3,28] O),d,am,(ah.trans (a8.trans (Z.trans ba))),(B1 _),E⟩
  refine By O (λj k c d=>?_)
  exact⟨K,x,_,_,c.sub (kp [3] O),d,y,ah,E⟩
 rintro j k ⟨af,ag,bz,b0,c,d,A,bc,E⟩
 refine A6 ?_ c d
 clear c d k j
 rw[Jb] at E
 refine AI (AS BY A O (mt mh) O CG O (AM O (kp [2] O) (A5 (λj k c d=>?_))))
 have an:=A.drop (.tail .head)
 cases E
 exact Ee c d O O (e5.trans (ar.trans (au.trans (av.trans (a4.trans bc))))) an
def JN (hs:St S L h) {c:Value}{k:(List (List Int))}(i:Sl S h (BW.sl AJ) c k) {d:Value}{t:(List (List Int))}(m:Sl S h (BW.sl AJ) d t) {j:Value}{u:(((List Int)×(List Int))→Option Bool)}(z:Rd S h (BW.fnr prog (λS h vs (x:((List Int)×(List Int)))=>∃w0 w1:Value,vs=[w0,w1]∧Sl S h AJ w0 x.1∧Sl S h AJ w1 x.2) (λS h v (y:Bool)=>v= .bool y)) j u) {r:Bool}(E:Fv N k t u=some r):
 C5 prog 40 #[c,d,j] S h (λv S' h'=>v= .bool r∧St S' (L) h'):=by
 refine Bv (l:=[c,d,j]) 32 func40 O ntmps40 O λB=>?_
 rw[Fv] at E
 obtain⟨Q,U,rfl,V,W⟩:=z.fnr
 refine AI (AM O (kp [0,1,2] O) (AE (AI (AA O (BC O i Fx O λb5=>AA O (BC O m Fx O λb6=>CW O (AN (kp [14,0,1,2] O) (AX O E (λc7 E=>?_) (λc7 E=>?_)))))))))
 ·refine AI (AM O (kp [6] O) (A5 (λC D p q=>?_)))
  cases E
  exact Ee p q O O (Cv.refl S h) ⟨O,hs⟩
 refine AT (AE (AI (AA O (BC O i Fx O λb8=>AA O (AN (kp [17,16,15,1,2] O) (BF (λa w=>IV B S h (32,[]) a w [] (L) λ_ _=>D4 N=some r) ?_ ?_))))))
 ·refine BT (λn1=>λa w=>∃(A:Int),IV B S h (32,[]) a w [(16,vI (↑k.length:Int)),(15,c),(1,d),(2,(.func (.func Q) #[] U)),(17,vI A)] (L) λ_ _=>AH A∧DE N k t u (D4 N) n1 A=some r) N ?_ ?_ ?_
  ·intro C D p q
   exact⟨0,_,_,p.sub (kp [16,15,1,2,17] O),q,hs,(Cv.refl S h),(iq (n:=0) O),E⟩
  ·rintro C D ⟨_,_,_,_,_,_,_,_,E⟩
   rw[DE] at E;cases E
  rintro n1 C D ⟨A,ah,ai,p,q,g,s,aj,E⟩
  refine A6 ?_ p q
  clear p q D C
  rw[DE] at E
  refine AI (BK O (AN (kp [18,16,15,1,2,17] O) (AE (AX O E (λX E=>?_) (λX E=>?_)))))
  ·refine AT (AE (BV (AI (AA O ?_))))
   obtain⟨Y,G,E⟩:=bd E
   refine Bz O O (i.mono' s) Fx G O λak Z=>BG BY g.1 O Z CG O λal ab=>AY O (AM O (kp [8,7,16,15,1,2,17] O) (AI (AA O (AA O ?_))))
   obtain⟨ac,H,E⟩:=bd E
   refine Bz O O (m.mono' s) Fx H O λam ad=>BG BY g.1 O ad CG O λan ae=>AM O (kp [9,8,16,15,1,2,17] O) (AE (CX (.inl O) g (AA O (AA O (AA O ?_)))))
   obtain⟨ao,I,E⟩:=bd E
   refine BR O O O V O (λh' o=>W _ h' (λb M=>nH (g.1 b (s.sub b M)) o.siz) (λb M=>(o.same b (g.1 b (s.sub b M))).trans (s.same b M)) [] (St.all h') (Y,ac) _ _ ⟨_,_,O,(ab.mono' (o.all g.1)),(ae.mono' (o.all g.1))⟩ I) (CE O (B3 (kp [30,16,15,1,2,17] O) λap F J=>AX O E (λaf E=>?_) (λaf E=>?_)))
   ·refine AI (AM O (kp [6] O) (A5 (λC D p q=>?_)))
    cases E
    exact Ee p q O O (s.trans J) ⟨O,F⟩
   refine AT (B5 (CN (.inl O) (BB O (AA O (AN (kp [17,16,15,1,2] O) (WF.nil (λC D p q=>?_)))))))
   exact⟨(B0 (A+1)),_,_,p.sub (kp [16,15,1,2,17] O),q,F,(s.trans J),(B1 _),E⟩
  refine By O (λC D p q=>?_)
  exact⟨_,_,p.sub PO,q,g,s,E⟩
 rintro C D ⟨aq,ar,p,q,K,ag,E⟩
 refine A6 ?_ p q
 clear p q D C
 rw[D4] at E
 refine AI (AM O (kp [6] O) (A5 (λC D p q=>?_)))
 cases E
 exact Ee p q O O ag ⟨O,K⟩
def Ff (G:St S L h) {b:Value}{g:(List Int)}(d:Sl S h AJ b g) {c:Value}{o:(List Int)}(i:Sl S h AJ c o) {r:Bool}(E:Dr N g o=some r):
 C5 prog 41 #[b,c] S h (λv S' h'=>v= .bool r∧St S' (L) h'):=by
 refine Bv (l:=[b,c]) 26 func41 O ntmps41 O λB=>?_
 rw[Dr] at E
 refine AI (AM O (kp [0,1] O) (AE (AI (AA O (BC O d CA O λZ=>AA O (BC O i CA O λb2=>CW O (AN (kp [10,0,1] O) (AX O E (λI E=>?_) (λI E=>?_)))))))))
 ·refine AI (AM O (kp [4] O) (A5 (λq s j k=>?_)))
  cases E
  exact Ee j k O O (Cv.refl S h) ⟨O,G⟩
 refine AT (AE (AI (AA O (BC O d CA O λb4=>AA O (AN (kp [13,12,0,1] O) (BF (λa w=>IV B S h (26,[]) a w [] (L) λ_ _=>Ge N=some r) ?_ ?_))))))
 ·refine BT (λH=>λa w=>∃(t:Int),IV B S h (26,[]) a w [(12,vI (↑g.length:Int)),(0,b),(1,c),(13,vI t)] (L) λ_ _=>AH t∧FM N g o (Ge N) H t=some r) N ?_ ?_ ?_
  ·intro q s j k
   exact⟨0,_,_,j.sub (kp [12,0,1,13] O),k,G,(Cv.refl S h),(iq (n:=0) O),E⟩
  ·rintro q s ⟨_,_,_,_,_,_,_,_,E⟩
   rw[FM] at E;cases E
  rintro H q s ⟨t,S9,J,j,k,m,p,r8,E⟩
  refine A6 ?_ j k
  clear j k s q
  rw[FM] at E
  refine AI (BK O (AN (kp [14,12,0,1,13] O) (AE (AX O E (λz E=>?_) (λz E=>?_)))))
  ·refine AT (AE (BV (AI (AA O (AM O (kp [5,12,0,1,13] O) (AE (CN (.inr ⟨mo,by kernel_rfl⟩) (AA O (AA O ?_)))))))))
   obtain⟨K,u,E⟩:=bd E
   refine Bz O O (d.mono' p) CA u O λM A=>A9 BY m.1 O A A7 O λQ=>AA O (AA O ?_)
   obtain⟨U,x,E⟩:=bd E
   refine Bz O O (i.mono' p) CA x O λV C=>A9 BY m.1 O C A7 O λW=>CW O (AN (kp [24,12,0,1,13] O) (AX O E (λD E=>?_) (λD E=>?_)))
   ·refine AI (AM O (kp [4] O) (A5 (λq s j k=>?_)))
    cases E
    exact Ee j k O O p ⟨O,m⟩
   refine AT (B5 (CN (.inl O) (BB O (AA O (AN (kp [13,12,0,1] O) (WF.nil (λq s j k=>?_)))))))
   exact⟨(B0 (t+1)),_,_,j.sub (kp [12,0,1,13] O),k,m,p,(B1 _),E⟩
  refine By O (λq s j k=>?_)
  exact⟨_,_,j.sub PO,k,m,p,E⟩
 rintro q s ⟨X,Y,j,k,y,F,E⟩
 refine A6 ?_ j k
 clear j k s q
 rw[Ge] at E
 refine AI (AM O (kp [4] O) (A5 (λq s j k=>?_)))
 cases E
 exact Ee j k O O F ⟨O,y⟩
def EG (hs:St S L h) {c:Value}{k:(List BE)}(g:Sl S h BI c k) {d:Value}{z:(List BE)}(m:Sl S h BI d z) {i:Value}{A:((BE×BE)→Option Bool)}(C:Rd S h (BW.fnr prog (λS h vs (x:(BE×BE))=>∃w0 w1:Value,vs=[w0,w1]∧Rd S h BI w0 x.1∧Rd S h BI w1 x.2) (λS h v (y:Bool)=>v= .bool y)) i A) {r:Bool}(E:CH N k z A=some r):
 C5 prog 42 #[c,d,i] S h (λv S' h'=>v= .bool r∧St S' (L) h'):=by
 refine Bv (l:=[c,d,i]) 32 func42 O ntmps42 O λB=>?_
 rw[CH] at E
 obtain⟨ao,ap,rfl,aq,ar⟩:=C.fnr
 refine AI (AM O (kp [0,1,2] O) (AE (AI (AA O (BC O g KA O λb5=>AA O (BC O m KA O λb6=>CW O (AN (kp [14,0,1,2] O) (AX O E (λc7 E=>?_) (λc7 E=>?_)))))))))
 ·refine AI (AM O (kp [6] O) (A5 (λM Q p s=>?_)))
  cases E
  exact Ee p s O O (Cv.refl S h) ⟨O,hs⟩
 refine AT (AE (AI (AA O (BC O g KA O λb8=>AA O (AN (kp [17,16,15,1,2] O) (BF (λa w=>IV B S h (32,[]) a w [] (L) λ_ _=>BZ N=some r) ?_ ?_))))))
 ·refine BT (λn1=>λa w=>∃(F:Int),IV B S h (32,[]) a w [(16,vI (↑k.length:Int)),(15,c),(1,d),(2,(.func (.func ao) #[] ap)),(17,vI F)] (L) λ_ _=>AH F∧BO N k z A (BZ N) n1 F=some r) N ?_ ?_ ?_
  ·intro M Q p s
   exact⟨0,_,_,p.sub (kp [16,15,1,2,17] O),s,hs,(Cv.refl S h),(iq (n:=0) O),E⟩
  ·rintro M Q ⟨_,_,_,_,_,_,_,_,E⟩
   rw[BO] at E;cases E
  rintro n1 M Q ⟨F,a5,a6,p,s,G,H,a7,E⟩
  refine A6 ?_ p s
  clear p s Q M
  rw[BO] at E
  refine AI (BK O (AN (kp [18,16,15,1,2,17] O) (AE (AX O E (λau E=>?_) (λau E=>?_)))))
  ·refine AT (AE (BV (WF.sl (AF 3 (AA O ?_)))))
   obtain⟨t,ac,E⟩:=bd E
   refine Bz O O (g.mono' H) KA ac O λa8 av=>Ci BY G.1 O av LU (λe=>by cases e) O λa9 aw=>AG (Di Q4 O G λba bb ad U=>AF 1 (AY O (AG ?_)))
   obtain⟨Z,rfl,ax,ay,ae⟩:=BI.ex (aw.mono U)
   refine IA (vs:=[vI t.Ad,vI t.D,Z]) (cs':=[vI t.Ad,vI t.D,Z]) O O O (AC O (AC O (AC ae.one FA))) LU O ad .head O O λbc W V=>AZ (kp [7,8,16,15,1,2,17] O) (WF.sl (AF 4 (AA O (AA O ?_))))
   have X:=H.trans (U.trans V)
   obtain⟨u,af,E⟩:=bd E
   refine Bz O O (m.mono' X) KA af O λbe az=>Ci BY W.1 O az LU (λe=>by cases e) O λbf a0=>AG (Di Q4 O W λbg bh ag I=>?_)
   obtain⟨ab,rfl,a1,a2,ah⟩:=BI.ex (a0.mono I)
   refine IA (vs:=[vI u.Ad,vI u.D,ab]) (cs':=[vI u.Ad,vI u.D,ab]) O O O (AC O (AC O (AC ah.one FA))) LU O ag .head O O λbi j J=>AZ (kp [9,8,16,15,1,2,17] O) (AE (CX (.inl O) j (AA O (EH (vs:=[vI t.Ad,vI t.D,Z]) CL j O (mt mh) O O LU O O (EH (vs:=[vI u.Ad,vI u.D,ab]) CL j O mh O O LU O O ?_)))))
   have K:=X.trans (I.trans J)
   obtain⟨bj,ai,E⟩:=bd E
   refine BR O O O aq O (λh' o=>ar _ h' (λb hb=>nH (j.1 b (K.sub b hb)) o.siz) (λb hb=>(o.same b (j.1 b (K.sub b hb))).trans (K.same b hb)) [] (St.all h') (t,u) _ _ ⟨_,_,O,(BI.mk (x:=t) ax ay ((ae.mono' (V.trans (I.trans J))).mono' (o.all j.1))),(BI.mk (x:=u) a1 a2 ((ah.mono' J).mono' (o.all j.1)))⟩ ai) (CE O (B3 (kp [30,16,15,1,2,17] O) λbk Y aj=>AX O E (λa3 E=>?_) (λa3 E=>?_)))
   ·refine AI (AM O (kp [6] O) (A5 (λM Q p s=>?_)))
    have ak:=Y.sel [] 2 O
    cases E
    exact Ee p s O O (H.trans (U.trans (V.trans (I.trans (J.trans aj))))) ⟨O,ak⟩
   refine AT (B5 (CN (.inl O) (BB O (AA O (AN (kp [17,16,15,1,2] O) (WF.nil (λM Q p s=>?_)))))))
   have am:=Y.sel [] 2 O
   exact⟨(B0 (F+1)),_,_,p.sub (kp [16,15,1,2,17] O),s,am,(H.trans (U.trans (V.trans (I.trans (J.trans aj))))),(B1 _),E⟩
  refine By O (λM Q p s=>?_)
  exact⟨_,_,p.sub PO,s,G,H,E⟩
 rintro M Q ⟨bl,bm,p,s,an,a4,E⟩
 refine A6 ?_ p s
 clear p s Q M
 rw[BZ] at E
 refine AI (AM O (kp [6] O) (A5 (λM Q p s=>?_)))
 cases E
 exact Ee p s O O a4 ⟨O,an⟩
def Ht (I:St S L h) {b:Value}{g:(List BH)}(d:Sl S h Bu b g) {c:Value}{o:(List BH)}(i:Sl S h Bu c o) {r:Bool}(E:D3 N g o=some r):
 C5 prog 44 #[b,c] S h (λv S' h'=>v= .bool r∧St S' (L) h'):=by
 refine Bv (l:=[b,c]) 26 func44 O ntmps44 O λB=>?_
 rw[D3] at E
 refine AI (AM O (kp [0,1] O) (AE (AI (AA O (BC O d Ks O λb1=>AA O (BC O i Ks O λb2=>CW O (AN (kp [10,0,1] O) (AX O E (λK E=>?_) (λK E=>?_)))))))))
 ·refine AI (AM O (kp [4] O) (A5 (λq s j k=>?_)))
  cases E
  exact Ee j k O O (Cv.refl S h) ⟨O,I⟩
 refine AT (AE (AI (AA O (BC O d Ks O λb4=>AA O (AN (kp [13,12,0,1] O) (BF (λa w=>IV B S h (26,[]) a w [] (L) λ_ _=>C2 N=some r) ?_ ?_))))))
 ·refine BT (λJ=>λa w=>∃(t:Int),IV B S h (26,[]) a w [(12,vI (↑g.length:Int)),(0,b),(1,c),(13,vI t)] (L) λ_ _=>AH t∧CT N g o (C2 N) J t=some r) N ?_ ?_ ?_
  ·intro q s j k
   exact⟨0,_,_,j.sub (kp [12,0,1,13] O),k,I,(Cv.refl S h),(iq (n:=0) O),E⟩
  ·rintro q s ⟨_,_,_,_,_,_,_,_,E⟩
   rw[CT] at E;cases E
  rintro J q s ⟨t,S9,M,j,k,m,p,r8,E⟩
  refine A6 ?_ j k
  clear j k s q
  rw[CT] at E
  refine AI (BK O (AN (kp [14,12,0,1,13] O) (AE (AX O E (λz E=>?_) (λz E=>?_)))))
  ·refine AT (AE (BV (AI (AA O (AM O (kp [5,12,0,1,13] O) (AE (CN (.inr ⟨mo,by kernel_rfl⟩) (AA O (AA O ?_)))))))))
   obtain⟨Q,u,E⟩:=bd E
   refine Bz O O (d.mono' p) Ks u O λU A=>Ci BY m.1 O A He (λe=>by cases e) O λV C=>AA O (AA O ?_)
   obtain⟨W,x,E⟩:=bd E
   refine Bz O O (i.mono' p) Ks x O λX D=>Ci BY m.1 O D He (λe=>by cases e) O λY F=>?_
   obtain⟨rfl,⟨Z,ab⟩⟩:=Bu.ex C
   obtain⟨rfl,⟨ac,ad⟩⟩:=Bu.ex F
   refine dM O O gR O O O O (AN (kp [24,12,0,1,13] O) (AX O E (λG E=>?_) (λG E=>?_)))
   ·refine AI (AM O (kp [4] O) (A5 (λq s j k=>?_)))
    cases E
    exact Ee j k O O p ⟨O,m⟩
   refine AT (B5 (CN (.inl O) (BB O (AA O (AN (kp [13,12,0,1] O) (WF.nil (λq s j k=>?_)))))))
   exact⟨(B0 (t+1)),_,_,j.sub (kp [12,0,1,13] O),k,m,p,(B1 _),E⟩
  refine By O (λq s j k=>?_)
  exact⟨_,_,j.sub PO,k,m,p,E⟩
 rintro q s ⟨ae,af,j,k,y,H,E⟩
 refine A6 ?_ j k
 clear j k s q
 rw[C2] at E
 refine AI (AM O (kp [4] O) (A5 (λq s j k=>?_)))
 cases E
 exact Ee j k O O H ⟨O,y⟩
def N7 (M:St S L h) {g:Value}{c:BE}(j:Rd S h BI g c) {i:Value}{d:BE}(k:Rd S h BI i d) {r:Bool}(E:Ja N c d=some r):
 C5 prog 43 #[g,i] S h (λv S' h'=>v= .bool r∧St S' (L) h'):=by
 refine Bv (l:=[g,i]) 24 func43 O ntmps43 O λB=>?_
 rw[Ja] at E
 refine WF.sl (Cm O j (λe=>by cases e) O M λq1 S2 h3 w K Q=>Cm O (k.mono K) (λe=>by cases e) O w λq8 S9 U a p m=>AF 1 (AY O (AG (AZ (kp [3,2] O) (AE (CX (.inl O) a ?_))))))
 have n:=Q.mono p
 refine A8 O n Qd OT O λV x=>A9 CL a.1 O x A7 O λW=>A8 O m Qd OT O λX y=>A9 CL a.1 O y A7 O λY=>B9 O (AA O (AW 6 16 (.bool ((decide (c.Ad=d.Ad))&&(decide (c.D=d.D)))) ?_ ?_))
 ·cases Z:(decide (c.Ad=d.Ad))
  ·exact A3 O O
  exact AB O (A8 O n BE.f_To La O λab z=>AB O (A9 CL a.1 O z A7 O λac=>AB O (A8 O m BE.f_To La O λad A=>AB O (A9 CL a.1 O A A7 O λae=>AB O (B9 O (AL O (AV O)))))))
 refine AA O ?_
 obtain⟨C,b,E⟩:=bd E
 refine AW 6 23 (.bool C) ?_ ?_
 ·cases s:((decide (c.Ad=d.Ad))&&(decide (c.D=d.D)))
  ·have b:=HG s b
   cases b
   exact A3 O O
  have b:=HE s b
  refine AB O (A8 O n BE.f_Part LZ O λaf F=>AB O (BG CL a.1 O F CG O λag G=>AB O (A8 O m BE.f_Part LZ O λah H=>AB O (BG CL a.1 O H CG O λai I=>AB O ?_))))
  obtain⟨aj,t,b⟩:=bd b
  refine BR O O O Tx O (λh' o=>Ff (St.all h') (G.mono' (o.all a.1)) (I.mono' (o.all a.1)) t) (AL O ?_)
  cases b
  exact AV O
 refine AY O (B3 (kp [4] O) λak u J=>A5 (λaa ww hf hw=>?_))
 cases E
 exact Ee hf hw O O (K.trans (p.trans J)) ⟨O,u⟩
def Nh (D:St S L h) {k:Value}{t:BD}(w:Rd S h C3 k t) {m:Value}{u:BD}(z:Rd S h C3 m u) {r:Bool}(E:Lc N t u=some r):
 C5 prog 20 #[k,m] S h (λv S' h'=>v= .bool r∧St S' (L) h'):=by
 refine Bv (l:=[k,m]) 52 func20 O ntmps20 O λB=>?_
 rw[Lc] at E
 refine WF.sl (Cm O w (λe=>by cases e) O D λq1 S2 h3 aj e5 k6=>Cm O (z.mono e5) (λe=>by cases e) O aj λq8 S9 F a G n=>AF 1 (AY O (AG (AZ (kp [3,2] O) (AE (CX (.inl O) a ?_))))))
 have s:=k6.mono G
 refine A8 O s BD.f_Hour H0 O λbh ak=>A9 CL a.1 O ak A7 O λbi=>A8 O n BD.f_Hour H0 O λbj al=>A9 CL a.1 O al A7 O λbk=>B9 O (AA O ?_)
 obtain⟨H,b,E⟩:=bd E
 refine AW 6 16 (.bool H) ?_ ?_
 ·cases I:(decide (t.B=u.B))
  ·have b:=HG I b
   cases b
   exact A3 O O
  have b:=HE I b
  refine AB O (A8 O s J5 Eo O λbl am=>AB O (BG CL a.1 O am Hz O λbm an=>AB O (A8 O n J5 Eo O λbn ao=>AB O (BG CL a.1 O ao Hz O λbo ap=>AB O ?_))))
  have J:Rd S9 F (BW.fnr prog (λS h vs (x:((List Int)×(List Int)))=>∃A C:Value,vs=[A,C]∧Sl S h AJ A x.1∧Sl S h AJ C x.2) (λS h v (y:Bool)=>v= .bool y)) (.func (.func 41) #[] #[]) (λx=>Dr N x.1 x.2):=Ki 41 #[] Tx λS' h' s' e' L D x y vs h1 h2=>by obtain⟨A,C,rfl,a0,a1⟩:=h1;exact(Ff D a0 a1 h2).mono λ_ _ _ _ p=>p
  obtain⟨bp,K,b⟩:=bd b
  refine BR O O O jF O (λh' o=>JN (St.all h') (an.mono' (o.all a.1)) (ap.mono' (o.all a.1)) (J.mono (o.all a.1)) K) (AL O ?_)
  cases b
  exact AV O
 refine AA O ?_
 obtain⟨M,c,E⟩:=bd E
 refine AW 6 23 (.bool M) ?_ ?_
 ·cases Q:H
  ·have c:=HG Q c
   cases c
   exact A3 O O
  have c:=HE Q c
  refine AB O (A8 O s J4 KP O λbq aq=>AB O (BG CL a.1 O aq CG O λbr ar=>AB O (A8 O n J4 KP O λbs au=>AB O (BG CL a.1 O au CG O λbt av=>AB O ?_))))
  obtain⟨bu,U,c⟩:=bd c
  refine BR O O O Tx O (λh' o=>Ff (St.all h') (ar.mono' (o.all a.1)) (av.mono' (o.all a.1)) U) (AL O ?_)
  cases c
  exact AV O
 refine AA O ?_
 obtain⟨V,d,E⟩:=bd E
 refine AW 6 30 (.bool V) ?_ ?_
 ·cases W:M
  ·have d:=HG W d
   cases d
   exact A3 O O
  have d:=HE W d
  refine AB O (A8 O s JG KO O λbv aw=>AB O (BG CL a.1 O aw Lp O λbw ax=>AB O (A8 O n JG KO O λbx ay=>AB O (BG CL a.1 O ay Lp O λbz az=>AB O ?_))))
  have X:Rd S9 F (BW.fnr prog (λS h vs (x:(BE×BE))=>∃A C:Value,vs=[A,C]∧Rd S h BI A x.1∧Rd S h BI C x.2) (λS h v (y:Bool)=>v= .bool y)) (.func (.func 43) #[] #[]) (λx=>Ja N x.1 x.2):=Ki 43 #[] jD λS' h' s' e' L D x y vs h1 h2=>by obtain⟨A,C,rfl,a0,a1⟩:=h1;exact(N7 D a0 a1 h2).mono λ_ _ _ _ p=>p
  obtain⟨b0,Y,d⟩:=bd d
  refine BR O O O jE O (λh' o=>EG (St.all h') (ax.mono' (o.all a.1)) (az.mono' (o.all a.1)) (X.mono (o.all a.1)) Y) (AL O ?_)
  cases d
  exact AV O
 refine AA O ?_
 obtain⟨Z,g,E⟩:=bd E
 refine AW 6 37 (.bool Z) ?_ ?_
 ·cases ab:V
  ·have g:=HG ab g
   cases g
   exact A3 O O
  have g:=HE ab g
  refine AB O (A8 O s J6 Ie O λb1 a2=>AB O (BG CL a.1 O a2 K9 O λb2 a3=>AB O (A8 O n J6 Ie O λb3 a4=>AB O (BG CL a.1 O a4 K9 O λb4 a5=>AB O ?_))))
  obtain⟨b5,ac,g⟩:=bd g
  refine BR O O O jC O (λh' o=>Ht (St.all h') (a3.mono' (o.all a.1)) (a5.mono' (o.all a.1)) ac) (AL O ?_)
  cases g
  exact AV O
 refine AA O ?_
 obtain⟨ad,i,E⟩:=bd E
 refine AW 6 44 (.bool ad) ?_ ?_
 ·cases ae:Z
  ·have i:=HG ae i
   cases i
   exact A3 O O
  have i:=HE ae i
  refine AB O (A8 O s Kj K3 O λb6 a6=>AB O (BG CL a.1 O a6 CG O λb7 a7=>AB O (A8 O n Kj K3 O λb8 a8=>AB O (BG CL a.1 O a8 CG O λb9 a9=>AB O ?_))))
  obtain⟨ca,af,i⟩:=bd i
  refine BR O O O Tx O (λh' o=>Ff (St.all h') (a7.mono' (o.all a.1)) (a9.mono' (o.all a.1)) af) (AL O ?_)
  cases i
  exact AV O
 refine AA O ?_
 obtain⟨ba,j,E⟩:=bd E
 refine AW 6 51 (.bool ba) ?_ ?_
 ·cases ag:ad
  ·have j:=HG ag j
   cases j
   exact A3 O O
  have j:=HE ag j
  refine AB O (A8 O s K5 Jv O λcb bb=>AB O (BG CL a.1 O bb CG O λcc bc=>AB O (A8 O n K5 Jv O λcd be=>AB O (BG CL a.1 O be CG O λce bf=>AB O ?_))))
  obtain⟨cf,ah,j⟩:=bd j
  refine BR O O O Tx O (λh' o=>Ff (St.all h') (bc.mono' (o.all a.1)) (bf.mono' (o.all a.1)) ah) (AL O ?_)
  cases j
  exact AV O
 refine AY O (B3 (kp [4] O) λcg ai bg=>A5 (λaa ww hf hw=>?_))
 cases E
 exact Ee hf hw O O (e5.trans (G.trans bg)) ⟨O,ai⟩
def Md (hs:St S L h) {r:Bool}(E:HH N=some r):
 C5 prog 9 #[] S h (λv S' h'=>v= .bool r∧St S' (L) h'):=by
 refine Bv (l:=[]) 176 func9 O ntmps9 O λB=>?_
 rw[HH] at E
 refine AI (AM O PO (WF.sl ?_))
 obtain⟨y1,ot,E⟩:=bd E
 refine DU O O O jO O (MJ hs ot) λv2 S3 h4 e5 p=>?_
 obtain⟨k7,ou⟩:=p
 refine Di Zu O ou λb9 xo ld fn=>?_
 obtain⟨bb,bc,be,bf,bg,bh,bi,bj,rfl,ef,c4,eg,c5,c6,c7,c8,c9,da,db,eh⟩:=CZ.ex (k7.mono fn)
 refine IA (vs:=[.string y1.F,bb,vI y1.R,bc,be,bf,bg,bh,bi,bj,vI y1.U]) (cs':=[.string y1.F,bb,vI y1.R,bc,be,bf,bg,bh,bi,bj,vI y1.U]) O O O (AC O (AC c4.one (AC O (AC c5.one (AC c6.one (AC c7.one (AC c8.one (AC c9.one (AC da.one (AC db.one (AC O FA))))))))))) HS O ld .head O O λxp gu ap=>AZ (kp [1] O) (WF.sl (AF 1 (EH (vs:=[.string y1.F,bb,vI y1.R,bc,be,bf,bg,bh,bi,bj,vI y1.U]) BY gu O mh O O HS O O (AG ?_))))
 obtain⟨ah,le,E⟩:=bd E
 refine DU O O O aW O (Mm gu (CZ.mk (x:=y1) ef (c4.mono' ap) eg (c5.mono' ap) (c6.mono' ap) (c7.mono' ap) (c8.mono' ap) (c9.mono' ap) (da.mono' ap) (db.mono' ap) eh) (iq (n:=5) O) le) λxq xr xs dc p=>?_
 obtain⟨ov,lf⟩:=p
 refine Di O3 O lf λei xt lg cr=>?_
 obtain⟨bk,bl,bm,bn,bo,bp,rfl,ej,ct,dd,de,df,dg,dh⟩:=C3.ex (ov.mono cr)
 refine IA (vs:=[vI ah.B,bk,bl,bm,bn,bo,bp]) (cs':=[vI ah.B,bk,bl,bm,bn,bo,bp]) O O O (AC O (AC ct.one (AC dd.one (AC de.one (AC df.one (AC dg.one (AC dh.one FA))))))) Hs O lg .head O O λxu i I=>AZ (kp [2,1] O) (AE (AE (CX (.inl O) i (EH (vs:=[.string y1.F,bb,vI y1.R,bc,be,bf,bg,bh,bi,bj,vI y1.U]) CL i O (mt mh) O O HS O O ?_))))
 have az:=ap.trans (dc.trans (cr.trans I))
 obtain⟨ow,lh,E⟩:=bd E
 refine BR O O O aU O (λh' o=>MU (St.all h') (CZ.mk (x:=y1) ef ((c4.mono' az).mono' (o.all i.1)) eg ((c5.mono' az).mono' (o.all i.1)) ((c6.mono' az).mono' (o.all i.1)) ((c7.mono' az).mono' (o.all i.1)) ((c8.mono' az).mono' (o.all i.1)) ((c9.mono' az).mono' (o.all i.1)) ((da.mono' az).mono' (o.all i.1)) ((db.mono' az).mono' (o.all i.1)) eh) lh) (CE O (AA O ?_))
 obtain⟨hp,a0,E⟩:=bd E
 refine AW 5 23 (.bool hp) ?_ ?_
 ·cases li:(!ow)
  ·have a0:=HG li a0
   refine AB O (EH (vs:=[.string y1.F,bb,vI y1.R,bc,be,bf,bg,bh,bi,bj,vI y1.U]) CL i O (mt mh) O O HS O O (AB O (EH (vs:=[vI ah.B,bk,bl,bm,bn,bo,bp]) CL i O mh O O Hs O O (AB O ?_))))
   have a1:=ap.trans (dc.trans (cr.trans I))
   obtain⟨ru,hq,a0⟩:=bd a0
   refine BR O O O Ty O (λh' o=>I7 (St.all h') (CZ.mk (x:=y1) ef ((c4.mono' a1).mono' (o.all i.1)) eg ((c5.mono' a1).mono' (o.all i.1)) ((c6.mono' a1).mono' (o.all i.1)) ((c7.mono' a1).mono' (o.all i.1)) ((c8.mono' a1).mono' (o.all i.1)) ((c9.mono' a1).mono' (o.all i.1)) ((da.mono' a1).mono' (o.all i.1)) ((db.mono' a1).mono' (o.all i.1)) eh) (C3.mk (x:=ah) ej ((ct.mono' I).mono' (o.all i.1)) ((dd.mono' I).mono' (o.all i.1)) ((de.mono' I).mono' (o.all i.1)) ((df.mono' I).mono' (o.all i.1)) ((dg.mono' I).mono' (o.all i.1)) ((dh.mono' I).mono' (o.all i.1))) hq) (AB O (CE O (AL O ?_)))
   cases a0
   exact AV O
  have a0:=HE li a0
  cases a0
  exact A3 O O
 refine AA O (AW 5 29 (.bool (hp||(decide ((↑ah.G.length:Int)≠1)))) ?_ ?_)
 ·cases rv:hp
  ·exact AB O (AD Eo O (AB O (AS CL i O mh O Hz O (AB O (BC O (ct.mono' I) Fx O λrx=>AB O (CW O (AL O (AV O))))))))
  exact A3 O O
 refine B3 (kp [29,2,1] O) λry b6 M=>AX O E (λlj E=>?_) (λlj E=>?_)
 ·refine AI (AM O (kp [0] O) (A5 (λaa ww hf hw=>?_)))
  have hr:=b6.sel [] 2 O
  cases E
  exact Ee hf hw O O (e5.trans (fn.trans (ap.trans (dc.trans (cr.trans (I.trans M)))))) ⟨O,hr⟩
 refine AT (WF.sl (AF 3 (EH (vs:=[.string y1.F,bb,vI y1.R,bc,be,bf,bg,bh,bi,bj,vI y1.U]) BY b6 O (mt mh) O O HS O O (EH (vs:=[vI ah.B,bk,bl,bm,bn,bo,bp]) BY b6 O mh O O Hs O O (Ik (cs:=[vN,vN,vN,vN,vN]) Z7 O O O (AG ?_))))))
 have af:=ap.trans (dc.trans (cr.trans (I.trans M)))
 obtain⟨j,ht,E⟩:=bd E
 refine DU O O O YM O (Lg b6 (CZ.mk (x:=y1) ef (c4.mono' af) eg (c5.mono' af) (c6.mono' af) (c7.mono' af) (c8.mono' af) (c9.mono' af) (da.mono' af) (db.mono' af) eh) (C3.mk (x:=ah) ej (ct.mono' (I.trans M)) (dd.mono' (I.trans M)) (de.mono' (I.trans M)) (df.mono' (I.trans M)) (dg.mono' (I.trans M)) (dh.mono' (I.trans M))) (Gf.mk (x:=(⟨[],[],[],[],[]⟩:Eb)) (.inl ⟨O,O⟩) (.inl ⟨O,O⟩) (.inl ⟨O,O⟩) (.inl ⟨O,O⟩) (.inl ⟨O,O⟩)) ht) λrz r0 r1 bq p=>?_
 obtain⟨r2,ek,el,rfl,ll,hu⟩:=p
 refine AF 4 (AA O (CS O (CS O (CS O (AG (Di O3 O hu λb2 r3 hv a2=>?_))))))
 obtain⟨a3,a4,a5,a6,a7,a8,rfl,em,av,d8,d9,ea,eb,br⟩:=C3.ex (ll.mono a2)
 refine IA (vs:=[vI j.1.B,a3,a4,a5,a6,a7,a8]) (cs':=[vI j.1.B,a3,a4,a5,a6,a7,a8]) O O O (AC O (AC av.one (AC d8.one (AC d9.one (AC ea.one (AC eb.one (AC br.one FA))))))) Hs O hv .head O O λr4 di Q=>AF 2 (AY O (AY O (AG (AZ (kp [5,4,3,2,1] O) (WF.sl (AF 3 (EH (vs:=[.string y1.F,bb,vI y1.R,bc,be,bf,bg,bh,bi,bj,vI y1.U]) BY di O (mt (mt (mt (mt mh)))) O O HS O O (EH (vs:=[vI ah.B,bk,bl,bm,bn,bo,bp]) BY di O (mt (mt (mt mh))) O O Hs O O (Ik (cs:=[vI 0,vI 1,vI 60,vI (-1)]) fB O O O (AG (Em (cs:=[vI 0,vI 1,vI 60,vI (-1)]) gU O O O O O O O di λlm r5 hx V=>AF 1 ?_)))))))))))
 have hy:=hx.bxos (r:=GV) (l:=([(⟨0,1,60,(-1)⟩:Gh)]:List Gh)) .head ⟨_,_,O,⟨O,⟨(iq (n:=0) O),(iq (n:=1) O),(iq (n:=60) O),(iq (n:=(-1)) O)⟩⟩,O⟩ (by simp [maxLen])
 obtain⟨r6,hz,W,lo⟩:=hy.pubs .head
 refine Ik (cs:=[vN,vN,vN,(.slice (some ⟨lm,0,none⟩) 1 1),vN]) Z7 O O O (AG ?_)
 have ai:=af.trans (bq.trans (a2.trans (Q.trans (V.trans W))))
 have aw:=I.trans (M.trans (bq.trans (a2.trans (Q.trans (V.trans W)))))
 obtain⟨z,h0,E⟩:=bd E
 refine DU O O O YM O (Lg hz (CZ.mk (x:=y1) ef (c4.mono' ai) eg (c5.mono' ai) (c6.mono' ai) (c7.mono' ai) (c8.mono' ai) (c9.mono' ai) (da.mono' ai) (db.mono' ai) eh) (C3.mk (x:=ah) ej (ct.mono' aw) (dd.mono' aw) (de.mono' aw) (df.mono' aw) (dg.mono' aw) (dh.mono' aw)) (Gf.mk (x:=(⟨[],[],[],([(⟨0,1,60,(-1)⟩:Gh)]:List Gh),[]⟩:Eb)) (.inl ⟨O,O⟩) (.inl ⟨O,O⟩) (.inl ⟨O,O⟩) lo (.inl ⟨O,O⟩)) h0) λr7 gv r8 ag p=>?_
 obtain⟨r9,cu,en,rfl,lp,h1⟩:=p
 refine AF 4 (AA O (CS O (CS O (CS O (AG (Di O3 O h1 λcv sa h2 ae=>?_))))))
 obtain⟨cw,cx,cy,cz,c0,c1,rfl,sc,eo,lq,lr,ls,lt,lu⟩:=C3.ex (lp.mono ae)
 refine IA (vs:=[vI z.1.B,cw,cx,cy,cz,c0,c1]) (cs':=[vI z.1.B,cw,cx,cy,cz,c0,c1]) O O O (AC O (AC eo.one (AC lq.one (AC lr.one (AC ls.one (AC lt.one (AC lu.one FA))))))) Hs O h2 .head O O λgw d X=>AF 2 (AY O (AY O (AG (AZ (kp [7,6,5,4,3,2,1] O) (AE (AI (AA O (MO d (mt (mt (mt (mt mh)))) O In O λsd=>CW O (AA O (AW 4 55 (.bool ((decide ((↑j.2.1.length:Int)≠2))||(decide ((↑z.2.1.length:Int)≠2)))) ?_ ?_))))))))))
 ·cases se:(decide ((↑j.2.1.length:Int)≠2))
  ·exact AB O (AA O (AB O (MO d (mt mh) O In O λsf=>AB O (CW O (AL O (AV O))))))
  exact A3 O O
 refine AA O (AW 5 61 (.bool (((decide ((↑j.2.1.length:Int)≠2))||(decide ((↑z.2.1.length:Int)≠2)))||(decide ((↑j.1.G.length:Int)≠1)))) ?_ ?_)
 ·cases sg:((decide ((↑j.2.1.length:Int)≠2))||(decide ((↑z.2.1.length:Int)≠2)))
  ·exact AB O (AD Eo O (AB O (AS BY d O (mt (mt (mt mh))) O Hz O (AB O (BC O (av.mono' (Q.trans (V.trans (W.trans (ag.trans (ae.trans X)))))) Fx O λsh=>AB O (CW O (AL O (AV O))))))))
  exact A3 O O
 refine AA O (AW 5 67 (.bool ((((decide ((↑j.2.1.length:Int)≠2))||(decide ((↑z.2.1.length:Int)≠2)))||(decide ((↑j.1.G.length:Int)≠1)))||(decide ((↑z.1.G.length:Int)≠1)))) ?_ ?_)
 ·cases si:(((decide ((↑j.2.1.length:Int)≠2))||(decide ((↑z.2.1.length:Int)≠2)))||(decide ((↑j.1.G.length:Int)≠1)))
  ·exact AB O (AD Eo O (AB O (AS BY d O mh O Hz O (AB O (BC O (eo.mono' X) Fx O λsj=>AB O (CW O (AL O (AV O))))))))
  exact A3 O O
 refine AN (kp [67,7,6,5,4,3,2,1] O) (AX O E (λlv E=>?_) (λlv E=>?_))
 ·refine AI (AM O (kp [0] O) (A5 (λaa ww hf hw=>?_)))
  have h3:=d.sel [] 8 O
  cases E
  exact Ee hf hw O O (e5.trans (fn.trans (ap.trans (dc.trans (cr.trans (I.trans (M.trans (bq.trans (a2.trans (Q.trans (V.trans (W.trans (ag.trans (ae.trans X)))))))))))))) ⟨O,h3⟩
 refine AT (AE ?_)
 obtain⟨sk,bs,E⟩:=bd E
 obtain⟨lw,bt,E⟩:=bd E
 obtain⟨sm,A,E⟩:=bd E
 obtain⟨sn,J,E⟩:=bd E
 obtain⟨so,u,E⟩:=bd E
 obtain⟨a9,K,E⟩:=bd E
 refine HN (λa w=>IV B gv gw (176,[]) a w [(9,.bool a9),(7,cu),(6,vP cv 0),(3,vP b2 0),(2,vP ei 0),(1,vP b9 0)] (Bx cv 36 [vI z.1.B,cw,cx,cy,cz,c0,c1]::OS CF 50 cu z.2.1::OS AJ 3 en z.2.2::Bx b2 36 [vI j.1.B,a3,a4,a5,a6,a7,a8]::OS CF 50 ek j.2.1::OS AJ 3 el j.2.2::Bx ei 36 [vI ah.B,bk,bl,bm,bn,bo,bp]::Bx b9 31 [.string y1.F,bb,vI y1.R,bc,be,bf,bg,bh,bi,bj,vI y1.U]::L) λ_ _=>True) ?_ ?_
 ·rcases YP (decide (lw.Bf=(-1))) with ba|ba
  ·have A:=HG ba A
   have lx:=mZ A
   subst lx
   have ly:=mZ J
   subst ly
   have lz:=mZ u
   subst lz
   have l0:=mZ K
   subst l0
   refine FO (AF 1 (AA O (AG (AF 1 (BU d (mt (mt (mt (mt mh)))) O O In bs O λsp h5=>AG (AF 1 (Hm O h5 JZ O λsq h6=>AG (AF 1 ?_))))))))
   have l1:=d.epAt (mt (mt (mt (mt mh)))) bt Gd h6
   refine A9 BY (λ_ x=>x) O l1 A7 O λss=>AG (AF 1 (B9 O (AG (HZ ba (AF 1 (AA O (AG (AF 1 (BM O (AG (AF 1 (BM O (AG (AF 1 (BM O (AG (AF 1 (BM O (AG (AF 1 (BM O (AG (AF 1 (BM O (AG (AF 1 (AL O (AG ?_))))))))))))))))))))))))))))
   refine AF 1 (AA O (AG (AF 1 (BM O (AG (AF 1 (BM O (AG (AF 1 (BM O (AG (AF 1 (BM O (AG (AF 1 (BM O (AG (AF 1 (AL O (AG (AF 1 (AA O (AG (AF 1 (BM O (AG (AF 1 (BM O (AG ?_)))))))))))))))))))))))))))))
   refine AF 1 (BM O (AG (AF 1 (BM O (AG (AF 1 (BM O (AG (AF 1 (BM O (AG (AF 1 (AL O (AG (AF 1 (AA O (AG (AF 1 (BM O (AG (AF 1 (BM O (AG (AF 1 (BM O (AG (AF 1 (AL O (AG ?_)))))))))))))))))))))))))))))
   exact AF 1 (AY O (AG (AZ (kp [9,7,6,3,2,1] O) (WF.nil (λaa ww hf hw=>⟨_,_,hf.sub (kp [9,7,6,3,2,1] O),hw,d,(Cv.refl gv gw),trivial⟩)))))
  have A:=HE ba A
  obtain⟨su,b7,A⟩:=bd A
  obtain⟨sv,b8,A⟩:=bd A
  obtain⟨l2,ca,A⟩:=bd A
  have l3:=mZ A
  subst l3
  rcases YP l2 with bu|bu
  ·have J:=HG bu J
   have l4:=mZ J
   subst l4
   have l5:=mZ u
   subst l5
   have l6:=mZ K
   subst l6
   refine FO (AF 1 (AA O (AG (AF 1 (BU d (mt (mt (mt (mt mh)))) O O In bs O λsw h7=>AG (AF 1 (Hm O h7 JZ O λsx h8=>AG (AF 1 ?_))))))))
   have l7:=d.epAt (mt (mt (mt (mt mh)))) bt Gd h8
   refine A9 BY (λ_ x=>x) O l7 A7 O λsy=>AG (AF 1 (B9 O (AG (HZ ba (AF 1 (AA O (AG (AF 1 (AB O (AA O (AG (AF 1 (AB O (BU d (mt (mt (mt (mt mh)))) O O In b7 O λsz h9=>AG (AF 1 (AB O (Hm O h9 Ju O λs0 ia=>AG (AF 1 (AB O ?_)))))))))))))))))))
   have l8:=d.epAt (mt (mt (mt (mt mh)))) b8 BA.f_Part ia
   refine BG BY (λ_ x=>x) O l8 CG O λs1 l9=>AG (G3 O O O (Em (cs:=[vI 10,vI 5]) GK O O O O O O O d λs2 s3 ib gx=>G3 O O O ?_))
   have ic:=ib.bxos (r:=AJ) (l:=([10,5]:List Int)) .head ⟨_,_,O,⟨O,(iq (n:=10) O)⟩,⟨_,_,O,⟨O,(iq (n:=5) O)⟩,O⟩⟩ (by simp [maxLen])
   obtain⟨s4,dj,gz,ma⟩:=ic.pubs .head
   refine CJ O O O JW O dj (Bw (St.all _) ((l9.mono' (gx.trans gz)).mono (λb g=>dj.1 b g) (λ_ _=>rfl)) (ma.mono (λb g=>dj.1 b g) (λ_ _=>rfl)) ca) λs5 s6 s7 id mb s8 p=>?_
   obtain⟨rfl,ox⟩:=p
   refine HZ bu (AF 1 (AL O (AG (AF 1 (AA O (AG (AF 1 (BM O (AG (AF 1 (BM O (AG (AF 1 (BM O (AG (AF 1 (BM O (AG (AF 1 (BM O (AG (AF 1 (AL O (AG (AF 1 (AA O (AG (AF 1 (BM O ?_)))))))))))))))))))))))))))))
   refine AG (AF 1 (BM O (AG (AF 1 (BM O (AG (AF 1 (BM O (AG (AF 1 (BM O (AG (AF 1 (BM O (AG (AF 1 (AL O (AG (AF 1 (AA O (AG (AF 1 (BM O (AG (AF 1 (BM O (AG (AF 1 (BM O ?_)))))))))))))))))))))))))))))
   exact AG (AF 1 (AL O (AG (AF 1 (AY O (AG (AZ (kp [9,7,6,3,2,1] O) (WF.nil (λaa ww hf hw=>⟨_,_,hf.sub (kp [9,7,6,3,2,1] O),hw,id,(gx.trans (gz.trans mb)),trivial⟩)))))))))
  have J:=HE bu J
  obtain⟨s9,dk,J⟩:=bd J
  obtain⟨mc,dl,J⟩:=bd J
  have md:=mZ J
  subst md
  rcases YP (decide (mc.Bf=(-2))) with b3|b3
  ·have u:=HG b3 u
   have me:=mZ u
   subst me
   have mf:=mZ K
   subst mf
   refine FO (AF 1 (AA O (AG (AF 1 (BU d (mt (mt (mt (mt mh)))) O O In bs O λta ie=>AG (AF 1 (Hm O ie JZ O λtb ig=>AG (AF 1 ?_))))))))
   have mg:=d.epAt (mt (mt (mt (mt mh)))) bt Gd ig
   refine A9 BY (λ_ x=>x) O mg A7 O λtc=>AG (AF 1 (B9 O (AG (HZ ba (AF 1 (AA O (AG (AF 1 (AB O (AA O (AG (AF 1 (AB O (BU d (mt (mt (mt (mt mh)))) O O In b7 O λtd ih=>AG (AF 1 (AB O (Hm O ih Ju O λte ii=>AG (AF 1 (AB O ?_)))))))))))))))))))
   have mi:=d.epAt (mt (mt (mt (mt mh)))) b8 BA.f_Part ii
   refine BG BY (λ_ x=>x) O mi CG O λtf mj=>AG (G3 O O O (Em (cs:=[vI 10,vI 5]) GK O O O O O O O d λtg th ij g0=>G3 O O O ?_))
   have ik:=ij.bxos (r:=AJ) (l:=([10,5]:List Int)) .head ⟨_,_,O,⟨O,(iq (n:=10) O)⟩,⟨_,_,O,⟨O,(iq (n:=5) O)⟩,O⟩⟩ (by simp [maxLen])
   obtain⟨ti,dm,g1,ml⟩:=ik.pubs .head
   refine CJ O O O JW O dm (Bw (St.all _) ((mj.mono' (g0.trans g1)).mono (λb g=>dm.1 b g) (λ_ _=>rfl)) (ml.mono (λb g=>dm.1 b g) (λ_ _=>rfl)) ca) λtj tk tl dn mm tm p=>?_
   obtain⟨rfl,oy⟩:=p
   refine HZ bu (AF 1 (AL O (AG (AF 1 (AA O (AG (AF 1 (AB O (AA O (AG (AF 1 (AB O (BU dn (mt (mt (mt (mt mh)))) O O In dk O λtn il=>AG (AF 1 (AB O (Hm O il JZ O λtp im=>AG (AF 1 (AB O ?_))))))))))))))))))
   have mn:=dn.epAt (mt (mt (mt (mt mh)))) dl Gd im
   refine A9 BY (λ_ x=>x) O mn A7 O λtq=>AG (AF 1 (AB O (B9 O (AG (HZ b3 (AF 1 (AL O (AG (AF 1 (AA O (AG (AF 1 (BM O (AG (AF 1 (BM O (AG (AF 1 (BM O (AG (AF 1 (BM O (AG (AF 1 (BM O (AG (AF 1 (BM O ?_))))))))))))))))))))))))))))
   exact AG (AF 1 (AL O (AG (AF 1 (AA O (AG (AF 1 (BM O (AG (AF 1 (BM O (AG (AF 1 (BM O (AG (AF 1 (AL O (AG (AF 1 (AY O (AG (AZ (kp [9,7,6,3,2,1] O) (WF.nil (λaa ww hf hw=>⟨_,_,hf.sub (kp [9,7,6,3,2,1] O),hw,dn,(g0.trans (g1.trans mm)),trivial⟩))))))))))))))))))))))))
  have u:=HE b3 u
  obtain⟨tr,ep,u⟩:=bd u
  obtain⟨ts,eq,u⟩:=bd u
  obtain⟨mp,er,u⟩:=bd u
  have mq:=mZ u
  subst mq
  rcases YP mp with c2|c2
  ·have K:=HG c2 K
   have mr:=mZ K
   subst mr
   refine FO (AF 1 (AA O (AG (AF 1 (BU d (mt (mt (mt (mt mh)))) O O In bs O λtt io=>AG (AF 1 (Hm O io JZ O λtu ip=>AG (AF 1 ?_))))))))
   have ms:=d.epAt (mt (mt (mt (mt mh)))) bt Gd ip
   refine A9 BY (λ_ x=>x) O ms A7 O λtv=>AG (AF 1 (B9 O (AG (HZ ba (AF 1 (AA O (AG (AF 1 (AB O (AA O (AG (AF 1 (AB O (BU d (mt (mt (mt (mt mh)))) O O In b7 O λtw ir=>AG (AF 1 (AB O (Hm O ir Ju O λtx it=>AG (AF 1 (AB O ?_)))))))))))))))))))
   have mu:=d.epAt (mt (mt (mt (mt mh)))) b8 BA.f_Part it
   refine BG BY (λ_ x=>x) O mu CG O λty mv=>AG (G3 O O O (Em (cs:=[vI 10,vI 5]) GK O O O O O O O d λtz t0 iu g2=>G3 O O O ?_))
   have iv:=iu.bxos (r:=AJ) (l:=([10,5]:List Int)) .head ⟨_,_,O,⟨O,(iq (n:=10) O)⟩,⟨_,_,O,⟨O,(iq (n:=5) O)⟩,O⟩⟩ (by simp [maxLen])
   obtain⟨t1,dp,g3,mw⟩:=iv.pubs .head
   refine CJ O O O JW O dp (Bw (St.all _) ((mv.mono' (g2.trans g3)).mono (λb g=>dp.1 b g) (λ_ _=>rfl)) (mw.mono (λb g=>dp.1 b g) (λ_ _=>rfl)) ca) λt2 t3 t4 bv mx t5 p=>?_
   obtain⟨rfl,oz⟩:=p
   refine HZ bu (AF 1 (AL O (AG (AF 1 (AA O (AG (AF 1 (AB O (AA O (AG (AF 1 (AB O (BU bv (mt (mt (mt (mt mh)))) O O In dk O λt6 iw=>AG (AF 1 (AB O (Hm O iw JZ O λt7 iy=>AG (AF 1 (AB O ?_))))))))))))))))))
   have my:=bv.epAt (mt (mt (mt (mt mh)))) dl Gd iy
   refine A9 BY (λ_ x=>x) O my A7 O λt8=>AG (AF 1 (AB O (B9 O (AG (HZ b3 (AF 1 (AL O (AG (AF 1 (AA O (AG (AF 1 (AB O (AA O (AG (AF 1 (AB O (BU bv (mt (mt (mt (mt mh)))) O O In ep O λt9 iz=>AG (AF 1 (AB O (Hm O iz Ju O λua i0=>AG (AF 1 (AB O ?_)))))))))))))))))))))))
   have mz:=bv.epAt (mt (mt (mt (mt mh)))) eq BA.f_Part i0
   refine BG BY (λ_ x=>x) O mz CG O λub m0=>AG (G3 O O O (Em (cs:=[vI 10,vI 5]) GK O O O O O O O bv λuc ud i1 g4=>G3 O O O ?_))
   have i2:=i1.bxos (r:=AJ) (l:=([10,5]:List Int)) .head ⟨_,_,O,⟨O,(iq (n:=10) O)⟩,⟨_,_,O,⟨O,(iq (n:=5) O)⟩,O⟩⟩ (by simp [maxLen])
   obtain⟨ue,dq,g5,m1⟩:=i2.pubs .head
   refine CJ O O O JW O dq (Bw (St.all _) ((m0.mono' (g4.trans g5)).mono (λb g=>dq.1 b g) (λ_ _=>rfl)) (m1.mono (λb g=>dq.1 b g) (λ_ _=>rfl)) er) λuf ug uh i3 m2 ui p=>?_
   obtain⟨rfl,o0⟩:=p
   exact HZ c2 (AF 1 (AL O (AG (AF 1 (AA O (AG (AF 1 (BM O (AG (AF 1 (BM O (AG (AF 1 (BM O (AG (AF 1 (AL O (AG (AF 1 (AY O (AG (AZ (kp [9,7,6,3,2,1] O) (WF.nil (λaa ww hf hw=>⟨_,_,hf.sub (kp [9,7,6,3,2,1] O),hw,i3,(g2.trans (g3.trans (mx.trans (g4.trans (g5.trans m2))))),trivial⟩))))))))))))))))))))))))
  have K:=HE c2 K
  obtain⟨uj,i4,K⟩:=bd K
  have m3:=mZ K
  subst m3
  refine FO (AF 1 (AA O (AG (AF 1 (BU d (mt (mt (mt (mt mh)))) O O In bs O λuk i5=>AG (AF 1 (Hm O i5 JZ O λul i6=>AG (AF 1 ?_))))))))
  have m4:=d.epAt (mt (mt (mt (mt mh)))) bt Gd i6
  refine A9 BY (λ_ x=>x) O m4 A7 O λum=>AG (AF 1 (B9 O (AG (HZ ba (AF 1 (AA O (AG (AF 1 (AB O (AA O (AG (AF 1 (AB O (BU d (mt (mt (mt (mt mh)))) O O In b7 O λun i7=>AG (AF 1 (AB O (Hm O i7 Ju O λuo i8=>AG (AF 1 (AB O ?_)))))))))))))))))))
  have m5:=d.epAt (mt (mt (mt (mt mh)))) b8 BA.f_Part i8
  refine BG BY (λ_ x=>x) O m5 CG O λup m6=>AG (G3 O O O (Em (cs:=[vI 10,vI 5]) GK O O O O O O O d λuq ur i9 g6=>G3 O O O ?_))
  have ja:=i9.bxos (r:=AJ) (l:=([10,5]:List Int)) .head ⟨_,_,O,⟨O,(iq (n:=10) O)⟩,⟨_,_,O,⟨O,(iq (n:=5) O)⟩,O⟩⟩ (by simp [maxLen])
  obtain⟨us,dr,g7,m7⟩:=ja.pubs .head
  refine CJ O O O JW O dr (Bw (St.all _) ((m6.mono' (g6.trans g7)).mono (λb g=>dr.1 b g) (λ_ _=>rfl)) (m7.mono (λb g=>dr.1 b g) (λ_ _=>rfl)) ca) λut uu uv bw m8 uw p=>?_
  obtain⟨rfl,o1⟩:=p
  refine HZ bu (AF 1 (AL O (AG (AF 1 (AA O (AG (AF 1 (AB O (AA O (AG (AF 1 (AB O (BU bw (mt (mt (mt (mt mh)))) O O In dk O λux jb=>AG (AF 1 (AB O (Hm O jb JZ O λuy jc=>AG (AF 1 (AB O ?_))))))))))))))))))
  have m9:=bw.epAt (mt (mt (mt (mt mh)))) dl Gd jc
  refine A9 BY (λ_ x=>x) O m9 A7 O λuz=>AG (AF 1 (AB O (B9 O (AG (HZ b3 (AF 1 (AL O (AG (AF 1 (AA O (AG (AF 1 (AB O (AA O (AG (AF 1 (AB O (BU bw (mt (mt (mt (mt mh)))) O O In ep O λu0 jd=>AG (AF 1 (AB O (Hm O jd Ju O λu1 je=>AG (AF 1 (AB O ?_)))))))))))))))))))))))
  have na:=bw.epAt (mt (mt (mt (mt mh)))) eq BA.f_Part je
  refine BG BY (λ_ x=>x) O na CG O λu2 nb=>AG (G3 O O O (Em (cs:=[vI 10,vI 5]) GK O O O O O O O bw λu3 u4 jf g8=>G3 O O O ?_))
  have jg:=jf.bxos (r:=AJ) (l:=([10,5]:List Int)) .head ⟨_,_,O,⟨O,(iq (n:=10) O)⟩,⟨_,_,O,⟨O,(iq (n:=5) O)⟩,O⟩⟩ (by simp [maxLen])
  obtain⟨u5,ds,g9,nc⟩:=jg.pubs .head
  refine CJ O O O JW O ds (Bw (St.all _) ((nb.mono' (g8.trans g9)).mono (λb g=>ds.1 b g) (λ_ _=>rfl)) (nc.mono (λb g=>ds.1 b g) (λ_ _=>rfl)) er) λu6 u7 u8 jh nd u9 p=>?_
  obtain⟨rfl,o2⟩:=p
  refine HZ c2 (AF 1 (AL O (AG (AF 1 (AA O (AG (AF 1 (AB O (AA O (AG (G3 O O O (Em (cs:=[vI 150]) GK O O O O O O O jh λva vb ji ne=>G3 O O O ?_))))))))))))
  have jj:=ji.bxos (r:=AJ) (l:=([150]:List Int)) .head ⟨_,_,O,⟨O,(iq (n:=150) O)⟩,O⟩ (by simp [maxLen])
  obtain⟨vc,dt,nf,ng⟩:=jj.pubs .head
  refine CJ O O O JW O dt (Bw (St.all _) (dt.oslAll (mt (mt (mt (mt (mt mh)))))) (ng.mono (λb g=>dt.1 b g) (λ_ _=>rfl)) i4) λvd ve vf jk nh vg p=>?_
  obtain⟨rfl,o3⟩:=p
  exact AF 1 (AL O (AG (AF 1 (AY O (AG (AZ (kp [9,7,6,3,2,1] O) (WF.nil (λaa ww hf hw=>⟨_,_,hf.sub (kp [9,7,6,3,2,1] O),hw,jk,(g6.trans (g7.trans (m8.trans (g8.trans (g9.trans (nd.trans (ne.trans (nf.trans nh)))))))),trivial⟩))))))))
 rintro aa ww ⟨ni,nj,hf,hw,C,aj,_⟩
 refine A6 ?_ hf hw
 clear hf hw ww aa
 refine AE ?_
 obtain⟨vh,cb,E⟩:=bd E
 obtain⟨nk,cc,E⟩:=bd E
 obtain⟨vi,ak,E⟩:=bd E
 obtain⟨vj,aq,E⟩:=bd E
 obtain⟨b4,D,E⟩:=bd E
 refine HN (λa w=>IV B ni nj (176,[]) a w [(10,.bool b4),(9,.bool a9),(7,cu),(6,vP cv 0),(3,vP b2 0),(2,vP ei 0),(1,vP b9 0)] (Bx cv 36 [vI z.1.B,cw,cx,cy,cz,c0,c1]::OS CF 50 cu z.2.1::OS AJ 3 en z.2.2::Bx b2 36 [vI j.1.B,a3,a4,a5,a6,a7,a8]::OS CF 50 ek j.2.1::OS AJ 3 el j.2.2::Bx ei 36 [vI ah.B,bk,bl,bm,bn,bo,bp]::Bx b9 31 [.string y1.F,bb,vI y1.R,bc,be,bf,bg,bh,bi,bj,vI y1.U]::L) λ_ _=>True) ?_ ?_
 ·rcases YP nk with bx|bx
  ·have ak:=HG bx ak
   have nl:=mZ ak
   subst nl
   have nm:=mZ aq
   subst nm
   have nn:=mZ D
   subst nn
   refine FO (AF 1 (AD Eo O (AG (AF 1 (AS BY C O (mt (mt (mt mh))) O Hz O (AG (AF 1 (Bz O O (av.mono' (Q.trans (V.trans (W.trans (ag.trans (ae.trans (X.trans aj))))))) Fx cb O λvk no=>AG (AF 1 (BG BY C.1 O no CG O λvl np=>AG (Em (cs:=[vI 80,vI 40]) GK O O O O O O O C λvm vn jl ha=>?_)))))))))))
   have jm:=jl.bxos (r:=AJ) (l:=([80,40]:List Int)) .head ⟨_,_,O,⟨O,(iq (n:=80) O)⟩,⟨_,_,O,⟨O,(iq (n:=40) O)⟩,O⟩⟩ (by simp [maxLen])
   obtain⟨vo,du,hc,nq⟩:=jm.pubs .head
   refine CJ O O O JW O du (Bw (St.all _) ((np.mono' (ha.trans hc)).mono (λb g=>du.1 b g) (λ_ _=>rfl)) (nq.mono (λb g=>du.1 b g) (λ_ _=>rfl)) cc) λvp vq vr jn nr vt p=>?_
   obtain⟨rfl,o4⟩:=p
   refine HZ bx (AF 1 (AA O (AG (AF 1 (BM O (AG (AF 1 (BM O (AG (AF 1 (BM O (AG (AF 1 (BM O (AG (AF 1 (AL O (AG (AF 1 (AA O (AG (AF 1 (BM O (AG (AF 1 (BM O (AG (AF 1 (BM O ?_)))))))))))))))))))))))))))))
   exact AG (AF 1 (AL O (AG (AF 1 (AA O (AG (AF 1 (BM O (AG (AF 1 (BM O (AG (AF 1 (BM O (AG (AF 1 (BM O (AG (AF 1 (AL O (AG (AF 1 (AY O (AG (AZ (kp [10,9,7,6,3,2,1] O) (WF.nil (λaa ww hf hw=>⟨_,_,hf.sub (kp [10,9,7,6,3,2,1] O),hw,jn,(ha.trans (hc.trans nr)),trivial⟩)))))))))))))))))))))))))))
  have ak:=HE bx ak
  obtain⟨ns,dv,ak⟩:=bd ak
  have nt:=mZ ak
  subst nt
  rcases YP ns with b5|b5
  ·have aq:=HG b5 aq
   have nu:=mZ aq
   subst nu
   have nv:=mZ D
   subst nv
   refine FO (AF 1 (AD Eo O (AG (AF 1 (AS BY C O (mt (mt (mt mh))) O Hz O (AG (AF 1 ?_)))))))
   have es:=Q.trans (V.trans (W.trans (ag.trans (ae.trans (X.trans aj)))))
   refine Bz O O (av.mono' es) Fx cb O λvu nw=>AG (AF 1 (BG BY C.1 O nw CG O λvv nx=>AG (Em (cs:=[vI 80,vI 40]) GK O O O O O O O C λvw vx jo et=>?_)))
   have jp:=jo.bxos (r:=AJ) (l:=([80,40]:List Int)) .head ⟨_,_,O,⟨O,(iq (n:=80) O)⟩,⟨_,_,O,⟨O,(iq (n:=40) O)⟩,O⟩⟩ (by simp [maxLen])
   obtain⟨vy,dw,eu,ny⟩:=jp.pubs .head
   refine CJ O O O JW O dw (Bw (St.all _) ((nx.mono' (et.trans eu)).mono (λb g=>dw.1 b g) (λ_ _=>rfl)) (ny.mono (λb g=>dw.1 b g) (λ_ _=>rfl)) cc) λvz v0 v3 ev hd v4 p=>?_
   obtain⟨rfl,o5⟩:=p
   refine HZ bx (AF 1 (AA O (AG (AF 1 (AB O (AD Jv O (AG (AF 1 (AB O (AS BY ev O (mt (mt (mt mh))) O CG O (AG (G3 O O O (Em (cs:=[vI 20,vI 10]) GK O O O O O O O ev λv5 v6 jq he=>G3 O O O ?_)))))))))))))
   have jr:=jq.bxos (r:=AJ) (l:=([20,10]:List Int)) .head ⟨_,_,O,⟨O,(iq (n:=20) O)⟩,⟨_,_,O,⟨O,(iq (n:=10) O)⟩,O⟩⟩ (by simp [maxLen])
   obtain⟨v7,dx,hg,nz⟩:=jr.pubs .head
   refine CJ O O O JW O dx (Bw (St.all _) ((br.mono' (es.trans (et.trans (eu.trans (hd.trans (he.trans hg)))))).mono (λb g=>dx.1 b g) (λ_ _=>rfl)) (nz.mono (λb g=>dx.1 b g) (λ_ _=>rfl)) dv) λv8 v9 wa js n0 wb p=>?_
   obtain⟨rfl,o6⟩:=p
   refine HZ b5 (AF 1 (AL O (AG (AF 1 (AA O (AG (AF 1 (BM O (AG (AF 1 (BM O (AG (AF 1 (BM O (AG (AF 1 (AL O (AG (AF 1 (AA O (AG (AF 1 (BM O (AG (AF 1 (BM O (AG (AF 1 (BM O ?_)))))))))))))))))))))))))))))
   exact AG (AF 1 (BM O (AG (AF 1 (AL O (AG (AF 1 (AY O (AG (AZ (kp [10,9,7,6,3,2,1] O) (WF.nil (λaa ww hf hw=>⟨_,_,hf.sub (kp [10,9,7,6,3,2,1] O),hw,js,(et.trans (eu.trans (hd.trans (he.trans (hg.trans n0))))),trivial⟩))))))))))))
  have aq:=HE b5 aq
  have n1:=mZ aq
  subst n1
  rcases YP (decide (j.1.B=6)) with c3|c3
  ·have D:=HG c3 D
   have n2:=mZ D
   subst n2
   refine FO (AF 1 (AD Eo O (AG (AF 1 (AS BY C O (mt (mt (mt mh))) O Hz O (AG (AF 1 ?_)))))))
   have ew:=Q.trans (V.trans (W.trans (ag.trans (ae.trans (X.trans aj)))))
   refine Bz O O (av.mono' ew) Fx cb O λwc n3=>AG (AF 1 (BG BY C.1 O n3 CG O λwd n4=>AG (Em (cs:=[vI 80,vI 40]) GK O O O O O O O C λwe wf jt ey=>?_)))
   have ju:=jt.bxos (r:=AJ) (l:=([80,40]:List Int)) .head ⟨_,_,O,⟨O,(iq (n:=80) O)⟩,⟨_,_,O,⟨O,(iq (n:=40) O)⟩,O⟩⟩ (by simp [maxLen])
   obtain⟨wg,dy,ez,n5⟩:=ju.pubs .head
   refine CJ O O O JW O dy (Bw (St.all _) ((n4.mono' (ey.trans ez)).mono (λb g=>dy.1 b g) (λ_ _=>rfl)) (n5.mono (λb g=>dy.1 b g) (λ_ _=>rfl)) cc) λwh wi wj e0 hh wk p=>?_
   obtain⟨rfl,o7⟩:=p
   refine HZ bx (AF 1 (AA O (AG (AF 1 (AB O (AD Jv O (AG (AF 1 (AB O (AS BY e0 O (mt (mt (mt mh))) O CG O (AG (G3 O O O (Em (cs:=[vI 20,vI 10]) GK O O O O O O O e0 λwl wm jv hi=>G3 O O O ?_)))))))))))))
   have jw:=jv.bxos (r:=AJ) (l:=([20,10]:List Int)) .head ⟨_,_,O,⟨O,(iq (n:=20) O)⟩,⟨_,_,O,⟨O,(iq (n:=10) O)⟩,O⟩⟩ (by simp [maxLen])
   obtain⟨wn,dz,hj,n6⟩:=jw.pubs .head
   refine CJ O O O JW O dz (Bw (St.all _) ((br.mono' (ew.trans (ey.trans (ez.trans (hh.trans (hi.trans hj)))))).mono (λb g=>dz.1 b g) (λ_ _=>rfl)) (n6.mono (λb g=>dz.1 b g) (λ_ _=>rfl)) dv) λwo wp wq e1 n7 wr p=>?_
   obtain⟨rfl,o8⟩:=p
   refine HZ b5 (AF 1 (AL O (AG (AF 1 (AA O (AG (AF 1 (AB O (AD H0 O (AG (AF 1 (AB O (AS BY e1 O (mt (mt (mt mh))) O A7 O (AG (AF 1 (AB O (B9 O (AG (HZ c3 (AF 1 (AL O (AG (AF 1 (AA O (AG (AF 1 (BM O (AG (AF 1 ?_)))))))))))))))))))))))))))))
   exact BM O (AG (AF 1 (BM O (AG (AF 1 (BM O (AG (AF 1 (AL O (AG (AF 1 (AY O (AG (AZ (kp [10,9,7,6,3,2,1] O) (WF.nil (λaa ww hf hw=>⟨_,_,hf.sub (kp [10,9,7,6,3,2,1] O),hw,e1,(ey.trans (ez.trans (hh.trans (hi.trans (hj.trans n7))))),trivial⟩))))))))))))))))
  have D:=HE c3 D
  obtain⟨ws,jx,D⟩:=bd D
  obtain⟨wt,jy,D⟩:=bd D
  have n8:=mZ D
  subst n8
  refine FO (AF 1 (AD Eo O (AG (AF 1 (AS BY C O (mt (mt (mt mh))) O Hz O (AG (AF 1 ?_)))))))
  have e2:=Q.trans (V.trans (W.trans (ag.trans (ae.trans (X.trans aj)))))
  refine Bz O O (av.mono' e2) Fx cb O λwu n9=>AG (AF 1 (BG BY C.1 O n9 CG O λwv oa=>AG (Em (cs:=[vI 80,vI 40]) GK O O O O O O O C λwx wy jz e3=>?_)))
  have j0:=jz.bxos (r:=AJ) (l:=([80,40]:List Int)) .head ⟨_,_,O,⟨O,(iq (n:=80) O)⟩,⟨_,_,O,⟨O,(iq (n:=40) O)⟩,O⟩⟩ (by simp [maxLen])
  obtain⟨wz,d0,e4,ob⟩:=j0.pubs .head
  refine CJ O O O JW O d0 (Bw (St.all _) ((oa.mono' (e3.trans e4)).mono (λb g=>d0.1 b g) (λ_ _=>rfl)) (ob.mono (λb g=>d0.1 b g) (λ_ _=>rfl)) cc) λw0 w1 w2 e6 hk w3 p=>?_
  obtain⟨rfl,o9⟩:=p
  refine HZ bx (AF 1 (AA O (AG (AF 1 (AB O (AD Jv O (AG (AF 1 (AB O (AS BY e6 O (mt (mt (mt mh))) O CG O (AG (G3 O O O (Em (cs:=[vI 20,vI 10]) GK O O O O O O O e6 λw4 w5 j1 hl=>G3 O O O ?_)))))))))))))
  have j2:=j1.bxos (r:=AJ) (l:=([20,10]:List Int)) .head ⟨_,_,O,⟨O,(iq (n:=20) O)⟩,⟨_,_,O,⟨O,(iq (n:=10) O)⟩,O⟩⟩ (by simp [maxLen])
  obtain⟨w6,d1,hm,oc⟩:=j2.pubs .head
  have ar:=e2.trans (e3.trans (e4.trans (hk.trans (hl.trans hm))))
  refine CJ O O O JW O d1 (Bw (St.all _) ((br.mono' ar).mono (λb g=>d1.1 b g) (λ_ _=>rfl)) (oc.mono (λb g=>d1.1 b g) (λ_ _=>rfl)) dv) λw7 w8 w9 ad bz xa p=>?_
  obtain⟨rfl,pa⟩:=p
  refine HZ b5 (AF 1 (AL O (AG (AF 1 (AA O (AG (AF 1 (AB O (AD H0 O (AG (AF 1 (AB O (AS BY ad O (mt (mt (mt mh))) O A7 O (AG (AF 1 (AB O (B9 O (AG (HZ c3 (AF 1 (AL O (AG (AF 1 (AA O (AG (AF 1 (AB O (EH (vs:=[vI j.1.B,a3,a4,a5,a6,a7,a8]) BY ad O (mt (mt (mt mh))) O O Hs O O (AG ?_)))))))))))))))))))))))))))))
  refine G3 O O O (CJ O O O jU O ad (Px (St.all _) (C3.mk (x:=j.1) em ((av.mono' (ar.trans bz)).mono (λb g=>ad.1 b g) (λ_ _=>rfl)) ((d8.mono' (ar.trans bz)).mono (λb g=>ad.1 b g) (λ_ _=>rfl)) ((d9.mono' (ar.trans bz)).mono (λb g=>ad.1 b g) (λ_ _=>rfl)) ((ea.mono' (ar.trans bz)).mono (λb g=>ad.1 b g) (λ_ _=>rfl)) ((eb.mono' (ar.trans bz)).mono (λb g=>ad.1 b g) (λ_ _=>rfl)) ((br.mono' (ar.trans bz)).mono (λb g=>ad.1 b g) (λ_ _=>rfl))) jx) λxb xc xd pb od oe p=>?_)
  have j3:=p
  have e7:=ad.join oe j3 ⟨OS.flat (λ{_ _ _ _ _ _} k=>k),trivial⟩
  simp only[oG,nX] at e7
  refine G3 O O O (Em (cs:=[vI 80,vI 40]) GK O O O O O O O e7 λxe xf j4 og=>G3 O O O ?_)
  have j5:=j4.bxos (r:=AJ) (l:=([80,40]:List Int)) .head ⟨_,_,O,⟨O,(iq (n:=80) O)⟩,⟨_,_,O,⟨O,(iq (n:=40) O)⟩,O⟩⟩ (by simp [maxLen])
  obtain⟨xg,d2,oh,oi⟩:=j5.pubs .head
  refine CJ O O O JW O d2 (Bw (St.all _) (d2.oslAll mh) (oi.mono (λb g=>d2.1 b g) (λ_ _=>rfl)) jy) λxh xi xj j6 oj xk p=>?_
  obtain⟨rfl,pc⟩:=p
  refine AF 1 (AL O (AG (AF 1 (AY O (AG (AZ (kp [10,9,7,6,3,2,1] O) ?_))))))
  have j7:=j6.sel [1,1,1,1,1,1,1,1] 1 O
  exact WF.nil (λaa ww hf hw=>⟨_,_,hf.sub (kp [10,9,7,6,3,2,1] O),hw,j7,(e3.trans (e4.trans (hk.trans (hl.trans (hm.trans (bz.trans (od.trans (og.trans (oh.trans oj))))))))),trivial⟩)
 rintro aa ww ⟨hn,ho,hf,hw,m,b0,_⟩
 refine A6 ?_ hf hw
 clear hf hw ww aa
 refine AE ?_
 obtain⟨xl,cd,E⟩:=bd E
 obtain⟨ok,ce,E⟩:=bd E
 obtain⟨xm,H,E⟩:=bd E
 obtain⟨xn,y,E⟩:=bd E
 obtain⟨d3,s,E⟩:=bd E
 refine HN (λa w=>IV B hn ho (176,[]) a w [(11,.bool d3),(10,.bool b4),(9,.bool a9),(3,vP b2 0),(2,vP ei 0),(1,vP b9 0)] (Bx cv 36 [vI z.1.B,cw,cx,cy,cz,c0,c1]::OS CF 50 cu z.2.1::OS AJ 3 en z.2.2::Bx b2 36 [vI j.1.B,a3,a4,a5,a6,a7,a8]::OS CF 50 ek j.2.1::OS AJ 3 el j.2.2::Bx ei 36 [vI ah.B,bk,bl,bm,bn,bo,bp]::Bx b9 31 [.string y1.F,bb,vI y1.R,bc,be,bf,bg,bh,bi,bj,vI y1.U]::L) λ_ _=>True) ?_ ?_
 ·rcases YP (decide (ok.Bf=(-3))) with au|au
  ·have H:=HG au H
   have j8:=mZ H
   subst j8
   have j9:=mZ y
   subst j9
   have ka:=mZ s
   subst ka
   refine FO (AF 1 (AA O (AG (AF 1 (BU m (mt mh) O O In cd O λpd fo=>AG (AF 1 (Hm O fo JZ O λpe fp=>AG (AF 1 ?_))))))))
   have kb:=m.epAt (mt mh) ce Gd fp
   refine A9 BY (λ_ x=>x) O kb A7 O λpf=>AG (AF 1 (B9 O (AG (HZ au (AF 1 (AA O (AG (AF 1 (BM O (AG (AF 1 (BM O (AG (AF 1 (BM O (AG (AF 1 (BM O (AG (AF 1 (BM O (AG (AF 1 (BM O (AG (AF 1 (AL O (AG ?_))))))))))))))))))))))))))))
   refine AF 1 (AA O (AG (AF 1 (BM O (AG (AF 1 (BM O (AG (AF 1 (BM O (AG (AF 1 (BM O (AG (AF 1 (BM O (AG (AF 1 (BM O (AG (AF 1 (AL O (AG (AF 1 (AA O (AG (AF 1 (BM O (AG ?_)))))))))))))))))))))))))))))
   exact AF 1 (BM O (AG (AF 1 (BM O (AG (AF 1 (BM O (AG (AF 1 (BM O (AG (AF 1 (BM O (AG (AF 1 (AL O (AG (AF 1 (AY O (AG (AZ (kp [11,10,9,3,2,1] O) (WF.nil (λaa ww hf hw=>⟨_,_,hf.sub (kp [11,10,9,3,2,1] O),hw,m,(Cv.refl hn ho),trivial⟩)))))))))))))))))))))))
  have H:=HE au H
  obtain⟨pg,cf,H⟩:=bd H
  obtain⟨ph,cg,H⟩:=bd H
  obtain⟨kc,ch,H⟩:=bd H
  have kd:=mZ H
  subst kd
  rcases YP kc with ax|ax
  ·have y:=HG ax y
   have ke:=mZ y
   subst ke
   have kf:=mZ s
   subst kf
   refine FO (AF 1 (AA O (AG (AF 1 (BU m (mt mh) O O In cd O λpi fq=>AG (AF 1 (Hm O fq JZ O λpj fr=>AG (AF 1 ?_))))))))
   have kg:=m.epAt (mt mh) ce Gd fr
   refine A9 BY (λ_ x=>x) O kg A7 O λpk=>AG (AF 1 (B9 O (AG (HZ au (AF 1 (AA O (AG (AF 1 (AB O (AA O (AG (AF 1 (AB O (BU m (mt mh) O O In cf O λpl fs=>AG (AF 1 (AB O (Hm O fs Ju O λpm ft=>AG (AF 1 (AB O ?_)))))))))))))))))))
   have kh:=m.epAt (mt mh) cg BA.f_Part ft
   refine BG BY (λ_ x=>x) O kh CG O λpn ki=>AG (G3 O O O (Em (cs:=[vI 0,vI 50]) GK O O O O O O O m λpo pp fu e8=>G3 O O O ?_))
   have fv:=fu.bxos (r:=AJ) (l:=([0,50]:List Int)) .head ⟨_,_,O,⟨O,(iq (n:=0) O)⟩,⟨_,_,O,⟨O,(iq (n:=50) O)⟩,O⟩⟩ (by simp [maxLen])
   obtain⟨pq,ci,e9,kj⟩:=fv.pubs .head
   refine CJ O O O JW O ci (Bw (St.all _) ((ki.mono' (e8.trans e9)).mono (λb g=>ci.1 b g) (λ_ _=>rfl)) (kj.mono (λb g=>ci.1 b g) (λ_ _=>rfl)) ch) λpr ps pt fw kk pu p=>?_
   obtain⟨rfl,ol⟩:=p
   refine HZ ax (AF 1 (AL O (AG (AF 1 (AA O (AG (AF 1 (BM O (AG (AF 1 (BM O (AG (AF 1 (BM O (AG (AF 1 (BM O (AG (AF 1 (BM O (AG (AF 1 (BM O (AG (AF 1 (AL O (AG (AF 1 (AA O ?_)))))))))))))))))))))))))))))
   exact AG (AF 1 (BM O (AG (AF 1 (BM O (AG (AF 1 (BM O (AG (AF 1 (BM O (AG (AF 1 (BM O (AG (AF 1 (BM O (AG (AF 1 (AL O (AG (AF 1 (AY O (AG (AZ (kp [11,10,9,3,2,1] O) (WF.nil (λaa ww hf hw=>⟨_,_,hf.sub (kp [11,10,9,3,2,1] O),hw,fw,(e8.trans (e9.trans kk)),trivial⟩)))))))))))))))))))))))))))
  have y:=HE ax y
  obtain⟨pv,ec,y⟩:=bd y
  obtain⟨pw,ed,y⟩:=bd y
  obtain⟨kl,ee,y⟩:=bd y
  have km:=mZ y
  subst km
  rcases YP kl with b1|b1
  ·have s:=HG b1 s
   have kn:=mZ s
   subst kn
   refine FO (AF 1 (AA O (AG (AF 1 (BU m (mt mh) O O In cd O λpx fx=>AG (AF 1 (Hm O fx JZ O λpy fy=>AG (AF 1 ?_))))))))
   have ko:=m.epAt (mt mh) ce Gd fy
   refine A9 BY (λ_ x=>x) O ko A7 O λpz=>AG (AF 1 (B9 O (AG (HZ au (AF 1 (AA O (AG (AF 1 (AB O (AA O (AG (AF 1 (AB O (BU m (mt mh) O O In cf O λp0 fz=>AG (AF 1 (AB O (Hm O fz Ju O λp1 f0=>AG (AF 1 (AB O ?_)))))))))))))))))))
   have kq:=m.epAt (mt mh) cg BA.f_Part f0
   refine BG BY (λ_ x=>x) O kq CG O λp2 kr=>AG (G3 O O O (Em (cs:=[vI 0,vI 50]) GK O O O O O O O m λp3 p4 f1 fa=>G3 O O O ?_))
   have f2:=f1.bxos (r:=AJ) (l:=([0,50]:List Int)) .head ⟨_,_,O,⟨O,(iq (n:=0) O)⟩,⟨_,_,O,⟨O,(iq (n:=50) O)⟩,O⟩⟩ (by simp [maxLen])
   obtain⟨p5,cj,fb,ks⟩:=f2.pubs .head
   refine CJ O O O JW O cj (Bw (St.all _) ((kr.mono' (fa.trans fb)).mono (λb g=>cj.1 b g) (λ_ _=>rfl)) (ks.mono (λb g=>cj.1 b g) (λ_ _=>rfl)) ch) λp6 p7 p8 ck kt p9 p=>?_
   obtain⟨rfl,om⟩:=p
   refine HZ ax (AF 1 (AL O (AG (AF 1 (AA O (AG (AF 1 (AB O (AA O (AG (AF 1 (AB O (BU ck (mt mh) O O In ec O λqa f3=>AG (AF 1 (AB O (Hm O f3 Ju O λqb f4=>AG (AF 1 (AB O ?_))))))))))))))))))
   have ku:=ck.epAt (mt mh) ed BA.f_Part f4
   refine BG BY (λ_ x=>x) O ku CG O λqc kv=>AG (G3 O O O (Em (cs:=[vI 15,vI 0]) GK O O O O O O O ck λqd qe f5 fc=>G3 O O O ?_))
   have f6:=f5.bxos (r:=AJ) (l:=([15,0]:List Int)) .head ⟨_,_,O,⟨O,(iq (n:=15) O)⟩,⟨_,_,O,⟨O,(iq (n:=0) O)⟩,O⟩⟩ (by simp [maxLen])
   obtain⟨qf,cl,fd,kw⟩:=f6.pubs .head
   refine CJ O O O JW O cl (Bw (St.all _) ((kv.mono' (fc.trans fd)).mono (λb g=>cl.1 b g) (λ_ _=>rfl)) (kw.mono (λb g=>cl.1 b g) (λ_ _=>rfl)) ee) λqg qh qi f7 kx qj p=>?_
   obtain⟨rfl,oo⟩:=p
   refine HZ b1 (AF 1 (AL O (AG (AF 1 (AA O (AG (AF 1 (BM O (AG (AF 1 (BM O (AG (AF 1 (BM O (AG (AF 1 (BM O (AG (AF 1 (BM O (AG (AF 1 (BM O (AG (AF 1 (AL O (AG (AF 1 (AY O ?_)))))))))))))))))))))))))))))
   exact AG (AZ (kp [11,10,9,3,2,1] O) (WF.nil (λaa ww hf hw=>⟨_,_,hf.sub (kp [11,10,9,3,2,1] O),hw,f7,(fa.trans (fb.trans (kt.trans (fc.trans (fd.trans kx))))),trivial⟩)))
  have s:=HE b1 s
  obtain⟨qk,f8,s⟩:=bd s
  obtain⟨ql,f9,s⟩:=bd s
  have ky:=mZ s
  subst ky
  refine FO (AF 1 (AA O (AG (AF 1 (BU m (mt mh) O O In cd O λqm ga=>AG (AF 1 (Hm O ga JZ O λqn gb=>AG (AF 1 ?_))))))))
  have kz:=m.epAt (mt mh) ce Gd gb
  refine A9 BY (λ_ x=>x) O kz A7 O λqo=>AG (AF 1 (B9 O (AG (HZ au (AF 1 (AA O (AG (AF 1 (AB O (AA O (AG (AF 1 (AB O (BU m (mt mh) O O In cf O λqp gc=>AG (AF 1 (AB O (Hm O gc Ju O λqq gd=>AG (AF 1 (AB O ?_)))))))))))))))))))
  have k0:=m.epAt (mt mh) cg BA.f_Part gd
  refine BG BY (λ_ x=>x) O k0 CG O λqr k1=>AG (G3 O O O (Em (cs:=[vI 0,vI 50]) GK O O O O O O O m λqs qt ge d4=>G3 O O O ?_))
  have gf:=ge.bxos (r:=AJ) (l:=([0,50]:List Int)) .head ⟨_,_,O,⟨O,(iq (n:=0) O)⟩,⟨_,_,O,⟨O,(iq (n:=50) O)⟩,O⟩⟩ (by simp [maxLen])
  obtain⟨qu,cm,d5,k2⟩:=gf.pubs .head
  refine CJ O O O JW O cm (Bw (St.all _) ((k1.mono' (d4.trans d5)).mono (λb g=>cm.1 b g) (λ_ _=>rfl)) (k2.mono (λb g=>cm.1 b g) (λ_ _=>rfl)) ch) λqv qw qx cn fe qy p=>?_
  obtain⟨rfl,op⟩:=p
  refine HZ ax (AF 1 (AL O (AG (AF 1 (AA O (AG (AF 1 (AB O (AA O (AG (AF 1 (AB O (BU cn (mt mh) O O In ec O λq0 gg=>AG (AF 1 (AB O (Hm O gg Ju O λq1 gh=>AG (AF 1 (AB O ?_))))))))))))))))))
  have k3:=cn.epAt (mt mh) ed BA.f_Part gh
  refine BG BY (λ_ x=>x) O k3 CG O λq2 k4=>AG (G3 O O O (Em (cs:=[vI 15,vI 0]) GK O O O O O O O cn λq3 q4 gi d6=>G3 O O O ?_))
  have gj:=gi.bxos (r:=AJ) (l:=([15,0]:List Int)) .head ⟨_,_,O,⟨O,(iq (n:=15) O)⟩,⟨_,_,O,⟨O,(iq (n:=0) O)⟩,O⟩⟩ (by simp [maxLen])
  obtain⟨q5,co,d7,k5⟩:=gj.pubs .head
  refine CJ O O O JW O co (Bw (St.all _) ((k4.mono' (d6.trans d7)).mono (λb g=>co.1 b g) (λ_ _=>rfl)) (k5.mono (λb g=>co.1 b g) (λ_ _=>rfl)) ee) λq6 q7 q8 cp ff q9 p=>?_
  obtain⟨rfl,oq⟩:=p
  refine HZ b1 (AF 1 (AL O (AG (AF 1 (AA O (AG (AF 1 (AB O (AD Eo O (AG (AF 1 (AB O (AS BY cp O mh O Hz O (AG (AF 1 (AB O (Bz O O (eo.mono' (X.trans (aj.trans (b0.trans (d4.trans (d5.trans (fe.trans (d6.trans (d7.trans ff))))))))) Fx f8 O λra k6=>AG (AF 1 (AB O (BG BY cp.1 O k6 CG O λrd k8=>AG (G3 O O O (Em (cs:=[vI 85,vI 0]) GK O O O O O O O cp λre rf gl fg=>G3 O O O ?_))))))))))))))))))))))
  have gm:=gl.bxos (r:=AJ) (l:=([85,0]:List Int)) .head ⟨_,_,O,⟨O,(iq (n:=85) O)⟩,⟨_,_,O,⟨O,(iq (n:=0) O)⟩,O⟩⟩ (by simp [maxLen])
  obtain⟨rg,cq,fh,k9⟩:=gm.pubs .head
  refine CJ O O O JW O cq (Bw (St.all _) ((k8.mono' (fg.trans fh)).mono (λb g=>cq.1 b g) (λ_ _=>rfl)) (k9.mono (λb g=>cq.1 b g) (λ_ _=>rfl)) f9) λrh ri rj gn la rk p=>?_
  obtain⟨rfl,os⟩:=p
  exact AF 1 (AL O (AG (AF 1 (AY O (AG (AZ (kp [11,10,9,3,2,1] O) (WF.nil (λaa ww hf hw=>⟨_,_,hf.sub (kp [11,10,9,3,2,1] O),hw,gn,(d4.trans (d5.trans (fe.trans (d6.trans (d7.trans (ff.trans (fg.trans (fh.trans la)))))))),trivial⟩))))))))
 rintro aa ww ⟨rm,rn,hf,hw,c,ay,_⟩
 refine A6 ?_ hf hw
 clear hf hw ww aa
 refine AE (CX (.inl O) c (AA O (AA O (AW 2 156 (.bool (a9&&b4)) ?_ ?_))))
 ·cases ro:a9
  ·exact A3 O O
  exact AB O (AA O (AL O (AV O)))
 refine AA O (AW 2 159 (.bool ((a9&&b4)&&d3)) ?_ ?_)
 ·cases rp:(a9&&b4)
  ·exact A3 O O
  exact AB O (AA O (AL O (AV O)))
 refine AA O ?_
 obtain⟨fi,Y,E⟩:=bd E
 refine AW 4 164 (.bool fi) ?_ ?_
 ·cases fj:((a9&&b4)&&d3)
  ·have Y:=HG fj Y
   cases Y
   exact A3 O O
  have Y:=HE fj Y
  refine AB O (EH (vs:=[vI ah.B,bk,bl,bm,bn,bo,bp]) CL c O (mt (mt (mt (mt (mt (mt mh)))))) O O Hs O O (AB O (EH (vs:=[vI ah.B,bk,bl,bm,bn,bo,bp]) CL c O (mt (mt (mt (mt (mt (mt mh)))))) O O Hs O O (AB O ?_))))
  have t:=I.trans (M.trans (bq.trans (a2.trans (Q.trans (V.trans (W.trans (ag.trans (ae.trans (X.trans (aj.trans (b0.trans ay)))))))))))
  obtain⟨rq,gp,Y⟩:=bd Y
  refine BR O O O aV O (λh' o=>Nh (St.all h') (C3.mk (x:=ah) ej ((ct.mono' t).mono' (o.all c.1)) ((dd.mono' t).mono' (o.all c.1)) ((de.mono' t).mono' (o.all c.1)) ((df.mono' t).mono' (o.all c.1)) ((dg.mono' t).mono' (o.all c.1)) ((dh.mono' t).mono' (o.all c.1))) (C3.mk (x:=ah) ej ((ct.mono' t).mono' (o.all c.1)) ((dd.mono' t).mono' (o.all c.1)) ((de.mono' t).mono' (o.all c.1)) ((df.mono' t).mono' (o.all c.1)) ((dg.mono' t).mono' (o.all c.1)) ((dh.mono' t).mono' (o.all c.1))) gp) (AL O ?_)
  cases Y
  exact AV O
 refine AA O ?_
 obtain⟨fk,Z,E⟩:=bd E
 refine AW 5 170 (.bool fk) ?_ ?_
 ·cases fl:fi
  ·have Z:=HG fl Z
   cases Z
   exact A3 O O
  have Z:=HE fl Z
  refine AB O (EH (vs:=[vI ah.B,bk,bl,bm,bn,bo,bp]) CL c O (mt (mt (mt (mt (mt (mt mh)))))) O O Hs O O (AB O (EH (vs:=[vI j.1.B,a3,a4,a5,a6,a7,a8]) CL c O (mt (mt (mt mh))) O O Hs O O (AB O ?_))))
  have am:=I.trans (M.trans (bq.trans (a2.trans (Q.trans (V.trans (W.trans (ag.trans (ae.trans (X.trans (aj.trans (b0.trans ay)))))))))))
  have an:=Q.trans (V.trans (W.trans (ag.trans (ae.trans (X.trans (aj.trans (b0.trans ay)))))))
  obtain⟨rr,gq,Z⟩:=bd Z
  refine BR O O O aV O (λh' o=>Nh (St.all h') (C3.mk (x:=ah) ej ((ct.mono' am).mono' (o.all c.1)) ((dd.mono' am).mono' (o.all c.1)) ((de.mono' am).mono' (o.all c.1)) ((df.mono' am).mono' (o.all c.1)) ((dg.mono' am).mono' (o.all c.1)) ((dh.mono' am).mono' (o.all c.1))) (C3.mk (x:=j.1) em ((av.mono' an).mono' (o.all c.1)) ((d8.mono' an).mono' (o.all c.1)) ((d9.mono' an).mono' (o.all c.1)) ((ea.mono' an).mono' (o.all c.1)) ((eb.mono' an).mono' (o.all c.1)) ((br.mono' an).mono' (o.all c.1))) gq) (AB O (CE O (AL O ?_)))
  cases Z
  exact AV O
 refine AA O ?_
 obtain⟨lb,ab,E⟩:=bd E
 refine AW 4 175 (.bool lb) ?_ ?_
 ·cases fm:fk
  ·have ab:=HG fm ab
   cases ab
   exact A3 O O
  have ab:=HE fm ab
  refine AB O (EH (vs:=[.string y1.F,bb,vI y1.R,bc,be,bf,bg,bh,bi,bj,vI y1.U]) CL c O (mt (mt (mt (mt (mt (mt (mt mh))))))) O O HS O O (AB O (EH (vs:=[vI j.1.B,a3,a4,a5,a6,a7,a8]) CL c O (mt (mt (mt mh))) O O Hs O O (AB O ?_))))
  have ac:=ap.trans (dc.trans (cr.trans (I.trans (M.trans (bq.trans (a2.trans (Q.trans (V.trans (W.trans (ag.trans (ae.trans (X.trans (aj.trans (b0.trans ay))))))))))))))
  have ao:=Q.trans (V.trans (W.trans (ag.trans (ae.trans (X.trans (aj.trans (b0.trans ay)))))))
  obtain⟨rs,gr,ab⟩:=bd ab
  refine BR O O O Ty O (λh' o=>I7 (St.all h') (CZ.mk (x:=y1) ef ((c4.mono' ac).mono' (o.all c.1)) eg ((c5.mono' ac).mono' (o.all c.1)) ((c6.mono' ac).mono' (o.all c.1)) ((c7.mono' ac).mono' (o.all c.1)) ((c8.mono' ac).mono' (o.all c.1)) ((c9.mono' ac).mono' (o.all c.1)) ((da.mono' ac).mono' (o.all c.1)) ((db.mono' ac).mono' (o.all c.1)) eh) (C3.mk (x:=j.1) em ((av.mono' ao).mono' (o.all c.1)) ((d8.mono' ao).mono' (o.all c.1)) ((d9.mono' ao).mono' (o.all c.1)) ((ea.mono' ao).mono' (o.all c.1)) ((eb.mono' ao).mono' (o.all c.1)) ((br.mono' ao).mono' (o.all c.1))) gr) (AL O ?_)
  cases ab
  exact AV O
 refine AY O (B3 (kp [0] O) λrt gs lc=>A5 (λaa ww hf hw=>?_))
 have gt:=gs.sel [] 8 O
 cases E
 exact Ee hf hw O O (e5.trans (fn.trans (ap.trans (dc.trans (cr.trans (I.trans (M.trans (bq.trans (a2.trans (Q.trans (V.trans (W.trans (ag.trans (ae.trans (X.trans (aj.trans (b0.trans (ay.trans lc)))))))))))))))))) ⟨O,gt⟩
end Go.Proofs.YtblcgjadhemlbaaGreat
