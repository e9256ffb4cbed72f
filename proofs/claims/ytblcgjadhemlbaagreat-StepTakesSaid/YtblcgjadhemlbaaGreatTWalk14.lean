import Derived.Test.YtblcgjadhemlbaaGreatTWalk13
namespace Go.Proofs.YtblcgjadhemlbaaGreat
open Go.RowKit
set_option linter.unusedVariables false
set_option linter.unusedSimpArgs false
set_option maxRecDepth 10000
set_option maxHeartbeats 2000000
variable {N:Nat}{S:Nat→Prop}{L:List HP}{h:Aw}
theorem BI (hs:St S L h) {b:Value}{o:(List Int)}(d:Sl S h AN.int b o) {c:Value}{p:(List Int)}(k:Sl S h AN.int c p) {r:Bool}(E:Cj N o p=some r):
 CL Tryz.prog 18 #[b,c] S h (λv S' h'=>v= .bool r∧St S' (L) h'):=by
 refine BF (l:=[b,c]) 26 Tryz.func18 O Tryz.ntmps18 O λB=>?_
 rw[Cj] at E
 refine AH (AL O (kp [0,1] O) (AC (AH (AA O (Ak O d BR O λY=>AA O (Ak O k BR O λZ=>Bl O (AM (kp [10,0,1] O) (AX O E (λH E=>?_) (λH E=>?_)))))))))
 ·refine AH (AL O (kp [4] O) (Ad (λq s g i=>?_)))
  cases E
  exact Dr g i O O (B9.refl S h) ⟨O,hs⟩
 refine AO (AC (AH (AL O (kp [5,0,1] O) (Aj (λa w=>IV B S h (26,[]) a w [] (L) λ_ _=>Gw N=some r) ?_ ?_))))
 ·refine A3 (λG=>λa w=>∃(t:Int),IV B S h (26,[]) a w [(0,b),(1,c),(5,vI t)] (L) λ_ _=>AE t∧Fj N o p (Gw N) G t=some r) N ?_ ?_ ?_
  ·intro q s g i
   exact⟨0,_,_,g.sub (kp [0,1,5] O),i,hs,(B9.refl S h),(iq (n:=0) O),E⟩
  ·rintro q s ⟨_,_,_,_,_,_,_,_,E⟩
   rw[Fj] at E;cases E
  rintro G q s ⟨t,S8,h9,g,i,j,m,r7,E⟩
  refine Ac ?_ g i
  clear g i s q
  rw[Fj] at E
  refine AC (AH (AA O (AA O (Ak O (d.mono' m) BR O λI=>Ao O (AM (kp [14,0,1,5] O) (AX O E (λz E=>?_) (λz E=>?_)))))))
  ·refine AO (AC (A8 (AC (BY (.inr ⟨mo,by kernel_rfl⟩) (AA O (AA O ?_))))))
   obtain⟨J,u,E⟩:=bd E
   refine A9 O O (d.mono' m) BR u O λK A=>Ag A6 j.1 O A Ae O λM=>AA O (AA O ?_)
   obtain⟨Q,x,E⟩:=bd E
   refine A9 O O (k.mono' m) BR x O λU C=>Ag A6 j.1 O C Ae O λV=>Bl O (AM (kp [25,0,1,5] O) (AX O E (λD E=>?_) (λD E=>?_)))
   ·refine AH (AL O (kp [4] O) (Ad (λq s g i=>?_)))
    cases E
    exact Dr g i O O m ⟨O,j⟩
   refine AO (BP (BY (.inl O) (AA O (Ai O (AL O (kp [5,0,1] O) (WF.nil (λq s g i=>?_)))))))
   exact⟨(BM (t+1)),_,_,g.sub (kp [0,1,5] O),i,j,m,(BG _),E⟩
  refine BA O (λq s g i=>?_)
  exact⟨_,_,g.sub Ov,i,j,m,E⟩
 rintro q s ⟨W,X,g,i,y,F,E⟩
 refine Ac ?_ g i
 clear g i s q
 rw[Gw] at E
 refine AH (AL O (kp [4] O) (Ad (λq s g i=>?_)))
 cases E
 exact Dr g i O O F ⟨O,y⟩
theorem LJ {g:Nat}{c1_:(List Int)}{c:Value}(hs:St S (Bx g 29 [c]::OS AN.int 3 c c1_::L) h) {b:Value}{d:(List Int)}(k:Sl S h AN.int b d) {r:(List Int)}(E:JM N c1_ d=some r):
 CL Tryz.prog 35 #[b,vP g 0] S h (λv S' h'=>∃w_0_0:Value,v= .tuple #[]∧St S' (Bx g 29 [w_0_0]::OS AN.int 3 w_0_0 r::L) h'):=by
 refine BF (l:=[b,vP g 0]) 25 Tryz.func35 O Tryz.ntmps35 O λB=>?_
 rw[JM] at E
 refine AH (AT A6 hs O mh O BX O (K7 hs (mt mh) O BR O λb1=>AA O (Ak O k BR O λb2=>NT O O O (AA O (AM (kp [9,8,0,1] O) (A8 (A3 (λn0=>λa w=>∃(q:Int) (t:List Int),IV B S h (25,[]) a w [(8,vI (min (↑c1_.length:Int) (↑d.length:Int))),(0,b),(1,vP g 0),(9,vI q)] (Bx g 29 [c]::OS AN.int 3 c t::L) λ_ _=>AE q∧HH N d c1_ n0 q t=some r) N ?_ ?_ ?_)))))))
 ·intro u y m p
  exact⟨0,c1_,_,_,m.sub (kp [8,0,1,9] O),p,hs,(B9.refl S h),(iq (n:=0) O),E⟩
 ·rintro u y ⟨_,_,_,_,_,_,_,_,_,E⟩
  rw[HH] at E;cases E
 rintro n0 u y ⟨q,t,S9,ae,m,p,j,s,r7,E⟩
 refine Ac ?_ m p
 clear m p y u
 rw[HH] at E
 refine AH (Ao O (AM (kp [10,8,0,1,9] O) (AC (AX O E (λQ E=>?_) (λQ E=>?_)))))
 ·refine AO (AC (A8 (AH (AA O (AL O (kp [3,8,0,1,9] O) (LD 12 mo (by kernel_rfl) O j (AT Bg j O mh O BX O (AA O (AT Bg j O mh O BX O (AA O ?_))))))))))
  obtain⟨af,z,E⟩:=bd E
  refine A0 j (mt mh) O O BR z O λag A=>?_
  obtain⟨ah,C,E⟩:=bd E
  have U:=j.epAt (mt mh) C FL.id A
  refine Ag Bg (λ_ x=>x) O U Ae O λV=>AA O (AA O ?_)
  obtain⟨ai,D,E⟩:=bd E
  refine A9 O O (k.mono' s) BR D O λaj W=>Ag Bg j.1 O W Ae O λX=>?_
  obtain⟨F,G,E⟩:=bd E
  refine CX O O O Qt O (λh' o=>IH (St.all h') V X G) λY=>?_
  have Z:=Y
  obtain⟨ak,H,E⟩:=bd E
  refine A0 j (mt mh) O O BR H O λal I=>Jp λam J ab=>?_
  obtain⟨ac,K,E⟩:=bd E
  refine Er (r:=AN.int) (l:=t) (i:=q) (x:=ac) O O (⟨_,O,O,Z⟩:Rd _ _ AN.int _ F) I K Lr.id Ae (λ_=>rfl) J (.tail .head) λan M ad=>AZ (kp [8,0,1,9] O) (BP (BY (.inl O) (Ai O (AA O (AM (kp [9,8,0,1] O) (WF.nil (λu y m p=>?_)))))))
  exact⟨(BM (q+1)),(upd t q F),_,_,m.sub (kp [8,0,1,9] O),p,M,(s.trans (ab.trans ad)),(BG _),E⟩
 refine J8 O (WF.nil (λu y m p=>?_))
 cases E
 exact KD m O p KC O s ⟨_,O,j⟩
theorem Pa (hs:St S L h) {i:Value}{b:Am}(C:Rd S h CP i b) {r:(List Int)}(E:Lj N b=some r):
 CL Tryz.prog 12 #[i] S h (λv S' h'=>St S' (OS AN.int 3 v r::L) h'):=by
 refine BF (l:=[i]) 38 Tryz.func12 O Tryz.ntmps12 O λB=>?_
 rw[Lj] at E
 refine WF.sl (B3 O C (λe=>by cases e) O hs λq1 S2 h3 ak e5 k6=>AI 1 (AY O (AG (AZ (kp [1] O) (WF.sl (AI 3 (Af O k6 KA KX O λq7 k8=>Al A6 ak.1 O k8 BX O λv9 ba=>Ak O ba BR O λbx=>AG ?_)))))))
 obtain⟨am,E⟩:=MU E
 refine JD (r:=AN.int) (zx:=0) FJ O ⟨O,by unfold AE;omega⟩ O O am O O ak λbz b0 an ao=>Cn Vf O an λg b1 J ap=>?_
 obtain⟨K,m,rfl,b2⟩:=J.oslen (mt mh)
 refine DW (vs:=[(.slice K (List.replicate ((↑b.In.length:Int):Int).toNat (0:Int)).length m)]) O O O O BX O J .head O λX M aq=>AZ (kp [3,1] O) (AH (OM O O O (AL O (kp [4,3,1] O) (AC (AH ?_)))))
 have ar:=k6.mono (ao.trans (ap.trans aq))
 refine Af O ar Ik D2 O λb3 bb=>Al A6 M.1 O bb G9 O λbc au=>Ak O au E3 O λb4=>AA O (AM (kp [17,16,15,4,3,1] O) (Aj (λa w=>∃(D:Value) (F:List Int),IV B S2 X (38,[]) a w [(4,.func (.func 35) #[] #[vP g 0]),(3,vP g 0),(1,q1)] (OS AN.int 3 D F::Bx g 29 [D]::L) λ_ _=>I6 N b F=some r) ?_ ?_))
 ·refine A3 (λn1=>λa w=>∃(o:Int) (G:Value) (s:List Int),IV B S2 X (38,[]) a w [(16,vI (↑b.Own.length:Int)),(15,bc),(4,.func (.func 35) #[] #[vP g 0]),(3,vP g 0),(1,q1),(17,vI o)] (OS AN.int 3 G s::Bx g 29 [G]::L) λ_ _=>AE o∧H9 N b (I6 N b) n1 o s=some r) N ?_ ?_ ?_
  ·intro j k c d
   have av:=M.sel [1,0] 0 O
   exact⟨0,(.slice K (List.replicate ((↑b.In.length:Int):Int).toNat (0:Int)).length m),(List.replicate ((↑b.In.length:Int):Int).toNat (0:Int)),_,_,c.sub (kp [16,15,4,3,1,17] O),d,av,(B9.refl S2 X),(iq (n:=0) O),E⟩
  ·rintro j k ⟨_,_,_,_,_,_,_,_,_,_,E⟩
   rw[H9] at E;cases E
  rintro n1 j k ⟨o,G,s,b5,b6,c,d,t,Y,b7,E⟩
  refine Ac ?_ c d
  clear c d k j
  rw[H9] at E
  refine AH (Ao O (AM (kp [18,16,15,4,3,1,17] O) (AC (AX O E (λbe E=>?_) (λbe E=>?_)))))
  ·refine AO (AC (A8 (AH ?_)))
   obtain⟨b8,aw,E⟩:=bd E
   refine A9 O O (au.mono' Y) E3 aw O λb9 bf=>Al A6 t.1 O bf BX O λca bg=>AL O (kp [6,16,15,4,3,1,17] O) (EX (AI 2 (AA O (AA O (AG ?_)))))
   have ax:=t.sel [1,0] 0 O
   obtain⟨bh,ay,E⟩:=bd E
   refine Ct O O O Za O (LJ (c1_:=s) ax bg ay) λcb cc cd bi p=>?_
   obtain⟨bj,rfl,az⟩:=p
   refine AZ (kp [16,15,4,3,1,17] O) (BP (BY (.inl O) (Ai O (AA O (AM (kp [17,16,15,4,3,1] O) (WF.nil (λj k c d=>?_)))))))
   have a0:=az.sel [1,0] 0 O
   exact⟨(BM (o+1)),bj,bh,_,_,c.sub (kp [16,15,4,3,1,17] O),d,a0,(Y.trans bi),(BG _),E⟩
  refine BA O (λj k c d=>?_)
  exact⟨G,s,_,_,c.sub (kp [4,3,1] O),d,t,Y,E⟩
 rintro j k ⟨D,F,Z,ab,c,d,Q,a1,E⟩
 refine Ac ?_ c d
 clear c d k j
 rw[I6] at E
 refine AC (AH (Af O (ar.mono a1) FZ IL O λce bk=>Al A6 Q.1 O bk Ju O λbl a2=>Ak O a2 Im O λcf=>AA O (AM (kp [28,27,26,4,3] O) (Aj (λa w=>∃(ac:Value) (ad:List Int),IV B Z ab (38,[]) a w [(3,vP g 0)] (OS AN.int 3 ac ad::Bx g 29 [ac]::L) λ_ _=>I5 N ad=some r) ?_ ?_))))
 ·refine A3 (λn3=>λa w=>∃(u:Int) (H:Value) (x:List Int),IV B Z ab (38,[]) a w [(27,vI (↑b.Queue.length:Int)),(26,bl),(4,.func (.func 35) #[] #[vP g 0]),(3,vP g 0),(28,vI u)] (OS AN.int 3 H x::Bx g 29 [H]::L) λ_ _=>AE u∧H8 N b (I5 N) n3 u x=some r) N ?_ ?_ ?_
  ·intro j k c d
   exact⟨0,D,F,_,_,c.sub (kp [27,26,4,3,28] O),d,Q,(B9.refl Z ab),(iq (n:=0) O),E⟩
  ·rintro j k ⟨_,_,_,_,_,_,_,_,_,_,E⟩
   rw[H8] at E;cases E
  rintro n3 j k ⟨u,H,x,cg,ch,c,d,y,ae,ci,E⟩
  refine Ac ?_ c d
  clear c d k j
  rw[H8] at E
  refine AH (Ao O (AM (kp [29,27,26,4,3,28] O) (AC (AX O E (λbm E=>?_) (λbm E=>?_)))))
  ·refine AO (AC (A8 (WF.sl (AI 2 ?_))))
   obtain⟨I,a3,E⟩:=bd E
   refine A9 O O (a2.mono' ae) Im a3 O λcj bn=>B6 A6 y.1 O bn Kx (λe=>by cases e) O λck bo=>AG (Cn QY O y λcl cm a4 a5=>?_)
   obtain⟨U,rfl,bp,bq,V⟩:=Ar.ex (bo.mono a5)
   refine HM (vs:=[vI I.At,vI I.To,U]) (cs':=[vI I.At,vI I.To,U]) O O O (AF O (AF O (AF V.one EG))) Kx O a4 .head O O λbr z W=>AZ (kp [8,27,26,4,3,28] O) (EX (AI 3 (AA O (AD KU O (AT A6 z O mh O BX O (AG ?_))))))
   have af:=z.sel [2,1,0] 0 O
   obtain⟨a6,ag,E⟩:=bd E
   refine Ct O O O Za O (LJ (c1_:=x) af (V.mono' W) ag) λbs bt bu a7 p=>?_
   obtain⟨a8,rfl,ah⟩:=p
   refine AZ (kp [27,26,4,3,28] O) (BP (BY (.inl O) (Ai O (AA O (AM (kp [28,27,26,4,3] O) (WF.nil (λj k c d=>?_)))))))
   have ai:=ah.sel [1,0] 1 O
   exact⟨(BM (u+1)),a8,a6,_,_,c.sub (kp [27,26,4,3,28] O),d,ai,(ae.trans (a5.trans (W.trans a7))),(BG _),E⟩
  refine BA O (λj k c d=>?_)
  exact⟨H,x,_,_,c.sub (kp [3] O),d,y,ae,E⟩
 rintro j k ⟨ac,ad,bv,bw,c,d,A,a9,E⟩
 refine Ac ?_ c d
 clear c d k j
 rw[I5] at E
 refine AH (AT A6 A O (mt mh) O BX O (AL O (kp [2] O) (Ad (λj k c d=>?_))))
 have aj:=A.drop (.tail .head)
 cases E
 exact Dr c d O O (e5.trans (ao.trans (ap.trans (aq.trans (a1.trans a9))))) aj
theorem Iq (hs:St S L h) {c:Value}{k:(List (List Int))}(i:Sl S h (AN.sl AN.int) c k) {d:Value}{t:(List (List Int))}(m:Sl S h (AN.sl AN.int) d t) {j:Value}{u:(((List Int)×(List Int))→Option Bool)}(z:Rd S h (AN.fnr Tryz.prog (λS h vs (x:((List Int)×(List Int)))=>∃w0 w1:Value,vs=[w0,w1]∧Sl S h AN.int w0 x.1∧Sl S h AN.int w1 x.2) (λS h v (y:Bool)=>v= .bool y)) j u) {r:Bool}(E:E2 N k t u=some r):
 CL Tryz.prog 40 #[c,d,j] S h (λv S' h'=>v= .bool r∧St S' (L) h'):=by
 refine BF (l:=[c,d,j]) 32 Tryz.func40 O Tryz.ntmps40 O λB=>?_
 rw[E2] at E
 obtain⟨M,Q,rfl,U,V⟩:=z.fnr
 refine AH (AL O (kp [0,1,2] O) (AC (AH (AA O (Ak O i E3 O λb5=>AA O (Ak O m E3 O λb6=>Bl O (AM (kp [14,0,1,2] O) (AX O E (λc7 E=>?_) (λc7 E=>?_)))))))))
 ·refine AH (AL O (kp [6] O) (Ad (λC D p q=>?_)))
  cases E
  exact Dr p q O O (B9.refl S h) ⟨O,hs⟩
 refine AO (AC (AH (AA O (Ak O i E3 O λb8=>AA O (AM (kp [17,16,15,1,2] O) (Aj (λa w=>IV B S h (32,[]) a w [] (L) λ_ _=>DG N=some r) ?_ ?_))))))
 ·refine A3 (λn1=>λa w=>∃(A:Int),IV B S h (32,[]) a w [(16,vI (↑k.length:Int)),(15,c),(1,d),(2,(.func (.func M) #[] Q)),(17,vI A)] (L) λ_ _=>AE A∧CW N k t u (DG N) n1 A=some r) N ?_ ?_ ?_
  ·intro C D p q
   exact⟨0,_,_,p.sub (kp [16,15,1,2,17] O),q,hs,(B9.refl S h),(iq (n:=0) O),E⟩
  ·rintro C D ⟨_,_,_,_,_,_,_,_,E⟩
   rw[CW] at E;cases E
  rintro n1 C D ⟨A,ag,ah,p,q,g,s,ai,E⟩
  refine Ac ?_ p q
  clear p q D C
  rw[CW] at E
  refine AH (Ao O (AM (kp [18,16,15,1,2,17] O) (AC (AX O E (λW E=>?_) (λW E=>?_)))))
  ·refine AO (AC (A8 (AH (AA O ?_))))
   obtain⟨X,G,E⟩:=bd E
   refine A9 O O (i.mono' s) E3 G O λaj Y=>Al A6 g.1 O Y BX O λak Z=>AY O (AL O (kp [8,7,16,15,1,2,17] O) (AH (AA O (AA O ?_))))
   obtain⟨ab,H,E⟩:=bd E
   refine A9 O O (m.mono' s) E3 H O λal ac=>Al A6 g.1 O ac BX O λam ad=>AL O (kp [9,8,16,15,1,2,17] O) (AC (Bt (.inl O) g (AA O (AA O (AA O ?_)))))
   obtain⟨an,I,E⟩:=bd E
   refine A5 O O O U O (λh' o=>V _ h' (λb hb=>Nat.lt_of_lt_of_le (g.1 b (s.sub b hb)) o.siz) (λb hb=>(o.same b (g.1 b (s.sub b hb))).trans (s.same b hb)) [] (St.all h') (X,ab) _ _ ⟨_,_,O,(Z.mono' (o.all g.1)),(ad.mono' (o.all g.1))⟩ I) (BZ O (BQ (kp [30,16,15,1,2,17] O) λao F J=>AX O E (λae E=>?_) (λae E=>?_)))
   ·refine AH (AL O (kp [6] O) (Ad (λC D p q=>?_)))
    cases E
    exact Dr p q O O (s.trans J) ⟨O,F⟩
   refine AO (BP (BY (.inl O) (Ai O (AA O (AM (kp [17,16,15,1,2] O) (WF.nil (λC D p q=>?_)))))))
   exact⟨(BM (A+1)),_,_,p.sub (kp [16,15,1,2,17] O),q,F,(s.trans J),(BG _),E⟩
  refine BA O (λC D p q=>?_)
  exact⟨_,_,p.sub Ov,q,g,s,E⟩
 rintro C D ⟨ap,aq,p,q,K,af,E⟩
 refine Ac ?_ p q
 clear p q D C
 rw[DG] at E
 refine AH (AL O (kp [6] O) (Ad (λC D p q=>?_)))
 cases E
 exact Dr p q O O af ⟨O,K⟩
theorem Ej (hs:St S L h) {b:Value}{g:(List Int)}(d:Sl S h AN.int b g) {c:Value}{o:(List Int)}(i:Sl S h AN.int c o) {r:Bool}(E:C6 N g o=some r):
 CL Tryz.prog 41 #[b,c] S h (λv S' h'=>v= .bool r∧St S' (L) h'):=by
 refine BF (l:=[b,c]) 26 Tryz.func41 O Tryz.ntmps41 O λB=>?_
 rw[C6] at E
 refine AH (AL O (kp [0,1] O) (AC (AH (AA O (Ak O d BR O λY=>AA O (Ak O i BR O λZ=>Bl O (AM (kp [10,0,1] O) (AX O E (λH E=>?_) (λH E=>?_)))))))))
 ·refine AH (AL O (kp [4] O) (Ad (λq s j k=>?_)))
  cases E
  exact Dr j k O O (B9.refl S h) ⟨O,hs⟩
 refine AO (AC (AH (AA O (Ak O d BR O λb4=>AA O (AM (kp [13,12,0,1] O) (Aj (λa w=>IV B S h (26,[]) a w [] (L) λ_ _=>Fh N=some r) ?_ ?_))))))
 ·refine A3 (λG=>λa w=>∃(t:Int),IV B S h (26,[]) a w [(12,vI (↑g.length:Int)),(0,b),(1,c),(13,vI t)] (L) λ_ _=>AE t∧EW N g o (Fh N) G t=some r) N ?_ ?_ ?_
  ·intro q s j k
   exact⟨0,_,_,j.sub (kp [12,0,1,13] O),k,hs,(B9.refl S h),(iq (n:=0) O),E⟩
  ·rintro q s ⟨_,_,_,_,_,_,_,_,E⟩
   rw[EW] at E;cases E
  rintro G q s ⟨t,S9,I,j,k,m,p,r8,E⟩
  refine Ac ?_ j k
  clear j k s q
  rw[EW] at E
  refine AH (Ao O (AM (kp [14,12,0,1,13] O) (AC (AX O E (λz E=>?_) (λz E=>?_)))))
  ·refine AO (AC (A8 (AH (AA O (AL O (kp [5,12,0,1,13] O) (AC (BY (.inr ⟨mo,by kernel_rfl⟩) (AA O (AA O ?_)))))))))
   obtain⟨J,u,E⟩:=bd E
   refine A9 O O (d.mono' p) BR u O λK A=>Ag A6 m.1 O A Ae O λM=>AA O (AA O ?_)
   obtain⟨Q,x,E⟩:=bd E
   refine A9 O O (i.mono' p) BR x O λU C=>Ag A6 m.1 O C Ae O λV=>Bl O (AM (kp [24,12,0,1,13] O) (AX O E (λD E=>?_) (λD E=>?_)))
   ·refine AH (AL O (kp [4] O) (Ad (λq s j k=>?_)))
    cases E
    exact Dr j k O O p ⟨O,m⟩
   refine AO (BP (BY (.inl O) (Ai O (AA O (AM (kp [13,12,0,1] O) (WF.nil (λq s j k=>?_)))))))
   exact⟨(BM (t+1)),_,_,j.sub (kp [12,0,1,13] O),k,m,p,(BG _),E⟩
  refine BA O (λq s j k=>?_)
  exact⟨_,_,j.sub Ov,k,m,p,E⟩
 rintro q s ⟨W,X,j,k,y,F,E⟩
 refine Ac ?_ j k
 clear j k s q
 rw[Fh] at E
 refine AH (AL O (kp [4] O) (Ad (λq s j k=>?_)))
 cases E
 exact Dr j k O O F ⟨O,y⟩
theorem DV (hs:St S L h) {c:Value}{k:(List Av)}(g:Sl S h Ar c k) {d:Value}{z:(List Av)}(m:Sl S h Ar d z) {i:Value}{A:((Av×Av)→Option Bool)}(C:Rd S h (AN.fnr Tryz.prog (λS h vs (x:(Av×Av))=>∃w0 w1:Value,vs=[w0,w1]∧Rd S h Ar w0 x.1∧Rd S h Ar w1 x.2) (λS h v (y:Bool)=>v= .bool y)) i A) {r:Bool}(E:Ba N k z A=some r):
 CL Tryz.prog 42 #[c,d,i] S h (λv S' h'=>v= .bool r∧St S' (L) h'):=by
 refine BF (l:=[c,d,i]) 32 Tryz.func42 O Tryz.ntmps42 O λB=>?_
 rw[Ba] at E
 obtain⟨an,ao,rfl,ap,aq⟩:=C.fnr
 refine AH (AL O (kp [0,1,2] O) (AC (AH (AA O (Ak O g Im O λb5=>AA O (Ak O m Im O λb6=>Bl O (AM (kp [14,0,1,2] O) (AX O E (λc7 E=>?_) (λc7 E=>?_)))))))))
 ·refine AH (AL O (kp [6] O) (Ad (λK M p s=>?_)))
  cases E
  exact Dr p s O O (B9.refl S h) ⟨O,hs⟩
 refine AO (AC (AH (AA O (Ak O g Im O λb8=>AA O (AM (kp [17,16,15,1,2] O) (Aj (λa w=>IV B S h (32,[]) a w [] (L) λ_ _=>BB N=some r) ?_ ?_))))))
 ·refine A3 (λn1=>λa w=>∃(D:Int),IV B S h (32,[]) a w [(16,vI (↑k.length:Int)),(15,c),(1,d),(2,(.func (.func an) #[] ao)),(17,vI D)] (L) λ_ _=>AE D∧Az N k z A (BB N) n1 D=some r) N ?_ ?_ ?_
  ·intro K M p s
   exact⟨0,_,_,p.sub (kp [16,15,1,2,17] O),s,hs,(B9.refl S h),(iq (n:=0) O),E⟩
  ·rintro K M ⟨_,_,_,_,_,_,_,_,E⟩
   rw[Az] at E;cases E
  rintro n1 K M ⟨D,a4,a5,p,s,F,G,a6,E⟩
  refine Ac ?_ p s
  clear p s M K
  rw[Az] at E
  refine AH (Ao O (AM (kp [18,16,15,1,2,17] O) (AC (AX O E (λar E=>?_) (λar E=>?_)))))
  ·refine AO (AC (A8 (WF.sl (AI 3 (AA O ?_)))))
   obtain⟨t,ab,E⟩:=bd E
   refine A9 O O (g.mono' G) Im ab O λa7 au=>B6 A6 F.1 O au Kx (λe=>by cases e) O λa8 av=>AG (Cn QY O F λa9 ba ac Q=>AI 1 (AY O (AG ?_)))
   obtain⟨Y,rfl,aw,ax,ad⟩:=Ar.ex (av.mono Q)
   refine HM (vs:=[vI t.At,vI t.To,Y]) (cs':=[vI t.At,vI t.To,Y]) O O O (AF O (AF O (AF ad.one EG))) Kx O ac .head O O λbb V U=>AZ (kp [7,8,16,15,1,2,17] O) (WF.sl (AI 4 (AA O (AA O ?_))))
   have W:=G.trans (Q.trans U)
   obtain⟨u,ae,E⟩:=bd E
   refine A9 O O (m.mono' W) Im ae O λbc ay=>B6 A6 V.1 O ay Kx (λe=>by cases e) O λbe az=>AG (Cn QY O V λbf bg af H=>?_)
   obtain⟨Z,rfl,a0,a1,ag⟩:=Ar.ex (az.mono H)
   refine HM (vs:=[vI u.At,vI u.To,Z]) (cs':=[vI u.At,vI u.To,Z]) O O O (AF O (AF O (AF ag.one EG))) Kx O af .head O O λbh j I=>AZ (kp [9,8,16,15,1,2,17] O) (AC (Bt (.inl O) j (AA O (Dk (vs:=[vI t.At,vI t.To,Y]) Bg j O (mt mh) O O Kx O O (Dk (vs:=[vI u.At,vI u.To,Z]) Bg j O mh O O Kx O O ?_)))))
   have J:=W.trans (H.trans I)
   obtain⟨bi,ah,E⟩:=bd E
   refine A5 O O O ap O (λh' o=>aq _ h' (λb hb=>Nat.lt_of_lt_of_le (j.1 b (J.sub b hb)) o.siz) (λb hb=>(o.same b (j.1 b (J.sub b hb))).trans (J.same b hb)) [] (St.all h') (t,u) _ _ ⟨_,_,O,(Ar.mk (x:=t) aw ax ((ad.mono' (U.trans (H.trans I))).mono' (o.all j.1))),(Ar.mk (x:=u) a0 a1 ((ag.mono' I).mono' (o.all j.1)))⟩ ah) (BZ O (BQ (kp [30,16,15,1,2,17] O) λbj X ai=>AX O E (λa2 E=>?_) (λa2 E=>?_)))
   ·refine AH (AL O (kp [6] O) (Ad (λK M p s=>?_)))
    have aj:=X.sel [] 2 O
    cases E
    exact Dr p s O O (G.trans (Q.trans (U.trans (H.trans (I.trans ai))))) ⟨O,aj⟩
   refine AO (BP (BY (.inl O) (Ai O (AA O (AM (kp [17,16,15,1,2] O) (WF.nil (λK M p s=>?_)))))))
   have ak:=X.sel [] 2 O
   exact⟨(BM (D+1)),_,_,p.sub (kp [16,15,1,2,17] O),s,ak,(G.trans (Q.trans (U.trans (H.trans (I.trans ai))))),(BG _),E⟩
  refine BA O (λK M p s=>?_)
  exact⟨_,_,p.sub Ov,s,F,G,E⟩
 rintro K M ⟨bk,bl,p,s,am,a3,E⟩
 refine Ac ?_ p s
 clear p s M K
 rw[BB] at E
 refine AH (AL O (kp [6] O) (Ad (λK M p s=>?_)))
 cases E
 exact Dr p s O O a3 ⟨O,am⟩
theorem G1 (hs:St S L h) {b:Value}{g:(List Ax)}(d:Sl S h BE b g) {c:Value}{o:(List Ax)}(i:Sl S h BE c o) {r:Bool}(E:DF N g o=some r):
 CL Tryz.prog 44 #[b,c] S h (λv S' h'=>v= .bool r∧St S' (L) h'):=by
 refine BF (l:=[b,c]) 26 Tryz.func44 O Tryz.ntmps44 O λB=>?_
 rw[DF] at E
 refine AH (AL O (kp [0,1] O) (AC (AH (AA O (Ak O d KJ O λb1=>AA O (Ak O i KJ O λb2=>Bl O (AM (kp [10,0,1] O) (AX O E (λJ E=>?_) (λJ E=>?_)))))))))
 ·refine AH (AL O (kp [4] O) (Ad (λq s j k=>?_)))
  cases E
  exact Dr j k O O (B9.refl S h) ⟨O,hs⟩
 refine AO (AC (AH (AA O (Ak O d KJ O λb4=>AA O (AM (kp [13,12,0,1] O) (Aj (λa w=>IV B S h (26,[]) a w [] (L) λ_ _=>CJ N=some r) ?_ ?_))))))
 ·refine A3 (λI=>λa w=>∃(t:Int),IV B S h (26,[]) a w [(12,vI (↑g.length:Int)),(0,b),(1,c),(13,vI t)] (L) λ_ _=>AE t∧Bp N g o (CJ N) I t=some r) N ?_ ?_ ?_
  ·intro q s j k
   exact⟨0,_,_,j.sub (kp [12,0,1,13] O),k,hs,(B9.refl S h),(iq (n:=0) O),E⟩
  ·rintro q s ⟨_,_,_,_,_,_,_,_,E⟩
   rw[Bp] at E;cases E
  rintro I q s ⟨t,S9,K,j,k,m,p,r8,E⟩
  refine Ac ?_ j k
  clear j k s q
  rw[Bp] at E
  refine AH (Ao O (AM (kp [14,12,0,1,13] O) (AC (AX O E (λz E=>?_) (λz E=>?_)))))
  ·refine AO (AC (A8 (AH (AA O (AL O (kp [5,12,0,1,13] O) (AC (BY (.inr ⟨mo,by kernel_rfl⟩) (AA O (AA O ?_)))))))))
   obtain⟨M,u,E⟩:=bd E
   refine A9 O O (d.mono' p) KJ u O λQ A=>B6 A6 m.1 O A Gn (λe=>by cases e) O λU C=>AA O (AA O ?_)
   obtain⟨V,x,E⟩:=bd E
   refine A9 O O (i.mono' p) KJ x O λW D=>B6 A6 m.1 O D Gn (λe=>by cases e) O λX F=>?_
   obtain⟨rfl,⟨Y,Z⟩⟩:=BE.ex C
   obtain⟨rfl,⟨ab,ac⟩⟩:=BE.ex F
   refine bJ O O eK O O O O (AM (kp [24,12,0,1,13] O) (AX O E (λG E=>?_) (λG E=>?_)))
   ·refine AH (AL O (kp [4] O) (Ad (λq s j k=>?_)))
    cases E
    exact Dr j k O O p ⟨O,m⟩
   refine AO (BP (BY (.inl O) (Ai O (AA O (AM (kp [13,12,0,1] O) (WF.nil (λq s j k=>?_)))))))
   exact⟨(BM (t+1)),_,_,j.sub (kp [12,0,1,13] O),k,m,p,(BG _),E⟩
  refine BA O (λq s j k=>?_)
  exact⟨_,_,j.sub Ov,k,m,p,E⟩
 rintro q s ⟨ad,ae,j,k,y,H,E⟩
 refine Ac ?_ j k
 clear j k s q
 rw[CJ] at E
 refine AH (AL O (kp [4] O) (Ad (λq s j k=>?_)))
 cases E
 exact Dr j k O O H ⟨O,y⟩
theorem Nb (hs:St S L h) {g:Value}{c:Av}(j:Rd S h Ar g c) {i:Value}{d:Av}(k:Rd S h Ar i d) {r:Bool}(E:I4 N c d=some r):
 CL Tryz.prog 43 #[g,i] S h (λv S' h'=>v= .bool r∧St S' (L) h'):=by
 refine BF (l:=[g,i]) 24 Tryz.func43 O Tryz.ntmps43 O λB=>?_
 rw[I4] at E
 refine WF.sl (B3 O j (λe=>by cases e) O hs λq1 S2 h3 w J K=>B3 O (k.mono J) (λe=>by cases e) O w λq8 S9 M a p m=>AI 1 (AY O (AG (AZ (kp [3,2] O) (AC (Bt (.inl O) a ?_))))))
 have n:=K.mono p
 refine Af O n NW Mv O λQ x=>Ag Bg a.1 O x Ae O λU=>Af O m NW Mv O λV y=>Ag Bg a.1 O y Ae O λW=>BK O (AA O (AV 6 16 (.bool ((decide (c.At=d.At))&&(decide (c.To=d.To)))) ?_ ?_))
 ·cases X:(decide (c.At=d.At))
  ·exact Aa O O
  exact AB O (Af O n Av.f_To KV O λY z=>AB O (Ag Bg a.1 O z Ae O λZ=>AB O (Af O m Av.f_To KV O λab A=>AB O (Ag Bg a.1 O A Ae O λac=>AB O (BK O (AJ O (AU O)))))))
 refine AA O ?_
 obtain⟨C,b,E⟩:=bd E
 refine AV 6 23 (.bool C) ?_ ?_
 ·cases s:((decide (c.At=d.At))&&(decide (c.To=d.To)))
  ·have b:=GM s b
   cases b
   exact Aa O O
  have b:=GL s b
  refine AB O (Af O n Av.f_Part KU O λad D=>AB O (Al Bg a.1 O D BX O λae F=>AB O (Af O m Av.f_Part KU O λaf G=>AB O (Al Bg a.1 O G BX O λag H=>AB O ?_))))
  obtain⟨ah,t,b⟩:=bd b
  refine A5 O O O TL O (λh' o=>Ej (St.all h') (F.mono' (o.all a.1)) (H.mono' (o.all a.1)) t) (AJ O ?_)
  cases b
  exact AU O
 refine AY O (BQ (kp [4] O) λai u I=>Ad (λaa ww hf hw=>?_))
 cases E
 exact Dr hf hw O O (J.trans (p.trans I)) ⟨O,u⟩
theorem ND (hs:St S L h) {k:Value}{t:Am}(w:Rd S h CP k t) {m:Value}{u:Am}(z:Rd S h CP m u) {r:Bool}(E:K4 N t u=some r):
 CL Tryz.prog 20 #[k,m] S h (λv S' h'=>v= .bool r∧St S' (L) h'):=by
 refine BF (l:=[k,m]) 52 Tryz.func20 O Tryz.ntmps20 O λB=>?_
 rw[K4] at E
 refine WF.sl (B3 O w (λe=>by cases e) O hs λq1 S2 h3 ai e5 k6=>B3 O (z.mono e5) (λe=>by cases e) O ai λq8 S9 D a F n=>AI 1 (AY O (AG (AZ (kp [3,2] O) (AC (Bt (.inl O) a ?_))))))
 have s:=k6.mono F
 refine Af O s Am.f_Hour IM O λbg aj=>Ag Bg a.1 O aj Ae O λbh=>Af O n Am.f_Hour IM O λbi ak=>Ag Bg a.1 O ak Ae O λbj=>BK O (AA O ?_)
 obtain⟨G,b,E⟩:=bd E
 refine AV 6 16 (.bool G) ?_ ?_
 ·cases H:(decide (t.Hour=u.Hour))
  ·have b:=GM H b
   cases b
   exact Aa O O
  have b:=GL H b
  refine AB O (Af O s Ik D2 O λbk al=>AB O (Al Bg a.1 O al G9 O λbl am=>AB O (Af O n Ik D2 O λbm an=>AB O (Al Bg a.1 O an G9 O λbn ao=>AB O ?_))))
  have I:Rd S9 D (AN.fnr Tryz.prog (λS h vs (x:((List Int)×(List Int)))=>∃A C:Value,vs=[A,C]∧Sl S h AN.int A x.1∧Sl S h AN.int C x.2) (λS h v (y:Bool)=>v= .bool y)) (.func (.func 41) #[] #[]) (λx=>C6 N x.1 x.2):=J9 41 #[] TL λS' h' s' e' L hs x y vs h1 h2=>by obtain⟨A,C,rfl,a0,a1⟩:=h1;exact(Ej hs a0 a1 h2).mono λ_ _ _ _ p=>p
  obtain⟨bo,J,b⟩:=bd b
  refine A5 O O O fZ O (λh' o=>Iq (St.all h') (am.mono' (o.all a.1)) (ao.mono' (o.all a.1)) (I.mono (o.all a.1)) J) (AJ O ?_)
  cases b
  exact AU O
 refine AA O ?_
 obtain⟨K,c,E⟩:=bd E
 refine AV 6 23 (.bool K) ?_ ?_
 ·cases M:G
  ·have c:=GM M c
   cases c
   exact Aa O O
  have c:=GL M c
  refine AB O (Af O s JU Jm O λbp ap=>AB O (Al Bg a.1 O ap BX O λbq aq=>AB O (Af O n JU Jm O λbr ar=>AB O (Al Bg a.1 O ar BX O λbs au=>AB O ?_))))
  obtain⟨bt,Q,c⟩:=bd c
  refine A5 O O O TL O (λh' o=>Ej (St.all h') (aq.mono' (o.all a.1)) (au.mono' (o.all a.1)) Q) (AJ O ?_)
  cases c
  exact AU O
 refine AA O ?_
 obtain⟨U,d,E⟩:=bd E
 refine AV 6 30 (.bool U) ?_ ?_
 ·cases V:K
  ·have d:=GM V d
   cases d
   exact Aa O O
  have d:=GL V d
  refine AB O (Af O s FZ IL O λbu av=>AB O (Al Bg a.1 O av Ju O λbv aw=>AB O (Af O n FZ IL O λbw ax=>AB O (Al Bg a.1 O ax Ju O λbx ay=>AB O ?_))))
  have W:Rd S9 D (AN.fnr Tryz.prog (λS h vs (x:(Av×Av))=>∃A C:Value,vs=[A,C]∧Rd S h Ar A x.1∧Rd S h Ar C x.2) (λS h v (y:Bool)=>v= .bool y)) (.func (.func 43) #[] #[]) (λx=>I4 N x.1 x.2):=J9 43 #[] fX λS' h' s' e' L hs x y vs h1 h2=>by obtain⟨A,C,rfl,a0,a1⟩:=h1;exact(Nb hs a0 a1 h2).mono λ_ _ _ _ p=>p
  obtain⟨bz,X,d⟩:=bd d
  refine A5 O O O fY O (λh' o=>DV (St.all h') (aw.mono' (o.all a.1)) (ay.mono' (o.all a.1)) (W.mono (o.all a.1)) X) (AJ O ?_)
  cases d
  exact AU O
 refine AA O ?_
 obtain⟨Y,g,E⟩:=bd E
 refine AV 6 37 (.bool Y) ?_ ?_
 ·cases Z:U
  ·have g:=GM Z g
   cases g
   exact Aa O O
  have g:=GL Z g
  refine AB O (Af O s JV Hw O λb0 az=>AB O (Al Bg a.1 O az Ke O λb1 a2=>AB O (Af O n JV Hw O λb2 a3=>AB O (Al Bg a.1 O a3 Ke O λb3 a4=>AB O ?_))))
  obtain⟨b4,ab,g⟩:=bd g
  refine A5 O O O fW O (λh' o=>G1 (St.all h') (a2.mono' (o.all a.1)) (a4.mono' (o.all a.1)) ab) (AJ O ?_)
  cases g
  exact AU O
 refine AA O ?_
 obtain⟨ac,i,E⟩:=bd E
 refine AV 6 44 (.bool ac) ?_ ?_
 ·cases ad:Y
  ·have i:=GM ad i
   cases i
   exact Aa O O
  have i:=GL ad i
  refine AB O (Af O s KA KX O λb5 a5=>AB O (Al Bg a.1 O a5 BX O λb6 a6=>AB O (Af O n KA KX O λb7 a7=>AB O (Al Bg a.1 O a7 BX O λb8 a8=>AB O ?_))))
  obtain⟨b9,ae,i⟩:=bd i
  refine A5 O O O TL O (λh' o=>Ej (St.all h') (a6.mono' (o.all a.1)) (a8.mono' (o.all a.1)) ae) (AJ O ?_)
  cases i
  exact AU O
 refine AA O ?_
 obtain⟨a9,j,E⟩:=bd E
 refine AV 6 51 (.bool a9) ?_ ?_
 ·cases af:ac
  ·have j:=GM af j
   cases j
   exact Aa O O
  have j:=GL af j
  refine AB O (Af O s Ka JL O λca ba=>AB O (Al Bg a.1 O ba BX O λcb bb=>AB O (Af O n Ka JL O λcc bc=>AB O (Al Bg a.1 O bc BX O λcd be=>AB O ?_))))
  obtain⟨ce,ag,j⟩:=bd j
  refine A5 O O O TL O (λh' o=>Ej (St.all h') (bb.mono' (o.all a.1)) (be.mono' (o.all a.1)) ag) (AJ O ?_)
  cases j
  exact AU O
 refine AY O (BQ (kp [4] O) λcf ah bf=>Ad (λaa ww hf hw=>?_))
 cases E
 exact Dr hf hw O O (e5.trans (F.trans bf)) ⟨O,ah⟩
theorem L6 (hs:St S L h) {r:Bool}(E:GS N=some r):
 CL Tryz.prog 9 #[] S h (λv S' h'=>v= .bool r∧St S' (L) h'):=by
 refine BF (l:=[]) 176 Tryz.func9 O Tryz.ntmps9 O λB=>?_
 rw[GS] at E
 refine AH (AL O Ov (WF.sl ?_))
 obtain⟨y1,om,E⟩:=bd E
 refine Ct O O O gL O (Lm hs om) λv2 S3 h4 e5 p=>?_
 obtain⟨k7,oo⟩:=p
 refine Cn Y4 O oo λb9 xj k8 fj=>?_
 obtain⟨a7,a8,a9,ba,bb,bc,be,bf,rfl,eb,c0,ec,c1,c2,c3,c4,c5,c6,c7,ed⟩:=B8.ex (k7.mono fj)
 refine HM (vs:=[.string y1.Name,a7,vI y1.Cells,a8,a9,ba,bb,bc,be,bf,vI y1.Err]) (cs':=[.string y1.Name,a7,vI y1.Cells,a8,a9,ba,bb,bc,be,bf,vI y1.Err]) O O O (AF O (AF c0.one (AF O (AF c1.one (AF c2.one (AF c3.one (AF c4.one (AF c5.one (AF c6.one (AF c7.one (AF O EG))))))))))) G0 O k8 .head O O λxk gp ak=>AZ (kp [1] O) (WF.sl (AI 1 (Dk (vs:=[.string y1.Name,a7,vI y1.Cells,a8,a9,ba,bb,bc,be,bf,vI y1.Err]) A6 gp O mh O O G0 O O (AG ?_))))
 obtain⟨ad,k9,E⟩:=bd E
 refine Ct O O O gT O (Pb gp (B8.mk (x:=y1) eb (c0.mono' ak) ec (c1.mono' ak) (c2.mono' ak) (c3.mono' ak) (c4.mono' ak) (c5.mono' ak) (c6.mono' ak) (c7.mono' ak) ed) (iq (n:=5) O) k9) λxl xm xn c8 p=>?_
 obtain⟨op,la⟩:=p
 refine Cn OT O la λee xo lb cn=>?_
 obtain⟨bg,bh,bi,bj,bk,bl,rfl,ef,co,c9,da,db,dc,dd⟩:=CP.ex (op.mono cn)
 refine HM (vs:=[vI ad.Hour,bg,bh,bi,bj,bk,bl]) (cs':=[vI ad.Hour,bg,bh,bi,bj,bk,bl]) O O O (AF O (AF co.one (AF c9.one (AF da.one (AF db.one (AF dc.one (AF dd.one EG))))))) G8 O lb .head O O λxp g F=>AZ (kp [2,1] O) (AC (AC (Bt (.inl O) g (Dk (vs:=[.string y1.Name,a7,vI y1.Cells,a8,a9,ba,bb,bc,be,bf,vI y1.Err]) Bg g O (mt mh) O O G0 O O ?_))))
 have av:=ak.trans (c8.trans (cn.trans F))
 obtain⟨oq,lc,E⟩:=bd E
 refine A5 O O O Zb O (λh' o=>Ly (St.all h') (B8.mk (x:=y1) eb ((c0.mono' av).mono' (o.all g.1)) ec ((c1.mono' av).mono' (o.all g.1)) ((c2.mono' av).mono' (o.all g.1)) ((c3.mono' av).mono' (o.all g.1)) ((c4.mono' av).mono' (o.all g.1)) ((c5.mono' av).mono' (o.all g.1)) ((c6.mono' av).mono' (o.all g.1)) ((c7.mono' av).mono' (o.all g.1)) ed) lc) (BZ O (AA O ?_))
 obtain⟨hk,aw,E⟩:=bd E
 refine AV 5 23 (.bool hk) ?_ ?_
 ·cases ld:(!oq)
  ·have aw:=GM ld aw
   refine AB O (Dk (vs:=[.string y1.Name,a7,vI y1.Cells,a8,a9,ba,bb,bc,be,bf,vI y1.Err]) Bg g O (mt mh) O O G0 O O (AB O (Dk (vs:=[vI ad.Hour,bg,bh,bi,bj,bk,bl]) Bg g O mh O O G8 O O (AB O ?_))))
   have ax:=ak.trans (c8.trans (cn.trans F))
   obtain⟨rp,hl,aw⟩:=bd aw
   refine A5 O O O XS O (λh' o=>Kf (St.all h') (B8.mk (x:=y1) eb ((c0.mono' ax).mono' (o.all g.1)) ec ((c1.mono' ax).mono' (o.all g.1)) ((c2.mono' ax).mono' (o.all g.1)) ((c3.mono' ax).mono' (o.all g.1)) ((c4.mono' ax).mono' (o.all g.1)) ((c5.mono' ax).mono' (o.all g.1)) ((c6.mono' ax).mono' (o.all g.1)) ((c7.mono' ax).mono' (o.all g.1)) ed) (CP.mk (x:=ad) ef ((co.mono' F).mono' (o.all g.1)) ((c9.mono' F).mono' (o.all g.1)) ((da.mono' F).mono' (o.all g.1)) ((db.mono' F).mono' (o.all g.1)) ((dc.mono' F).mono' (o.all g.1)) ((dd.mono' F).mono' (o.all g.1))) hl) (AB O (BZ O (AJ O ?_)))
   cases aw
   exact AU O
  have aw:=GL ld aw
  cases aw
  exact Aa O O
 refine AA O (AV 5 29 (.bool (hk||(decide ((↑ad.Own.length:Int)≠1)))) ?_ ?_)
 ·cases rq:hk
  ·exact AB O (AD D2 O (AB O (AT Bg g O mh O G9 O (AB O (Ak O (co.mono' F) E3 O λrr=>AB O (Bl O (AJ O (AU O))))))))
  exact Aa O O
 refine BQ (kp [29,2,1] O) λrs b2 I=>AX O E (λle E=>?_) (λle E=>?_)
 ·refine AH (AL O (kp [0] O) (Ad (λaa ww hf hw=>?_)))
  have hm:=b2.sel [] 2 O
  cases E
  exact Dr hf hw O O (e5.trans (fj.trans (ak.trans (c8.trans (cn.trans (F.trans I)))))) ⟨O,hm⟩
 refine AO (WF.sl (AI 3 (Dk (vs:=[.string y1.Name,a7,vI y1.Cells,a8,a9,ba,bb,bc,be,bf,vI y1.Err]) A6 b2 O (mt mh) O O G0 O O (Dk (vs:=[vI ad.Hour,bg,bh,bi,bj,bk,bl]) A6 b2 O mh O O G8 O O (H1 (cs:=[vN,vN,vN,vN,vN]) ZE O O O (AG ?_))))))
 have ab:=ak.trans (c8.trans (cn.trans (F.trans I)))
 obtain⟨i,hn,E⟩:=bd E
 refine Ct O O O XT O (K9 b2 (B8.mk (x:=y1) eb (c0.mono' ab) ec (c1.mono' ab) (c2.mono' ab) (c3.mono' ab) (c4.mono' ab) (c5.mono' ab) (c6.mono' ab) (c7.mono' ab) ed) (CP.mk (x:=ad) ef (co.mono' (F.trans I)) (c9.mono' (F.trans I)) (da.mono' (F.trans I)) (db.mono' (F.trans I)) (dc.mono' (F.trans I)) (dd.mono' (F.trans I))) (FY.mk (x:=(⟨[],[],[],[],[]⟩:Cy)) (.inl ⟨O,O⟩) (.inl ⟨O,O⟩) (.inl ⟨O,O⟩) (.inl ⟨O,O⟩) (.inl ⟨O,O⟩)) hn) λrt ru rv bm p=>?_
 obtain⟨rx,eg,eh,rfl,lf,ho⟩:=p
 refine AI 4 (AA O (Bo O (Bo O (Bo O (AG (Cn OT O ho λbx ry hp ay=>?_))))))
 obtain⟨az,a0,a1,a2,a3,a4,rfl,ei,ap,d4,d5,d6,d7,bn⟩:=CP.ex (lf.mono ay)
 refine HM (vs:=[vI i.1.Hour,az,a0,a1,a2,a3,a4]) (cs':=[vI i.1.Hour,az,a0,a1,a2,a3,a4]) O O O (AF O (AF ap.one (AF d4.one (AF d5.one (AF d6.one (AF d7.one (AF bn.one EG))))))) G8 O hp .head O O λrz de J=>AI 2 (AY O (AY O (AG (AZ (kp [5,4,3,2,1] O) (WF.sl (AI 3 (Dk (vs:=[.string y1.Name,a7,vI y1.Cells,a8,a9,ba,bb,bc,be,bf,vI y1.Err]) A6 de O (mt (mt (mt (mt mh)))) O O G0 O O (Dk (vs:=[vI ad.Hour,bg,bh,bi,bj,bk,bl]) A6 de O (mt (mt (mt mh))) O O G8 O O (H1 (cs:=[vI 0,vI 1,vI 60,vI (-1)]) cY O O O (AG (D0 (cs:=[vI 0,vI 1,vI 60,vI (-1)]) eM O O O O O O O de λlg r0 hq K=>AI 1 ?_)))))))))))
 have hr:=hq.bxos (r:=FO) (l:=([(⟨0,1,60,(-1)⟩:FK)]:List FK)) .head ⟨_,_,O,⟨O,⟨(iq (n:=0) O),(iq (n:=1) O),(iq (n:=60) O),(iq (n:=(-1)) O)⟩⟩,O⟩ (by simp [maxLen])
 obtain⟨r1,ht,M,lh⟩:=hr.pubs .head
 refine H1 (cs:=[vN,vN,vN,(.slice (some ⟨lg,0,none⟩) 1 1),vN]) ZE O O O (AG ?_)
 have ae:=ab.trans (bm.trans (ay.trans (J.trans (K.trans M))))
 have aq:=F.trans (I.trans (bm.trans (ay.trans (J.trans (K.trans M)))))
 obtain⟨y,hu,E⟩:=bd E
 refine Ct O O O XT O (K9 ht (B8.mk (x:=y1) eb (c0.mono' ae) ec (c1.mono' ae) (c2.mono' ae) (c3.mono' ae) (c4.mono' ae) (c5.mono' ae) (c6.mono' ae) (c7.mono' ae) ed) (CP.mk (x:=ad) ef (co.mono' aq) (c9.mono' aq) (da.mono' aq) (db.mono' aq) (dc.mono' aq) (dd.mono' aq)) (FY.mk (x:=(⟨[],[],[],([(⟨0,1,60,(-1)⟩:FK)]:List FK),[]⟩:Cy)) (.inl ⟨O,O⟩) (.inl ⟨O,O⟩) (.inl ⟨O,O⟩) lh (.inl ⟨O,O⟩)) hu) λr2 gq r3 ac p=>?_
 obtain⟨r4,cp,ej,rfl,li,hv⟩:=p
 refine AI 4 (AA O (Bo O (Bo O (Bo O (AG (Cn OT O hv λcq r5 hx Z=>?_))))))
 obtain⟨cr,ct,cu,cv,cw,cx,rfl,r6,ek,lj,ll,lm,lo,lp⟩:=CP.ex (li.mono Z)
 refine HM (vs:=[vI y.1.Hour,cr,ct,cu,cv,cw,cx]) (cs':=[vI y.1.Hour,cr,ct,cu,cv,cw,cx]) O O O (AF O (AF ek.one (AF lj.one (AF ll.one (AF lm.one (AF lo.one (AF lp.one EG))))))) G8 O hx .head O O λgr d Q=>AI 2 (AY O (AY O (AG (AZ (kp [7,6,5,4,3,2,1] O) (AC (AH (AA O (K7 d (mt (mt (mt (mt mh)))) O Fs O λr7=>Bl O (AA O (AV 4 55 (.bool ((decide ((↑i.2.1.length:Int)≠2))||(decide ((↑y.2.1.length:Int)≠2)))) ?_ ?_))))))))))
 ·cases r8:(decide ((↑i.2.1.length:Int)≠2))
  ·exact AB O (AA O (AB O (K7 d (mt mh) O Fs O λr9=>AB O (Bl O (AJ O (AU O))))))
  exact Aa O O
 refine AA O (AV 5 61 (.bool (((decide ((↑i.2.1.length:Int)≠2))||(decide ((↑y.2.1.length:Int)≠2)))||(decide ((↑i.1.Own.length:Int)≠1)))) ?_ ?_)
 ·cases sa:((decide ((↑i.2.1.length:Int)≠2))||(decide ((↑y.2.1.length:Int)≠2)))
  ·exact AB O (AD D2 O (AB O (AT A6 d O (mt (mt (mt mh))) O G9 O (AB O (Ak O (ap.mono' (J.trans (K.trans (M.trans (ac.trans (Z.trans Q)))))) E3 O λsc=>AB O (Bl O (AJ O (AU O))))))))
  exact Aa O O
 refine AA O (AV 5 67 (.bool ((((decide ((↑i.2.1.length:Int)≠2))||(decide ((↑y.2.1.length:Int)≠2)))||(decide ((↑i.1.Own.length:Int)≠1)))||(decide ((↑y.1.Own.length:Int)≠1)))) ?_ ?_)
 ·cases sd:(((decide ((↑i.2.1.length:Int)≠2))||(decide ((↑y.2.1.length:Int)≠2)))||(decide ((↑i.1.Own.length:Int)≠1)))
  ·exact AB O (AD D2 O (AB O (AT A6 d O mh O G9 O (AB O (Ak O (ek.mono' Q) E3 O λse=>AB O (Bl O (AJ O (AU O))))))))
  exact Aa O O
 refine AM (kp [67,7,6,5,4,3,2,1] O) (AX O E (λlq E=>?_) (λlq E=>?_))
 ·refine AH (AL O (kp [0] O) (Ad (λaa ww hf hw=>?_)))
  have hy:=d.sel [] 8 O
  cases E
  exact Dr hf hw O O (e5.trans (fj.trans (ak.trans (c8.trans (cn.trans (F.trans (I.trans (bm.trans (ay.trans (J.trans (K.trans (M.trans (ac.trans (Z.trans Q)))))))))))))) ⟨O,hy⟩
 refine AO (AC ?_)
 obtain⟨sf,bo,E⟩:=bd E
 obtain⟨lr,bp,E⟩:=bd E
 obtain⟨sg,z,E⟩:=bd E
 obtain⟨sh,G,E⟩:=bd E
 obtain⟨si,t,E⟩:=bd E
 obtain⟨a5,H,E⟩:=bd E
 refine Ga (λa w=>IV B gq gr (176,[]) a w [(9,.bool a5),(7,cp),(6,vP cq 0),(3,vP bx 0),(2,vP ee 0),(1,vP b9 0)] (Bx cq 36 [vI y.1.Hour,cr,ct,cu,cv,cw,cx]::OS BJ 50 cp y.2.1::OS AN.int 3 ej y.2.2::Bx bx 36 [vI i.1.Hour,az,a0,a1,a2,a3,a4]::OS BJ 50 eg i.2.1::OS AN.int 3 eh i.2.2::Bx ee 36 [vI ad.Hour,bg,bh,bi,bj,bk,bl]::Bx b9 31 [.string y1.Name,a7,vI y1.Cells,a8,a9,ba,bb,bc,be,bf,vI y1.Err]::L) λ_ _=>True) ?_ ?_
 ·rcases Xr (decide (lr.Way=(-1))) with a6|a6
  ·have z:=GM a6 z
   have ls:=Option.some.inj z
   subst ls
   have lt:=Option.some.inj G
   subst lt
   have lu:=Option.some.inj t
   subst lu
   have lv:=Option.some.inj H
   subst lv
   refine EX (AI 1 (AA O (AG (AI 1 (A0 d (mt (mt (mt (mt mh)))) O O Fs bo O λsj hz=>AG (AI 1 (Eq O hz Hv O λsk h0=>AG (AI 1 ?_))))))))
   have lw:=d.epAt (mt (mt (mt (mt mh)))) bp ED h0
   refine Ag A6 (λ_ x=>x) O lw Ae O λsm=>AG (AI 1 (BK O (AG (Gh a6 (AI 1 (AA O (AG (AI 1 (Ay O (AG (AI 1 (Ay O (AG (AI 1 (Ay O (AG (AI 1 (Ay O (AG (AI 1 (Ay O (AG (AI 1 (Ay O (AG (AI 1 (AJ O (AG ?_))))))))))))))))))))))))))))
   refine AI 1 (AA O (AG (AI 1 (Ay O (AG (AI 1 (Ay O (AG (AI 1 (Ay O (AG (AI 1 (Ay O (AG (AI 1 (Ay O (AG (AI 1 (AJ O (AG (AI 1 (AA O (AG (AI 1 (Ay O (AG (AI 1 (Ay O (AG ?_)))))))))))))))))))))))))))))
   refine AI 1 (Ay O (AG (AI 1 (Ay O (AG (AI 1 (Ay O (AG (AI 1 (Ay O (AG (AI 1 (AJ O (AG (AI 1 (AA O (AG (AI 1 (Ay O (AG (AI 1 (Ay O (AG (AI 1 (Ay O (AG (AI 1 (AJ O (AG ?_)))))))))))))))))))))))))))))
   exact AI 1 (AY O (AG (AZ (kp [9,7,6,3,2,1] O) (WF.nil (λaa ww hf hw=>⟨_,_,hf.sub (kp [9,7,6,3,2,1] O),hw,d,(B9.refl gq gr),trivial⟩)))))
  have z:=GL a6 z
  obtain⟨sn,b3,z⟩:=bd z
  obtain⟨so,b4,z⟩:=bd z
  obtain⟨lx,b5,z⟩:=bd z
  have ly:=Option.some.inj z
  subst ly
  rcases Xr lx with bq|bq
  ·have G:=GM bq G
   have lz:=Option.some.inj G
   subst lz
   have l0:=Option.some.inj t
   subst l0
   have l1:=Option.some.inj H
   subst l1
   refine EX (AI 1 (AA O (AG (AI 1 (A0 d (mt (mt (mt (mt mh)))) O O Fs bo O λsp h1=>AG (AI 1 (Eq O h1 Hv O λsq h2=>AG (AI 1 ?_))))))))
   have l2:=d.epAt (mt (mt (mt (mt mh)))) bp ED h2
   refine Ag A6 (λ_ x=>x) O l2 Ae O λss=>AG (AI 1 (BK O (AG (Gh a6 (AI 1 (AA O (AG (AI 1 (AB O (AA O (AG (AI 1 (AB O (A0 d (mt (mt (mt (mt mh)))) O O Fs b3 O λsu h3=>AG (AI 1 (AB O (Eq O h3 Hu O λsv h5=>AG (AI 1 (AB O ?_)))))))))))))))))))
   have l3:=d.epAt (mt (mt (mt (mt mh)))) b4 Ah.f_Part h5
   refine Al A6 (λ_ x=>x) O l3 BX O λsw l4=>AG (GD O O O (D0 (cs:=[vI 10,vI 5]) FJ O O O O O O O d λsx sy h6 gs=>GD O O O ?_))
   have h7:=h6.bxos (r:=AN.int) (l:=([10,5]:List Int)) .head ⟨_,_,O,⟨O,(iq (n:=10) O)⟩,⟨_,_,O,⟨O,(iq (n:=5) O)⟩,O⟩⟩ (by simp [maxLen])
   obtain⟨sz,df,gt,l5⟩:=h7.pubs .head
   refine Bf O O O I0 O df (BI (St.all _) ((l4.mono' (gs.trans gt)).mono (λb hb=>df.1 b hb) (λ_ _=>rfl)) (l5.mono (λb hb=>df.1 b hb) (λ_ _=>rfl)) b5) λs0 s1 s2 h8 l6 s3 p=>?_
   obtain⟨rfl,os⟩:=p
   refine Gh bq (AI 1 (AJ O (AG (AI 1 (AA O (AG (AI 1 (Ay O (AG (AI 1 (Ay O (AG (AI 1 (Ay O (AG (AI 1 (Ay O (AG (AI 1 (Ay O (AG (AI 1 (AJ O (AG (AI 1 (AA O (AG (AI 1 (Ay O ?_)))))))))))))))))))))))))))))
   refine AG (AI 1 (Ay O (AG (AI 1 (Ay O (AG (AI 1 (Ay O (AG (AI 1 (Ay O (AG (AI 1 (Ay O (AG (AI 1 (AJ O (AG (AI 1 (AA O (AG (AI 1 (Ay O (AG (AI 1 (Ay O (AG (AI 1 (Ay O ?_)))))))))))))))))))))))))))))
   exact AG (AI 1 (AJ O (AG (AI 1 (AY O (AG (AZ (kp [9,7,6,3,2,1] O) (WF.nil (λaa ww hf hw=>⟨_,_,hf.sub (kp [9,7,6,3,2,1] O),hw,h8,(gs.trans (gt.trans l6)),trivial⟩)))))))))
  have G:=GL bq G
  obtain⟨s4,dg,G⟩:=bd G
  obtain⟨l7,dh,G⟩:=bd G
  have l8:=Option.some.inj G
  subst l8
  rcases Xr (decide (l7.Way=(-2))) with bz|bz
  ·have t:=GM bz t
   have l9:=Option.some.inj t
   subst l9
   have ma:=Option.some.inj H
   subst ma
   refine EX (AI 1 (AA O (AG (AI 1 (A0 d (mt (mt (mt (mt mh)))) O O Fs bo O λs5 h9=>AG (AI 1 (Eq O h9 Hv O λs6 ia=>AG (AI 1 ?_))))))))
   have mb:=d.epAt (mt (mt (mt (mt mh)))) bp ED ia
   refine Ag A6 (λ_ x=>x) O mb Ae O λs7=>AG (AI 1 (BK O (AG (Gh a6 (AI 1 (AA O (AG (AI 1 (AB O (AA O (AG (AI 1 (AB O (A0 d (mt (mt (mt (mt mh)))) O O Fs b3 O λs8 ib=>AG (AI 1 (AB O (Eq O ib Hu O λs9 ic=>AG (AI 1 (AB O ?_)))))))))))))))))))
   have mc:=d.epAt (mt (mt (mt (mt mh)))) b4 Ah.f_Part ic
   refine Al A6 (λ_ x=>x) O mc BX O λta md=>AG (GD O O O (D0 (cs:=[vI 10,vI 5]) FJ O O O O O O O d λtb tc id gu=>GD O O O ?_))
   have ie:=id.bxos (r:=AN.int) (l:=([10,5]:List Int)) .head ⟨_,_,O,⟨O,(iq (n:=10) O)⟩,⟨_,_,O,⟨O,(iq (n:=5) O)⟩,O⟩⟩ (by simp [maxLen])
   obtain⟨td,di,gv,me⟩:=ie.pubs .head
   refine Bf O O O I0 O di (BI (St.all _) ((md.mono' (gu.trans gv)).mono (λb hb=>di.1 b hb) (λ_ _=>rfl)) (me.mono (λb hb=>di.1 b hb) (λ_ _=>rfl)) b5) λte tf tg dj mf th p=>?_
   obtain⟨rfl,ot⟩:=p
   refine Gh bq (AI 1 (AJ O (AG (AI 1 (AA O (AG (AI 1 (AB O (AA O (AG (AI 1 (AB O (A0 dj (mt (mt (mt (mt mh)))) O O Fs dg O λti ig=>AG (AI 1 (AB O (Eq O ig Hv O λtj ih=>AG (AI 1 (AB O ?_))))))))))))))))))
   have mg:=dj.epAt (mt (mt (mt (mt mh)))) dh ED ih
   refine Ag A6 (λ_ x=>x) O mg Ae O λtk=>AG (AI 1 (AB O (BK O (AG (Gh bz (AI 1 (AJ O (AG (AI 1 (AA O (AG (AI 1 (Ay O (AG (AI 1 (Ay O (AG (AI 1 (Ay O (AG (AI 1 (Ay O (AG (AI 1 (Ay O (AG (AI 1 (Ay O ?_))))))))))))))))))))))))))))
   exact AG (AI 1 (AJ O (AG (AI 1 (AA O (AG (AI 1 (Ay O (AG (AI 1 (Ay O (AG (AI 1 (Ay O (AG (AI 1 (AJ O (AG (AI 1 (AY O (AG (AZ (kp [9,7,6,3,2,1] O) (WF.nil (λaa ww hf hw=>⟨_,_,hf.sub (kp [9,7,6,3,2,1] O),hw,dj,(gu.trans (gv.trans mf)),trivial⟩))))))))))))))))))))))))
  have t:=GL bz t
  obtain⟨tl,el,t⟩:=bd t
  obtain⟨tm,em,t⟩:=bd t
  obtain⟨mi,en,t⟩:=bd t
  have mj:=Option.some.inj t
  subst mj
  rcases Xr mi with cy|cy
  ·have H:=GM cy H
   have ml:=Option.some.inj H
   subst ml
   refine EX (AI 1 (AA O (AG (AI 1 (A0 d (mt (mt (mt (mt mh)))) O O Fs bo O λtn ii=>AG (AI 1 (Eq O ii Hv O λtp ij=>AG (AI 1 ?_))))))))
   have mm:=d.epAt (mt (mt (mt (mt mh)))) bp ED ij
   refine Ag A6 (λ_ x=>x) O mm Ae O λtq=>AG (AI 1 (BK O (AG (Gh a6 (AI 1 (AA O (AG (AI 1 (AB O (AA O (AG (AI 1 (AB O (A0 d (mt (mt (mt (mt mh)))) O O Fs b3 O λtr ik=>AG (AI 1 (AB O (Eq O ik Hu O λts il=>AG (AI 1 (AB O ?_)))))))))))))))))))
   have mn:=d.epAt (mt (mt (mt (mt mh)))) b4 Ah.f_Part il
   refine Al A6 (λ_ x=>x) O mn BX O λtt mp=>AG (GD O O O (D0 (cs:=[vI 10,vI 5]) FJ O O O O O O O d λtu tv im gw=>GD O O O ?_))
   have io:=im.bxos (r:=AN.int) (l:=([10,5]:List Int)) .head ⟨_,_,O,⟨O,(iq (n:=10) O)⟩,⟨_,_,O,⟨O,(iq (n:=5) O)⟩,O⟩⟩ (by simp [maxLen])
   obtain⟨tw,dk,gx,mq⟩:=io.pubs .head
   refine Bf O O O I0 O dk (BI (St.all _) ((mp.mono' (gw.trans gx)).mono (λb hb=>dk.1 b hb) (λ_ _=>rfl)) (mq.mono (λb hb=>dk.1 b hb) (λ_ _=>rfl)) b5) λtx ty tz br mr t0 p=>?_
   obtain⟨rfl,ou⟩:=p
   refine Gh bq (AI 1 (AJ O (AG (AI 1 (AA O (AG (AI 1 (AB O (AA O (AG (AI 1 (AB O (A0 br (mt (mt (mt (mt mh)))) O O Fs dg O λt1 ip=>AG (AI 1 (AB O (Eq O ip Hv O λt2 ir=>AG (AI 1 (AB O ?_))))))))))))))))))
   have ms:=br.epAt (mt (mt (mt (mt mh)))) dh ED ir
   refine Ag A6 (λ_ x=>x) O ms Ae O λt3=>AG (AI 1 (AB O (BK O (AG (Gh bz (AI 1 (AJ O (AG (AI 1 (AA O (AG (AI 1 (AB O (AA O (AG (AI 1 (AB O (A0 br (mt (mt (mt (mt mh)))) O O Fs el O λt4 it=>AG (AI 1 (AB O (Eq O it Hu O λt5 iu=>AG (AI 1 (AB O ?_)))))))))))))))))))))))
   have mu:=br.epAt (mt (mt (mt (mt mh)))) em Ah.f_Part iu
   refine Al A6 (λ_ x=>x) O mu BX O λt6 mv=>AG (GD O O O (D0 (cs:=[vI 10,vI 5]) FJ O O O O O O O br λt7 t8 iv gz=>GD O O O ?_))
   have iw:=iv.bxos (r:=AN.int) (l:=([10,5]:List Int)) .head ⟨_,_,O,⟨O,(iq (n:=10) O)⟩,⟨_,_,O,⟨O,(iq (n:=5) O)⟩,O⟩⟩ (by simp [maxLen])
   obtain⟨t9,dl,g0,mw⟩:=iw.pubs .head
   refine Bf O O O I0 O dl (BI (St.all _) ((mv.mono' (gz.trans g0)).mono (λb hb=>dl.1 b hb) (λ_ _=>rfl)) (mw.mono (λb hb=>dl.1 b hb) (λ_ _=>rfl)) en) λua ub uc iy mx ud p=>?_
   obtain⟨rfl,ov⟩:=p
   exact Gh cy (AI 1 (AJ O (AG (AI 1 (AA O (AG (AI 1 (Ay O (AG (AI 1 (Ay O (AG (AI 1 (Ay O (AG (AI 1 (AJ O (AG (AI 1 (AY O (AG (AZ (kp [9,7,6,3,2,1] O) (WF.nil (λaa ww hf hw=>⟨_,_,hf.sub (kp [9,7,6,3,2,1] O),hw,iy,(gw.trans (gx.trans (mr.trans (gz.trans (g0.trans mx))))),trivial⟩))))))))))))))))))))))))
  have H:=GL cy H
  obtain⟨ue,iz,H⟩:=bd H
  have my:=Option.some.inj H
  subst my
  refine EX (AI 1 (AA O (AG (AI 1 (A0 d (mt (mt (mt (mt mh)))) O O Fs bo O λuf i0=>AG (AI 1 (Eq O i0 Hv O λug i1=>AG (AI 1 ?_))))))))
  have mz:=d.epAt (mt (mt (mt (mt mh)))) bp ED i1
  refine Ag A6 (λ_ x=>x) O mz Ae O λuh=>AG (AI 1 (BK O (AG (Gh a6 (AI 1 (AA O (AG (AI 1 (AB O (AA O (AG (AI 1 (AB O (A0 d (mt (mt (mt (mt mh)))) O O Fs b3 O λui i2=>AG (AI 1 (AB O (Eq O i2 Hu O λuj i3=>AG (AI 1 (AB O ?_)))))))))))))))))))
  have m0:=d.epAt (mt (mt (mt (mt mh)))) b4 Ah.f_Part i3
  refine Al A6 (λ_ x=>x) O m0 BX O λuk m1=>AG (GD O O O (D0 (cs:=[vI 10,vI 5]) FJ O O O O O O O d λul um i4 g1=>GD O O O ?_))
  have i5:=i4.bxos (r:=AN.int) (l:=([10,5]:List Int)) .head ⟨_,_,O,⟨O,(iq (n:=10) O)⟩,⟨_,_,O,⟨O,(iq (n:=5) O)⟩,O⟩⟩ (by simp [maxLen])
  obtain⟨un,dm,g2,m2⟩:=i5.pubs .head
  refine Bf O O O I0 O dm (BI (St.all _) ((m1.mono' (g1.trans g2)).mono (λb hb=>dm.1 b hb) (λ_ _=>rfl)) (m2.mono (λb hb=>dm.1 b hb) (λ_ _=>rfl)) b5) λuo up uq bs m3 ur p=>?_
  obtain⟨rfl,ow⟩:=p
  refine Gh bq (AI 1 (AJ O (AG (AI 1 (AA O (AG (AI 1 (AB O (AA O (AG (AI 1 (AB O (A0 bs (mt (mt (mt (mt mh)))) O O Fs dg O λus i6=>AG (AI 1 (AB O (Eq O i6 Hv O λut i7=>AG (AI 1 (AB O ?_))))))))))))))))))
  have m4:=bs.epAt (mt (mt (mt (mt mh)))) dh ED i7
  refine Ag A6 (λ_ x=>x) O m4 Ae O λuu=>AG (AI 1 (AB O (BK O (AG (Gh bz (AI 1 (AJ O (AG (AI 1 (AA O (AG (AI 1 (AB O (AA O (AG (AI 1 (AB O (A0 bs (mt (mt (mt (mt mh)))) O O Fs el O λuv i8=>AG (AI 1 (AB O (Eq O i8 Hu O λuw i9=>AG (AI 1 (AB O ?_)))))))))))))))))))))))
  have m5:=bs.epAt (mt (mt (mt (mt mh)))) em Ah.f_Part i9
  refine Al A6 (λ_ x=>x) O m5 BX O λux m6=>AG (GD O O O (D0 (cs:=[vI 10,vI 5]) FJ O O O O O O O bs λuy uz ja g3=>GD O O O ?_))
  have jb:=ja.bxos (r:=AN.int) (l:=([10,5]:List Int)) .head ⟨_,_,O,⟨O,(iq (n:=10) O)⟩,⟨_,_,O,⟨O,(iq (n:=5) O)⟩,O⟩⟩ (by simp [maxLen])
  obtain⟨u0,dn,g4,m7⟩:=jb.pubs .head
  refine Bf O O O I0 O dn (BI (St.all _) ((m6.mono' (g3.trans g4)).mono (λb hb=>dn.1 b hb) (λ_ _=>rfl)) (m7.mono (λb hb=>dn.1 b hb) (λ_ _=>rfl)) en) λu1 u2 u3 jc m8 u4 p=>?_
  obtain⟨rfl,ox⟩:=p
  refine Gh cy (AI 1 (AJ O (AG (AI 1 (AA O (AG (AI 1 (AB O (AA O (AG (GD O O O (D0 (cs:=[vI 150]) FJ O O O O O O O jc λu5 u6 jd m9=>GD O O O ?_))))))))))))
  have je:=jd.bxos (r:=AN.int) (l:=([150]:List Int)) .head ⟨_,_,O,⟨O,(iq (n:=150) O)⟩,O⟩ (by simp [maxLen])
  obtain⟨u7,dp,na,nb⟩:=je.pubs .head
  refine Bf O O O I0 O dp (BI (St.all _) (dp.oslAll (mt (mt (mt (mt (mt mh)))))) (nb.mono (λb hb=>dp.1 b hb) (λ_ _=>rfl)) iz) λu8 u9 va jf nc vb p=>?_
  obtain⟨rfl,oy⟩:=p
  exact AI 1 (AJ O (AG (AI 1 (AY O (AG (AZ (kp [9,7,6,3,2,1] O) (WF.nil (λaa ww hf hw=>⟨_,_,hf.sub (kp [9,7,6,3,2,1] O),hw,jf,(g1.trans (g2.trans (m3.trans (g3.trans (g4.trans (m8.trans (m9.trans (na.trans nc)))))))),trivial⟩))))))))
 rintro aa ww ⟨nd,ne,hf,hw,A,af,_⟩
 refine Ac ?_ hf hw
 clear hf hw ww aa
 refine AC ?_
 obtain⟨vc,b6,E⟩:=bd E
 obtain⟨nf,b7,E⟩:=bd E
 obtain⟨vd,ag,E⟩:=bd E
 obtain⟨ve,am,E⟩:=bd E
 obtain⟨b0,C,E⟩:=bd E
 refine Ga (λa w=>IV B nd ne (176,[]) a w [(10,.bool b0),(9,.bool a5),(7,cp),(6,vP cq 0),(3,vP bx 0),(2,vP ee 0),(1,vP b9 0)] (Bx cq 36 [vI y.1.Hour,cr,ct,cu,cv,cw,cx]::OS BJ 50 cp y.2.1::OS AN.int 3 ej y.2.2::Bx bx 36 [vI i.1.Hour,az,a0,a1,a2,a3,a4]::OS BJ 50 eg i.2.1::OS AN.int 3 eh i.2.2::Bx ee 36 [vI ad.Hour,bg,bh,bi,bj,bk,bl]::Bx b9 31 [.string y1.Name,a7,vI y1.Cells,a8,a9,ba,bb,bc,be,bf,vI y1.Err]::L) λ_ _=>True) ?_ ?_
 ·rcases Xr nf with bt|bt
  ·have ag:=GM bt ag
   have ng:=Option.some.inj ag
   subst ng
   have nh:=Option.some.inj am
   subst nh
   have ni:=Option.some.inj C
   subst ni
   refine EX (AI 1 (AD D2 O (AG (AI 1 (AT A6 A O (mt (mt (mt mh))) O G9 O (AG (AI 1 (A9 O O (ap.mono' (J.trans (K.trans (M.trans (ac.trans (Z.trans (Q.trans af))))))) E3 b6 O λvf nj=>AG (AI 1 (Al A6 A.1 O nj BX O λvg nk=>AG (D0 (cs:=[vI 80,vI 40]) FJ O O O O O O O A λvh vi jg g5=>?_)))))))))))
   have jh:=jg.bxos (r:=AN.int) (l:=([80,40]:List Int)) .head ⟨_,_,O,⟨O,(iq (n:=80) O)⟩,⟨_,_,O,⟨O,(iq (n:=40) O)⟩,O⟩⟩ (by simp [maxLen])
   obtain⟨vj,dq,g6,nl⟩:=jh.pubs .head
   refine Bf O O O I0 O dq (BI (St.all _) ((nk.mono' (g5.trans g6)).mono (λb hb=>dq.1 b hb) (λ_ _=>rfl)) (nl.mono (λb hb=>dq.1 b hb) (λ_ _=>rfl)) b7) λvk vl vm ji nm vn p=>?_
   obtain⟨rfl,oz⟩:=p
   refine Gh bt (AI 1 (AA O (AG (AI 1 (Ay O (AG (AI 1 (Ay O (AG (AI 1 (Ay O (AG (AI 1 (Ay O (AG (AI 1 (AJ O (AG (AI 1 (AA O (AG (AI 1 (Ay O (AG (AI 1 (Ay O (AG (AI 1 (Ay O ?_)))))))))))))))))))))))))))))
   exact AG (AI 1 (AJ O (AG (AI 1 (AA O (AG (AI 1 (Ay O (AG (AI 1 (Ay O (AG (AI 1 (Ay O (AG (AI 1 (Ay O (AG (AI 1 (AJ O (AG (AI 1 (AY O (AG (AZ (kp [10,9,7,6,3,2,1] O) (WF.nil (λaa ww hf hw=>⟨_,_,hf.sub (kp [10,9,7,6,3,2,1] O),hw,ji,(g5.trans (g6.trans nm)),trivial⟩)))))))))))))))))))))))))))
  have ag:=GL bt ag
  obtain⟨nn,dr,ag⟩:=bd ag
  have no:=Option.some.inj ag
  subst no
  rcases Xr nn with b1|b1
  ·have am:=GM b1 am
   have np:=Option.some.inj am
   subst np
   have nq:=Option.some.inj C
   subst nq
   refine EX (AI 1 (AD D2 O (AG (AI 1 (AT A6 A O (mt (mt (mt mh))) O G9 O (AG (AI 1 ?_)))))))
   have eo:=J.trans (K.trans (M.trans (ac.trans (Z.trans (Q.trans af)))))
   refine A9 O O (ap.mono' eo) E3 b6 O λvo nr=>AG (AI 1 (Al A6 A.1 O nr BX O λvp ns=>AG (D0 (cs:=[vI 80,vI 40]) FJ O O O O O O O A λvq vr jj ep=>?_)))
   have jk:=jj.bxos (r:=AN.int) (l:=([80,40]:List Int)) .head ⟨_,_,O,⟨O,(iq (n:=80) O)⟩,⟨_,_,O,⟨O,(iq (n:=40) O)⟩,O⟩⟩ (by simp [maxLen])
   obtain⟨vt,ds,eq,nt⟩:=jk.pubs .head
   refine Bf O O O I0 O ds (BI (St.all _) ((ns.mono' (ep.trans eq)).mono (λb hb=>ds.1 b hb) (λ_ _=>rfl)) (nt.mono (λb hb=>ds.1 b hb) (λ_ _=>rfl)) b7) λvu vv vw er g7 vx p=>?_
   obtain⟨rfl,o0⟩:=p
   refine Gh bt (AI 1 (AA O (AG (AI 1 (AB O (AD JL O (AG (AI 1 (AB O (AT A6 er O (mt (mt (mt mh))) O BX O (AG (GD O O O (D0 (cs:=[vI 20,vI 10]) FJ O O O O O O O er λvy vz jl g8=>GD O O O ?_)))))))))))))
   have jm:=jl.bxos (r:=AN.int) (l:=([20,10]:List Int)) .head ⟨_,_,O,⟨O,(iq (n:=20) O)⟩,⟨_,_,O,⟨O,(iq (n:=10) O)⟩,O⟩⟩ (by simp [maxLen])
   obtain⟨v0,dt,g9,nu⟩:=jm.pubs .head
   refine Bf O O O I0 O dt (BI (St.all _) ((bn.mono' (eo.trans (ep.trans (eq.trans (g7.trans (g8.trans g9)))))).mono (λb hb=>dt.1 b hb) (λ_ _=>rfl)) (nu.mono (λb hb=>dt.1 b hb) (λ_ _=>rfl)) dr) λv3 v4 v5 jn nv v6 p=>?_
   obtain⟨rfl,o1⟩:=p
   refine Gh b1 (AI 1 (AJ O (AG (AI 1 (AA O (AG (AI 1 (Ay O (AG (AI 1 (Ay O (AG (AI 1 (Ay O (AG (AI 1 (AJ O (AG (AI 1 (AA O (AG (AI 1 (Ay O (AG (AI 1 (Ay O (AG (AI 1 (Ay O ?_)))))))))))))))))))))))))))))
   exact AG (AI 1 (Ay O (AG (AI 1 (AJ O (AG (AI 1 (AY O (AG (AZ (kp [10,9,7,6,3,2,1] O) (WF.nil (λaa ww hf hw=>⟨_,_,hf.sub (kp [10,9,7,6,3,2,1] O),hw,jn,(ep.trans (eq.trans (g7.trans (g8.trans (g9.trans nv))))),trivial⟩))))))))))))
  have am:=GL b1 am
  have nw:=Option.some.inj am
  subst nw
  rcases Xr (decide (i.1.Hour=6)) with cz|cz
  ·have C:=GM cz C
   have nx:=Option.some.inj C
   subst nx
   refine EX (AI 1 (AD D2 O (AG (AI 1 (AT A6 A O (mt (mt (mt mh))) O G9 O (AG (AI 1 ?_)))))))
   have es:=J.trans (K.trans (M.trans (ac.trans (Z.trans (Q.trans af)))))
   refine A9 O O (ap.mono' es) E3 b6 O λv7 ny=>AG (AI 1 (Al A6 A.1 O ny BX O λv8 nz=>AG (D0 (cs:=[vI 80,vI 40]) FJ O O O O O O O A λv9 wa jo et=>?_)))
   have jp:=jo.bxos (r:=AN.int) (l:=([80,40]:List Int)) .head ⟨_,_,O,⟨O,(iq (n:=80) O)⟩,⟨_,_,O,⟨O,(iq (n:=40) O)⟩,O⟩⟩ (by simp [maxLen])
   obtain⟨wb,du,eu,n0⟩:=jp.pubs .head
   refine Bf O O O I0 O du (BI (St.all _) ((nz.mono' (et.trans eu)).mono (λb hb=>du.1 b hb) (λ_ _=>rfl)) (n0.mono (λb hb=>du.1 b hb) (λ_ _=>rfl)) b7) λwc wd we ev ha wf p=>?_
   obtain⟨rfl,o2⟩:=p
   refine Gh bt (AI 1 (AA O (AG (AI 1 (AB O (AD JL O (AG (AI 1 (AB O (AT A6 ev O (mt (mt (mt mh))) O BX O (AG (GD O O O (D0 (cs:=[vI 20,vI 10]) FJ O O O O O O O ev λwg wh jq hc=>GD O O O ?_)))))))))))))
   have jr:=jq.bxos (r:=AN.int) (l:=([20,10]:List Int)) .head ⟨_,_,O,⟨O,(iq (n:=20) O)⟩,⟨_,_,O,⟨O,(iq (n:=10) O)⟩,O⟩⟩ (by simp [maxLen])
   obtain⟨wi,dv,hd,n1⟩:=jr.pubs .head
   refine Bf O O O I0 O dv (BI (St.all _) ((bn.mono' (es.trans (et.trans (eu.trans (ha.trans (hc.trans hd)))))).mono (λb hb=>dv.1 b hb) (λ_ _=>rfl)) (n1.mono (λb hb=>dv.1 b hb) (λ_ _=>rfl)) dr) λwj wk wl ew n2 wm p=>?_
   obtain⟨rfl,o3⟩:=p
   refine Gh b1 (AI 1 (AJ O (AG (AI 1 (AA O (AG (AI 1 (AB O (AD IM O (AG (AI 1 (AB O (AT A6 ew O (mt (mt (mt mh))) O Ae O (AG (AI 1 (AB O (BK O (AG (Gh cz (AI 1 (AJ O (AG (AI 1 (AA O (AG (AI 1 (Ay O (AG (AI 1 ?_)))))))))))))))))))))))))))))
   exact Ay O (AG (AI 1 (Ay O (AG (AI 1 (Ay O (AG (AI 1 (AJ O (AG (AI 1 (AY O (AG (AZ (kp [10,9,7,6,3,2,1] O) (WF.nil (λaa ww hf hw=>⟨_,_,hf.sub (kp [10,9,7,6,3,2,1] O),hw,ew,(et.trans (eu.trans (ha.trans (hc.trans (hd.trans n2))))),trivial⟩))))))))))))))))
  have C:=GL cz C
  obtain⟨wn,js,C⟩:=bd C
  obtain⟨wo,jt,C⟩:=bd C
  have n3:=Option.some.inj C
  subst n3
  refine EX (AI 1 (AD D2 O (AG (AI 1 (AT A6 A O (mt (mt (mt mh))) O G9 O (AG (AI 1 ?_)))))))
  have ey:=J.trans (K.trans (M.trans (ac.trans (Z.trans (Q.trans af)))))
  refine A9 O O (ap.mono' ey) E3 b6 O λwp n4=>AG (AI 1 (Al A6 A.1 O n4 BX O λwq n5=>AG (D0 (cs:=[vI 80,vI 40]) FJ O O O O O O O A λwr ws ju ez=>?_)))
  have jv:=ju.bxos (r:=AN.int) (l:=([80,40]:List Int)) .head ⟨_,_,O,⟨O,(iq (n:=80) O)⟩,⟨_,_,O,⟨O,(iq (n:=40) O)⟩,O⟩⟩ (by simp [maxLen])
  obtain⟨wt,dw,e0,n6⟩:=jv.pubs .head
  refine Bf O O O I0 O dw (BI (St.all _) ((n5.mono' (ez.trans e0)).mono (λb hb=>dw.1 b hb) (λ_ _=>rfl)) (n6.mono (λb hb=>dw.1 b hb) (λ_ _=>rfl)) b7) λwu wv wx e1 he wy p=>?_
  obtain⟨rfl,o4⟩:=p
  refine Gh bt (AI 1 (AA O (AG (AI 1 (AB O (AD JL O (AG (AI 1 (AB O (AT A6 e1 O (mt (mt (mt mh))) O BX O (AG (GD O O O (D0 (cs:=[vI 20,vI 10]) FJ O O O O O O O e1 λwz w0 jw hg=>GD O O O ?_)))))))))))))
  have jx:=jw.bxos (r:=AN.int) (l:=([20,10]:List Int)) .head ⟨_,_,O,⟨O,(iq (n:=20) O)⟩,⟨_,_,O,⟨O,(iq (n:=10) O)⟩,O⟩⟩ (by simp [maxLen])
  obtain⟨w1,dx,hh,n7⟩:=jx.pubs .head
  have an:=ey.trans (ez.trans (e0.trans (he.trans (hg.trans hh))))
  refine Bf O O O I0 O dx (BI (St.all _) ((bn.mono' an).mono (λb hb=>dx.1 b hb) (λ_ _=>rfl)) (n7.mono (λb hb=>dx.1 b hb) (λ_ _=>rfl)) dr) λw2 w3 w4 Y bu w5 p=>?_
  obtain⟨rfl,o5⟩:=p
  refine Gh b1 (AI 1 (AJ O (AG (AI 1 (AA O (AG (AI 1 (AB O (AD IM O (AG (AI 1 (AB O (AT A6 Y O (mt (mt (mt mh))) O Ae O (AG (AI 1 (AB O (BK O (AG (Gh cz (AI 1 (AJ O (AG (AI 1 (AA O (AG (AI 1 (AB O (Dk (vs:=[vI i.1.Hour,az,a0,a1,a2,a3,a4]) A6 Y O (mt (mt (mt mh))) O O G8 O O (AG ?_)))))))))))))))))))))))))))))
  refine GD O O O (Bf O O O gU O Y (Pa (St.all _) (CP.mk (x:=i.1) ei ((ap.mono' (an.trans bu)).mono (λb hb=>Y.1 b hb) (λ_ _=>rfl)) ((d4.mono' (an.trans bu)).mono (λb hb=>Y.1 b hb) (λ_ _=>rfl)) ((d5.mono' (an.trans bu)).mono (λb hb=>Y.1 b hb) (λ_ _=>rfl)) ((d6.mono' (an.trans bu)).mono (λb hb=>Y.1 b hb) (λ_ _=>rfl)) ((d7.mono' (an.trans bu)).mono (λb hb=>Y.1 b hb) (λ_ _=>rfl)) ((bn.mono' (an.trans bu)).mono (λb hb=>Y.1 b hb) (λ_ _=>rfl))) js) λw6 w7 w8 o6 n8 n9 p=>?_)
  have jy:=p
  have e2:=Y.join n9 jy ⟨OS.flat (λ{_ _ _ _ _ _} k=>k),trivial⟩
  simp only[List.cons_append,List.nil_append] at e2
  refine GD O O O (D0 (cs:=[vI 80,vI 40]) FJ O O O O O O O e2 λw9 xa jz oa=>GD O O O ?_)
  have j0:=jz.bxos (r:=AN.int) (l:=([80,40]:List Int)) .head ⟨_,_,O,⟨O,(iq (n:=80) O)⟩,⟨_,_,O,⟨O,(iq (n:=40) O)⟩,O⟩⟩ (by simp [maxLen])
  obtain⟨xb,dy,ob,oc⟩:=j0.pubs .head
  refine Bf O O O I0 O dy (BI (St.all _) (dy.oslAll mh) (oc.mono (λb hb=>dy.1 b hb) (λ_ _=>rfl)) jt) λxc xd xe j1 od xf p=>?_
  obtain⟨rfl,o7⟩:=p
  refine AI 1 (AJ O (AG (AI 1 (AY O (AG (AZ (kp [10,9,7,6,3,2,1] O) ?_))))))
  have j2:=j1.sel [1,1,1,1,1,1,1,1] 1 O
  exact WF.nil (λaa ww hf hw=>⟨_,_,hf.sub (kp [10,9,7,6,3,2,1] O),hw,j2,(ez.trans (e0.trans (he.trans (hg.trans (hh.trans (bu.trans (n8.trans (oa.trans (ob.trans od))))))))),trivial⟩)
 rintro aa ww ⟨hi,hj,hf,hw,j,bv,_⟩
 refine Ac ?_ hf hw
 clear hf hw ww aa
 refine AC ?_
 obtain⟨xg,b8,E⟩:=bd E
 obtain⟨oe,ca,E⟩:=bd E
 obtain⟨xh,D,E⟩:=bd E
 obtain⟨xi,u,E⟩:=bd E
 obtain⟨dz,m,E⟩:=bd E
 refine Ga (λa w=>IV B hi hj (176,[]) a w [(11,.bool dz),(10,.bool b0),(9,.bool a5),(3,vP bx 0),(2,vP ee 0),(1,vP b9 0)] (Bx cq 36 [vI y.1.Hour,cr,ct,cu,cv,cw,cx]::OS BJ 50 cp y.2.1::OS AN.int 3 ej y.2.2::Bx bx 36 [vI i.1.Hour,az,a0,a1,a2,a3,a4]::OS BJ 50 eg i.2.1::OS AN.int 3 eh i.2.2::Bx ee 36 [vI ad.Hour,bg,bh,bi,bj,bk,bl]::Bx b9 31 [.string y1.Name,a7,vI y1.Cells,a8,a9,ba,bb,bc,be,bf,vI y1.Err]::L) λ_ _=>True) ?_ ?_
 ·rcases Xr (decide (oe.Way=(-3))) with ao|ao
  ·have D:=GM ao D
   have j3:=Option.some.inj D
   subst j3
   have j4:=Option.some.inj u
   subst j4
   have j5:=Option.some.inj m
   subst j5
   refine EX (AI 1 (AA O (AG (AI 1 (A0 j (mt mh) O O Fs b8 O λo8 fk=>AG (AI 1 (Eq O fk Hv O λo9 fl=>AG (AI 1 ?_))))))))
   have j6:=j.epAt (mt mh) ca ED fl
   refine Ag A6 (λ_ x=>x) O j6 Ae O λpa=>AG (AI 1 (BK O (AG (Gh ao (AI 1 (AA O (AG (AI 1 (Ay O (AG (AI 1 (Ay O (AG (AI 1 (Ay O (AG (AI 1 (Ay O (AG (AI 1 (Ay O (AG (AI 1 (Ay O (AG (AI 1 (AJ O (AG ?_))))))))))))))))))))))))))))
   refine AI 1 (AA O (AG (AI 1 (Ay O (AG (AI 1 (Ay O (AG (AI 1 (Ay O (AG (AI 1 (Ay O (AG (AI 1 (Ay O (AG (AI 1 (Ay O (AG (AI 1 (AJ O (AG (AI 1 (AA O (AG (AI 1 (Ay O (AG ?_)))))))))))))))))))))))))))))
   exact AI 1 (Ay O (AG (AI 1 (Ay O (AG (AI 1 (Ay O (AG (AI 1 (Ay O (AG (AI 1 (Ay O (AG (AI 1 (AJ O (AG (AI 1 (AY O (AG (AZ (kp [11,10,9,3,2,1] O) (WF.nil (λaa ww hf hw=>⟨_,_,hf.sub (kp [11,10,9,3,2,1] O),hw,j,(B9.refl hi hj),trivial⟩)))))))))))))))))))))))
  have D:=GL ao D
  obtain⟨pb,cb,D⟩:=bd D
  obtain⟨pc,cc,D⟩:=bd D
  obtain⟨j7,cd,D⟩:=bd D
  have j8:=Option.some.inj D
  subst j8
  rcases Xr j7 with ar|ar
  ·have u:=GM ar u
   have j9:=Option.some.inj u
   subst j9
   have ka:=Option.some.inj m
   subst ka
   refine EX (AI 1 (AA O (AG (AI 1 (A0 j (mt mh) O O Fs b8 O λpd fm=>AG (AI 1 (Eq O fm Hv O λpe fn=>AG (AI 1 ?_))))))))
   have kb:=j.epAt (mt mh) ca ED fn
   refine Ag A6 (λ_ x=>x) O kb Ae O λpf=>AG (AI 1 (BK O (AG (Gh ao (AI 1 (AA O (AG (AI 1 (AB O (AA O (AG (AI 1 (AB O (A0 j (mt mh) O O Fs cb O λpg fo=>AG (AI 1 (AB O (Eq O fo Hu O λph fp=>AG (AI 1 (AB O ?_)))))))))))))))))))
   have kc:=j.epAt (mt mh) cc Ah.f_Part fp
   refine Al A6 (λ_ x=>x) O kc BX O λpi kd=>AG (GD O O O (D0 (cs:=[vI 0,vI 50]) FJ O O O O O O O j λpj pk fq e3=>GD O O O ?_))
   have fr:=fq.bxos (r:=AN.int) (l:=([0,50]:List Int)) .head ⟨_,_,O,⟨O,(iq (n:=0) O)⟩,⟨_,_,O,⟨O,(iq (n:=50) O)⟩,O⟩⟩ (by simp [maxLen])
   obtain⟨pl,ce,e4,ke⟩:=fr.pubs .head
   refine Bf O O O I0 O ce (BI (St.all _) ((kd.mono' (e3.trans e4)).mono (λb hb=>ce.1 b hb) (λ_ _=>rfl)) (ke.mono (λb hb=>ce.1 b hb) (λ_ _=>rfl)) cd) λpm pn po fs kf pp p=>?_
   obtain⟨rfl,og⟩:=p
   refine Gh ar (AI 1 (AJ O (AG (AI 1 (AA O (AG (AI 1 (Ay O (AG (AI 1 (Ay O (AG (AI 1 (Ay O (AG (AI 1 (Ay O (AG (AI 1 (Ay O (AG (AI 1 (Ay O (AG (AI 1 (AJ O (AG (AI 1 (AA O ?_)))))))))))))))))))))))))))))
   exact AG (AI 1 (Ay O (AG (AI 1 (Ay O (AG (AI 1 (Ay O (AG (AI 1 (Ay O (AG (AI 1 (Ay O (AG (AI 1 (Ay O (AG (AI 1 (AJ O (AG (AI 1 (AY O (AG (AZ (kp [11,10,9,3,2,1] O) (WF.nil (λaa ww hf hw=>⟨_,_,hf.sub (kp [11,10,9,3,2,1] O),hw,fs,(e3.trans (e4.trans kf)),trivial⟩)))))))))))))))))))))))))))
  have u:=GL ar u
  obtain⟨pq,d8,u⟩:=bd u
  obtain⟨pr,d9,u⟩:=bd u
  obtain⟨kg,ea,u⟩:=bd u
  have kh:=Option.some.inj u
  subst kh
  rcases Xr kg with bw|bw
  ·have m:=GM bw m
   have ki:=Option.some.inj m
   subst ki
   refine EX (AI 1 (AA O (AG (AI 1 (A0 j (mt mh) O O Fs b8 O λps ft=>AG (AI 1 (Eq O ft Hv O λpt fu=>AG (AI 1 ?_))))))))
   have kj:=j.epAt (mt mh) ca ED fu
   refine Ag A6 (λ_ x=>x) O kj Ae O λpu=>AG (AI 1 (BK O (AG (Gh ao (AI 1 (AA O (AG (AI 1 (AB O (AA O (AG (AI 1 (AB O (A0 j (mt mh) O O Fs cb O λpv fv=>AG (AI 1 (AB O (Eq O fv Hu O λpw fw=>AG (AI 1 (AB O ?_)))))))))))))))))))
   have kk:=j.epAt (mt mh) cc Ah.f_Part fw
   refine Al A6 (λ_ x=>x) O kk BX O λpx kl=>AG (GD O O O (D0 (cs:=[vI 0,vI 50]) FJ O O O O O O O j λpy pz fx e6=>GD O O O ?_))
   have fy:=fx.bxos (r:=AN.int) (l:=([0,50]:List Int)) .head ⟨_,_,O,⟨O,(iq (n:=0) O)⟩,⟨_,_,O,⟨O,(iq (n:=50) O)⟩,O⟩⟩ (by simp [maxLen])
   obtain⟨p0,cf,e7,km⟩:=fy.pubs .head
   refine Bf O O O I0 O cf (BI (St.all _) ((kl.mono' (e6.trans e7)).mono (λb hb=>cf.1 b hb) (λ_ _=>rfl)) (km.mono (λb hb=>cf.1 b hb) (λ_ _=>rfl)) cd) λp1 p2 p3 cg kn p4 p=>?_
   obtain⟨rfl,oh⟩:=p
   refine Gh ar (AI 1 (AJ O (AG (AI 1 (AA O (AG (AI 1 (AB O (AA O (AG (AI 1 (AB O (A0 cg (mt mh) O O Fs d8 O λp5 fz=>AG (AI 1 (AB O (Eq O fz Hu O λp6 f0=>AG (AI 1 (AB O ?_))))))))))))))))))
   have ko:=cg.epAt (mt mh) d9 Ah.f_Part f0
   refine Al A6 (λ_ x=>x) O ko BX O λp7 kq=>AG (GD O O O (D0 (cs:=[vI 15,vI 0]) FJ O O O O O O O cg λp8 p9 f1 e8=>GD O O O ?_))
   have f2:=f1.bxos (r:=AN.int) (l:=([15,0]:List Int)) .head ⟨_,_,O,⟨O,(iq (n:=15) O)⟩,⟨_,_,O,⟨O,(iq (n:=0) O)⟩,O⟩⟩ (by simp [maxLen])
   obtain⟨qa,ch,e9,kr⟩:=f2.pubs .head
   refine Bf O O O I0 O ch (BI (St.all _) ((kq.mono' (e8.trans e9)).mono (λb hb=>ch.1 b hb) (λ_ _=>rfl)) (kr.mono (λb hb=>ch.1 b hb) (λ_ _=>rfl)) ea) λqb qc qd f3 ks qe p=>?_
   obtain⟨rfl,oi⟩:=p
   refine Gh bw (AI 1 (AJ O (AG (AI 1 (AA O (AG (AI 1 (Ay O (AG (AI 1 (Ay O (AG (AI 1 (Ay O (AG (AI 1 (Ay O (AG (AI 1 (Ay O (AG (AI 1 (Ay O (AG (AI 1 (AJ O (AG (AI 1 (AY O ?_)))))))))))))))))))))))))))))
   exact AG (AZ (kp [11,10,9,3,2,1] O) (WF.nil (λaa ww hf hw=>⟨_,_,hf.sub (kp [11,10,9,3,2,1] O),hw,f3,(e6.trans (e7.trans (kn.trans (e8.trans (e9.trans ks))))),trivial⟩)))
  have m:=GL bw m
  obtain⟨qf,f4,m⟩:=bd m
  obtain⟨qg,f5,m⟩:=bd m
  have kt:=Option.some.inj m
  subst kt
  refine EX (AI 1 (AA O (AG (AI 1 (A0 j (mt mh) O O Fs b8 O λqh f6=>AG (AI 1 (Eq O f6 Hv O λqi f7=>AG (AI 1 ?_))))))))
  have ku:=j.epAt (mt mh) ca ED f7
  refine Ag A6 (λ_ x=>x) O ku Ae O λqj=>AG (AI 1 (BK O (AG (Gh ao (AI 1 (AA O (AG (AI 1 (AB O (AA O (AG (AI 1 (AB O (A0 j (mt mh) O O Fs cb O λqk f8=>AG (AI 1 (AB O (Eq O f8 Hu O λql f9=>AG (AI 1 (AB O ?_)))))))))))))))))))
  have kv:=j.epAt (mt mh) cc Ah.f_Part f9
  refine Al A6 (λ_ x=>x) O kv BX O λqm kw=>AG (GD O O O (D0 (cs:=[vI 0,vI 50]) FJ O O O O O O O j λqn qo ga d0=>GD O O O ?_))
  have gb:=ga.bxos (r:=AN.int) (l:=([0,50]:List Int)) .head ⟨_,_,O,⟨O,(iq (n:=0) O)⟩,⟨_,_,O,⟨O,(iq (n:=50) O)⟩,O⟩⟩ (by simp [maxLen])
  obtain⟨qp,ci,d1,kx⟩:=gb.pubs .head
  refine Bf O O O I0 O ci (BI (St.all _) ((kw.mono' (d0.trans d1)).mono (λb hb=>ci.1 b hb) (λ_ _=>rfl)) (kx.mono (λb hb=>ci.1 b hb) (λ_ _=>rfl)) cd) λqq qr qs cj fa qt p=>?_
  obtain⟨rfl,oj⟩:=p
  refine Gh ar (AI 1 (AJ O (AG (AI 1 (AA O (AG (AI 1 (AB O (AA O (AG (AI 1 (AB O (A0 cj (mt mh) O O Fs d8 O λqu gc=>AG (AI 1 (AB O (Eq O gc Hu O λqv gd=>AG (AI 1 (AB O ?_))))))))))))))))))
  have ky:=cj.epAt (mt mh) d9 Ah.f_Part gd
  refine Al A6 (λ_ x=>x) O ky BX O λqw kz=>AG (GD O O O (D0 (cs:=[vI 15,vI 0]) FJ O O O O O O O cj λqx qy ge d2=>GD O O O ?_))
  have gf:=ge.bxos (r:=AN.int) (l:=([15,0]:List Int)) .head ⟨_,_,O,⟨O,(iq (n:=15) O)⟩,⟨_,_,O,⟨O,(iq (n:=0) O)⟩,O⟩⟩ (by simp [maxLen])
  obtain⟨q0,ck,d3,k0⟩:=gf.pubs .head
  refine Bf O O O I0 O ck (BI (St.all _) ((kz.mono' (d2.trans d3)).mono (λb hb=>ck.1 b hb) (λ_ _=>rfl)) (k0.mono (λb hb=>ck.1 b hb) (λ_ _=>rfl)) ea) λq1 q2 q3 cl fb q4 p=>?_
  obtain⟨rfl,ok⟩:=p
  refine Gh bw (AI 1 (AJ O (AG (AI 1 (AA O (AG (AI 1 (AB O (AD D2 O (AG (AI 1 (AB O (AT A6 cl O mh O G9 O (AG (AI 1 (AB O (A9 O O (ek.mono' (Q.trans (af.trans (bv.trans (d0.trans (d1.trans (fa.trans (d2.trans (d3.trans fb))))))))) E3 f4 O λq5 k1=>AG (AI 1 (AB O (Al A6 cl.1 O k1 BX O λq6 k2=>AG (GD O O O (D0 (cs:=[vI 85,vI 0]) FJ O O O O O O O cl λq7 q8 gg fc=>GD O O O ?_))))))))))))))))))))))
  have gh:=gg.bxos (r:=AN.int) (l:=([85,0]:List Int)) .head ⟨_,_,O,⟨O,(iq (n:=85) O)⟩,⟨_,_,O,⟨O,(iq (n:=0) O)⟩,O⟩⟩ (by simp [maxLen])
  obtain⟨q9,cm,fd,k3⟩:=gh.pubs .head
  refine Bf O O O I0 O cm (BI (St.all _) ((k2.mono' (fc.trans fd)).mono (λb hb=>cm.1 b hb) (λ_ _=>rfl)) (k3.mono (λb hb=>cm.1 b hb) (λ_ _=>rfl)) f5) λra rd re gi k4 rf p=>?_
  obtain⟨rfl,ol⟩:=p
  exact AI 1 (AJ O (AG (AI 1 (AY O (AG (AZ (kp [11,10,9,3,2,1] O) (WF.nil (λaa ww hf hw=>⟨_,_,hf.sub (kp [11,10,9,3,2,1] O),hw,gi,(d0.trans (d1.trans (fa.trans (d2.trans (d3.trans (fb.trans (fc.trans (fd.trans k4)))))))),trivial⟩))))))))
 rintro aa ww ⟨rg,rh,hf,hw,c,au,_⟩
 refine Ac ?_ hf hw
 clear hf hw ww aa
 refine AC (Bt (.inl O) c (AA O (AA O (AV 2 156 (.bool (a5&&b0)) ?_ ?_))))
 ·cases ri:a5
  ·exact Aa O O
  exact AB O (AA O (AJ O (AU O)))
 refine AA O (AV 2 159 (.bool ((a5&&b0)&&dz)) ?_ ?_)
 ·cases rj:(a5&&b0)
  ·exact Aa O O
  exact AB O (AA O (AJ O (AU O)))
 refine AA O ?_
 obtain⟨fe,U,E⟩:=bd E
 refine AV 4 164 (.bool fe) ?_ ?_
 ·cases ff:((a5&&b0)&&dz)
  ·have U:=GM ff U
   cases U
   exact Aa O O
  have U:=GL ff U
  refine AB O (Dk (vs:=[vI ad.Hour,bg,bh,bi,bj,bk,bl]) Bg c O (mt (mt (mt (mt (mt (mt mh)))))) O O G8 O O (AB O (Dk (vs:=[vI ad.Hour,bg,bh,bi,bj,bk,bl]) Bg c O (mt (mt (mt (mt (mt (mt mh)))))) O O G8 O O (AB O ?_))))
  have s:=F.trans (I.trans (bm.trans (ay.trans (J.trans (K.trans (M.trans (ac.trans (Z.trans (Q.trans (af.trans (bv.trans au)))))))))))
  obtain⟨rk,gj,U⟩:=bd U
  refine A5 O O O Zc O (λh' o=>ND (St.all h') (CP.mk (x:=ad) ef ((co.mono' s).mono' (o.all c.1)) ((c9.mono' s).mono' (o.all c.1)) ((da.mono' s).mono' (o.all c.1)) ((db.mono' s).mono' (o.all c.1)) ((dc.mono' s).mono' (o.all c.1)) ((dd.mono' s).mono' (o.all c.1))) (CP.mk (x:=ad) ef ((co.mono' s).mono' (o.all c.1)) ((c9.mono' s).mono' (o.all c.1)) ((da.mono' s).mono' (o.all c.1)) ((db.mono' s).mono' (o.all c.1)) ((dc.mono' s).mono' (o.all c.1)) ((dd.mono' s).mono' (o.all c.1))) gj) (AJ O ?_)
  cases U
  exact AU O
 refine AA O ?_
 obtain⟨fg,V,E⟩:=bd E
 refine AV 5 170 (.bool fg) ?_ ?_
 ·cases fh:fe
  ·have V:=GM fh V
   cases V
   exact Aa O O
  have V:=GL fh V
  refine AB O (Dk (vs:=[vI ad.Hour,bg,bh,bi,bj,bk,bl]) Bg c O (mt (mt (mt (mt (mt (mt mh)))))) O O G8 O O (AB O (Dk (vs:=[vI i.1.Hour,az,a0,a1,a2,a3,a4]) Bg c O (mt (mt (mt mh))) O O G8 O O (AB O ?_))))
  have ah:=F.trans (I.trans (bm.trans (ay.trans (J.trans (K.trans (M.trans (ac.trans (Z.trans (Q.trans (af.trans (bv.trans au)))))))))))
  have ai:=J.trans (K.trans (M.trans (ac.trans (Z.trans (Q.trans (af.trans (bv.trans au)))))))
  obtain⟨rm,gk,V⟩:=bd V
  refine A5 O O O Zc O (λh' o=>ND (St.all h') (CP.mk (x:=ad) ef ((co.mono' ah).mono' (o.all c.1)) ((c9.mono' ah).mono' (o.all c.1)) ((da.mono' ah).mono' (o.all c.1)) ((db.mono' ah).mono' (o.all c.1)) ((dc.mono' ah).mono' (o.all c.1)) ((dd.mono' ah).mono' (o.all c.1))) (CP.mk (x:=i.1) ei ((ap.mono' ai).mono' (o.all c.1)) ((d4.mono' ai).mono' (o.all c.1)) ((d5.mono' ai).mono' (o.all c.1)) ((d6.mono' ai).mono' (o.all c.1)) ((d7.mono' ai).mono' (o.all c.1)) ((bn.mono' ai).mono' (o.all c.1))) gk) (AB O (BZ O (AJ O ?_)))
  cases V
  exact AU O
 refine AA O ?_
 obtain⟨k5,W,E⟩:=bd E
 refine AV 4 175 (.bool k5) ?_ ?_
 ·cases fi:fg
  ·have W:=GM fi W
   cases W
   exact Aa O O
  have W:=GL fi W
  refine AB O (Dk (vs:=[.string y1.Name,a7,vI y1.Cells,a8,a9,ba,bb,bc,be,bf,vI y1.Err]) Bg c O (mt (mt (mt (mt (mt (mt (mt mh))))))) O O G0 O O (AB O (Dk (vs:=[vI i.1.Hour,az,a0,a1,a2,a3,a4]) Bg c O (mt (mt (mt mh))) O O G8 O O (AB O ?_))))
  have X:=ak.trans (c8.trans (cn.trans (F.trans (I.trans (bm.trans (ay.trans (J.trans (K.trans (M.trans (ac.trans (Z.trans (Q.trans (af.trans (bv.trans au))))))))))))))
  have aj:=J.trans (K.trans (M.trans (ac.trans (Z.trans (Q.trans (af.trans (bv.trans au)))))))
  obtain⟨rn,gl,W⟩:=bd W
  refine A5 O O O XS O (λh' o=>Kf (St.all h') (B8.mk (x:=y1) eb ((c0.mono' X).mono' (o.all c.1)) ec ((c1.mono' X).mono' (o.all c.1)) ((c2.mono' X).mono' (o.all c.1)) ((c3.mono' X).mono' (o.all c.1)) ((c4.mono' X).mono' (o.all c.1)) ((c5.mono' X).mono' (o.all c.1)) ((c6.mono' X).mono' (o.all c.1)) ((c7.mono' X).mono' (o.all c.1)) ed) (CP.mk (x:=i.1) ei ((ap.mono' aj).mono' (o.all c.1)) ((d4.mono' aj).mono' (o.all c.1)) ((d5.mono' aj).mono' (o.all c.1)) ((d6.mono' aj).mono' (o.all c.1)) ((d7.mono' aj).mono' (o.all c.1)) ((bn.mono' aj).mono' (o.all c.1))) gl) (AJ O ?_)
  cases W
  exact AU O
 refine AY O (BQ (kp [0] O) λro gm k6=>Ad (λaa ww hf hw=>?_))
 have gn:=gm.sel [] 8 O
 cases E
 exact Dr hf hw O O (e5.trans (fj.trans (ak.trans (c8.trans (cn.trans (F.trans (I.trans (bm.trans (ay.trans (J.trans (K.trans (M.trans (ac.trans (Z.trans (Q.trans (af.trans (bv.trans (au.trans k6)))))))))))))))))) ⟨O,gn⟩
end Go.Proofs.YtblcgjadhemlbaaGreat
