import Derived.Test.YtblcgjadhemlbaaGreatRWalk13
namespace Go.Proofs.YtblcgjadhemlbaaGreat
open Go.RowKit
set_option linter.unusedVariables false
set_option linter.unusedSimpArgs false
set_option maxRecDepth 10000
set_option maxHeartbeats 2000000
variable {N:Nat}{S:Nat→Prop}{L:List HP}{h:Aw}
theorem BA (hs:St S L h) {b:Value}{o:(List Int)}(d:Sl S h AM.int b o) {c:Value}{p:(List Int)}(k:Sl S h AM.int c p) {r:Bool}(E:Bw N o p=some r):
 CL Tryz.prog 18 #[b,c] S h (λv S' h'=>v= .bool r∧St S' (L) h'):=by
 refine BG (l:=[b,c]) 26 Tryz.func18 O Tryz.ntmps18 O λB=>?_
 rw[Bw] at E
 refine AI (AK O (kp [0,1] O) (AC (AI (AA O (An O d BQ O λY=>AA O (An O k BQ O λZ=>Bt O (AN (kp [10,0,1] O) (AW O E (λH E=>?_) (λH E=>?_)))))))))
 ·refine AI (AK O (kp [4] O) (Ad (λq s g i=>?_)))
  cases E
  exact Dx g i O O (CA.refl S h) ⟨O,hs⟩
 refine AQ (AC (AI (AK O (kp [5,0,1] O) (Am (λa w=>IV B S h (26,[]) a w [] (L) λ_ _=>Eq N=some r) ?_ ?_))))
 ·refine A5 (λG=>λa w=>∃(t:Int),IV B S h (26,[]) a w [(0,b),(1,c),(5,vI t)] (L) λ_ _=>AH t∧DJ N o p (Eq N) G t=some r) N ?_ ?_ ?_
  ·intro q s g i
   exact⟨0,_,_,g.sub (kp [0,1,5] O),i,hs,(CA.refl S h),(iq (n:=0) O),E⟩
  ·rintro q s ⟨_,_,_,_,_,_,_,_,E⟩
   rw[DJ] at E;cases E
  rintro G q s ⟨t,S8,h9,g,i,j,m,r7,E⟩
  refine Ac ?_ g i
  clear g i s q
  rw[DJ] at E
  refine AC (AI (AA O (AA O (An O (d.mono' m) BQ O λI=>Ar O (AN (kp [14,0,1,5] O) (AW O E (λz E=>?_) (λz E=>?_)))))))
  ·refine AQ (AC (BB (AC (BZ (.inr ⟨mo,by kernel_rfl⟩) (AA O (AA O ?_))))))
   obtain⟨J,u,E⟩:=bd E
   refine BE O O (d.mono' m) BQ u O λK A=>Af A9 j.1 O A Ag O λM=>AA O (AA O ?_)
   obtain⟨Q,x,E⟩:=bd E
   refine BE O O (k.mono' m) BQ x O λU C=>Af A9 j.1 O C Ag O λV=>Bt O (AN (kp [25,0,1,5] O) (AW O E (λD E=>?_) (λD E=>?_)))
   ·refine AI (AK O (kp [4] O) (Ad (λq s g i=>?_)))
    cases E
    exact Dx g i O O m ⟨O,j⟩
   refine AQ (BO (BZ (.inl O) (AA O (Ai O (AK O (kp [5,0,1] O) (WF.nil (λq s g i=>?_)))))))
   exact⟨(BD (t+1)),_,_,g.sub (kp [0,1,5] O),i,j,m,(BK _),E⟩
  refine BC O (λq s g i=>?_)
  exact⟨_,_,g.sub Oy,i,j,m,E⟩
 rintro q s ⟨W,X,g,i,y,F,E⟩
 refine Ac ?_ g i
 clear g i s q
 rw[Eq] at E
 refine AI (AK O (kp [4] O) (Ad (λq s g i=>?_)))
 cases E
 exact Dx g i O O F ⟨O,y⟩
theorem LK {g:Nat}{c1_:(List Int)}{c:Value}(hs:St S (Bx g 29 [c]::OS AM.int 3 c c1_::L) h) {b:Value}{d:(List Int)}(k:Sl S h AM.int b d) {r:(List Int)}(E:JY N c1_ d=some r):
 CL Tryz.prog 35 #[b,vP g 0] S h (λv S' h'=>∃w_0_0:Value,v= .tuple #[]∧St S' (Bx g 29 [w_0_0]::OS AM.int 3 w_0_0 r::L) h'):=by
 refine BG (l:=[b,vP g 0]) 25 Tryz.func35 O Tryz.ntmps35 O λB=>?_
 rw[JY] at E
 refine AI (AS A9 hs O mh O BW O (Kc hs (mt mh) O BQ O λb1=>AA O (An O k BQ O λb2=>Ry O O O (AA O (AN (kp [9,8,0,1] O) (BB (A5 (λn0=>λa w=>∃(q:Int) (t:List Int),IV B S h (25,[]) a w [(8,vI (min (↑c1_.length:Int) (↑d.length:Int))),(0,b),(1,vP g 0),(9,vI q)] (Bx g 29 [c]::OS AM.int 3 c t::L) λ_ _=>AH q∧HS N d c1_ n0 q t=some r) N ?_ ?_ ?_)))))))
 ·intro u y m p
  exact⟨0,c1_,_,_,m.sub (kp [8,0,1,9] O),p,hs,(CA.refl S h),(iq (n:=0) O),E⟩
 ·rintro u y ⟨_,_,_,_,_,_,_,_,_,E⟩
  rw[HS] at E;cases E
 rintro n0 u y ⟨q,t,S9,ae,m,p,j,s,r7,E⟩
 refine Ac ?_ m p
 clear m p y u
 rw[HS] at E
 refine AI (Ar O (AN (kp [10,8,0,1,9] O) (AC (AW O E (λQ E=>?_) (λQ E=>?_)))))
 ·refine AQ (AC (BB (AI (AA O (AK O (kp [3,8,0,1,9] O) (LE 12 mo (by kernel_rfl) O j (AS Bd j O mh O BW O (AA O (AS Bd j O mh O BW O (AA O ?_))))))))))
  obtain⟨af,z,E⟩:=bd E
  refine A8 j (mt mh) O O BQ z O λag A=>?_
  obtain⟨ah,C,E⟩:=bd E
  have U:=j.epAt (mt mh) C E9.id A
  refine Af Bd (λ_ x=>x) O U Ag O λV=>AA O (AA O ?_)
  obtain⟨ai,D,E⟩:=bd E
  refine BE O O (k.mono' s) BQ D O λaj W=>Af Bd j.1 O W Ag O λX=>?_
  obtain⟨F,G,E⟩:=bd E
  refine CY O O O Qs O (λh' o=>IM (St.all h') V X G) λY=>?_
  have Z:=Y
  obtain⟨ak,H,E⟩:=bd E
  refine A8 j (mt mh) O O BQ H O λal I=>J1 λam J ab=>?_
  obtain⟨ac,K,E⟩:=bd E
  refine E3 (r:=AM.int) (l:=t) (i:=q) (x:=ac) O O (⟨_,O,O,Z⟩:Rd _ _ AM.int _ F) I K Lv.id Ag (λ_=>rfl) J (.tail .head) λan M ad=>AZ (kp [8,0,1,9] O) (BO (BZ (.inl O) (Ai O (AA O (AN (kp [9,8,0,1] O) (WF.nil (λu y m p=>?_)))))))
  exact⟨(BD (q+1)),(upd t q F),_,_,m.sub (kp [8,0,1,9] O),p,M,(s.trans (ab.trans ad)),(BK _),E⟩
 refine Kw O (WF.nil (λu y m p=>?_))
 cases E
 exact KH m O p KG O s ⟨_,O,j⟩
theorem PW (hs:St S L h) {i:Value}{b:Aj}(C:Rd S h CO i b) {r:(List Int)}(E:Lp N b=some r):
 CL Tryz.prog 12 #[i] S h (λv S' h'=>St S' (OS AM.int 3 v r::L) h'):=by
 refine BG (l:=[i]) 38 Tryz.func12 O Tryz.ntmps12 O λB=>?_
 rw[Lp] at E
 refine WF.sl (B4 O C (λe=>by cases e) O hs λq1 S2 h3 ak e5 k6=>AG 1 (AY O (AF (AZ (kp [1] O) (WF.sl (AG 3 (Ae O k6 KE KZ O λq7 k8=>Ao A9 ak.1 O k8 BW O λv9 ba=>An O ba BQ O λbx=>AF ?_)))))))
 obtain⟨am,E⟩:=Lr E
 refine JO (r:=AM.int) (zx:=0) Ef O ⟨O,by unfold AH;omega⟩ O O am O O ak λbz b0 an ao=>Cp VN O an λg b1 J ap=>?_
 obtain⟨K,m,rfl,b2⟩:=J.oslen (mt mh)
 refine Du (vs:=[(.slice K (List.replicate ((↑b.In.length:Int):Int).toNat (0:Int)).length m)]) O O O O BW O J .head O λX M aq=>AZ (kp [3,1] O) (AI (OU O O O (AK O (kp [4,3,1] O) (AC (AI ?_)))))
 have ar:=k6.mono (ao.trans (ap.trans aq))
 refine Ae O ar Iw Dm O λb3 bb=>Ao A9 M.1 O bb Gu O λbc au=>An O au Ev O λb4=>AA O (AN (kp [17,16,15,4,3,1] O) (Am (λa w=>∃(D:Value) (F:List Int),IV B S2 X (38,[]) a w [(4,.func (.func 35) #[] #[vP g 0]),(3,vP g 0),(1,q1)] (OS AM.int 3 D F::Bx g 29 [D]::L) λ_ _=>JF N b F=some r) ?_ ?_))
 ·refine A5 (λn1=>λa w=>∃(o:Int) (G:Value) (s:List Int),IV B S2 X (38,[]) a w [(16,vI (↑b.Own.length:Int)),(15,bc),(4,.func (.func 35) #[] #[vP g 0]),(3,vP g 0),(1,q1),(17,vI o)] (OS AM.int 3 G s::Bx g 29 [G]::L) λ_ _=>AH o∧IC N b (JF N b) n1 o s=some r) N ?_ ?_ ?_
  ·intro j k c d
   have av:=M.sel [1,0] 0 O
   exact⟨0,(.slice K (List.replicate ((↑b.In.length:Int):Int).toNat (0:Int)).length m),(List.replicate ((↑b.In.length:Int):Int).toNat (0:Int)),_,_,c.sub (kp [16,15,4,3,1,17] O),d,av,(CA.refl S2 X),(iq (n:=0) O),E⟩
  ·rintro j k ⟨_,_,_,_,_,_,_,_,_,_,E⟩
   rw[IC] at E;cases E
  rintro n1 j k ⟨o,G,s,b5,b6,c,d,t,Y,b7,E⟩
  refine Ac ?_ c d
  clear c d k j
  rw[IC] at E
  refine AI (Ar O (AN (kp [18,16,15,4,3,1,17] O) (AC (AW O E (λbe E=>?_) (λbe E=>?_)))))
  ·refine AQ (AC (BB (AI ?_)))
   obtain⟨b8,aw,E⟩:=bd E
   refine BE O O (au.mono' Y) Ev aw O λb9 bf=>Ao A9 t.1 O bf BW O λca bg=>AK O (kp [6,16,15,4,3,1,17] O) (D3 (AG 2 (AA O (AA O (AF ?_)))))
   have ax:=t.sel [1,0] 0 O
   obtain⟨bh,ay,E⟩:=bd E
   refine Cv O O O ZH O (LK (c1_:=s) ax bg ay) λcb cc cd bi p=>?_
   obtain⟨bj,rfl,az⟩:=p
   refine AZ (kp [16,15,4,3,1,17] O) (BO (BZ (.inl O) (Ai O (AA O (AN (kp [17,16,15,4,3,1] O) (WF.nil (λj k c d=>?_)))))))
   have a0:=az.sel [1,0] 0 O
   exact⟨(BD (o+1)),bj,bh,_,_,c.sub (kp [16,15,4,3,1,17] O),d,a0,(Y.trans bi),(BK _),E⟩
  refine BC O (λj k c d=>?_)
  exact⟨G,s,_,_,c.sub (kp [4,3,1] O),d,t,Y,E⟩
 rintro j k ⟨D,F,Z,ab,c,d,Q,a1,E⟩
 refine Ac ?_ c d
 clear c d k j
 rw[JF] at E
 refine AC (AI (Ae O (ar.mono a1) D0 G2 O λce bk=>Ao A9 Q.1 O bk I3 O λbl a2=>An O a2 H9 O λcf=>AA O (AN (kp [28,27,26,4,3] O) (Am (λa w=>∃(ac:Value) (ad:List Int),IV B Z ab (38,[]) a w [(3,vP g 0)] (OS AM.int 3 ac ad::Bx g 29 [ac]::L) λ_ _=>JE N ad=some r) ?_ ?_))))
 ·refine A5 (λn3=>λa w=>∃(u:Int) (H:Value) (x:List Int),IV B Z ab (38,[]) a w [(27,vI (↑b.Queue.length:Int)),(26,bl),(4,.func (.func 35) #[] #[vP g 0]),(3,vP g 0),(28,vI u)] (OS AM.int 3 H x::Bx g 29 [H]::L) λ_ _=>AH u∧IB N b (JE N) n3 u x=some r) N ?_ ?_ ?_
  ·intro j k c d
   exact⟨0,D,F,_,_,c.sub (kp [27,26,4,3,28] O),d,Q,(CA.refl Z ab),(iq (n:=0) O),E⟩
  ·rintro j k ⟨_,_,_,_,_,_,_,_,_,_,E⟩
   rw[IB] at E;cases E
  rintro n3 j k ⟨u,H,x,cg,ch,c,d,y,ae,ci,E⟩
  refine Ac ?_ c d
  clear c d k j
  rw[IB] at E
  refine AI (Ar O (AN (kp [29,27,26,4,3,28] O) (AC (AW O E (λbm E=>?_) (λbm E=>?_)))))
  ·refine AQ (AC (BB (WF.sl (AG 2 ?_))))
   obtain⟨I,a3,E⟩:=bd E
   refine BE O O (a2.mono' ae) H9 a3 O λcj bn=>B8 A9 y.1 O bn Kh (λe=>by cases e) O λck bo=>AF (Cp QY O y λcl cm a4 a5=>?_)
   obtain⟨U,rfl,bp,bq,V⟩:=Ap.ex (bo.mono a5)
   refine G7 (vs:=[vI I.At,vI I.To,U]) (cs':=[vI I.At,vI I.To,U]) O O O (AE O (AE O (AE V.one EH))) Kh O a4 .head O O λbr z W=>AZ (kp [8,27,26,4,3,28] O) (D3 (AG 3 (AA O (AD KX O (AS A9 z O mh O BW O (AF ?_))))))
   have af:=z.sel [2,1,0] 0 O
   obtain⟨a6,ag,E⟩:=bd E
   refine Cv O O O ZH O (LK (c1_:=x) af (V.mono' W) ag) λbs bt bu a7 p=>?_
   obtain⟨a8,rfl,ah⟩:=p
   refine AZ (kp [27,26,4,3,28] O) (BO (BZ (.inl O) (Ai O (AA O (AN (kp [28,27,26,4,3] O) (WF.nil (λj k c d=>?_)))))))
   have ai:=ah.sel [1,0] 1 O
   exact⟨(BD (u+1)),a8,a6,_,_,c.sub (kp [27,26,4,3,28] O),d,ai,(ae.trans (a5.trans (W.trans a7))),(BK _),E⟩
  refine BC O (λj k c d=>?_)
  exact⟨H,x,_,_,c.sub (kp [3] O),d,y,ae,E⟩
 rintro j k ⟨ac,ad,bv,bw,c,d,A,a9,E⟩
 refine Ac ?_ c d
 clear c d k j
 rw[JE] at E
 refine AI (AS A9 A O (mt mh) O BW O (AK O (kp [2] O) (Ad (λj k c d=>?_))))
 have aj:=A.drop (.tail .head)
 cases E
 exact Dx c d O O (e5.trans (ao.trans (ap.trans (aq.trans (a1.trans a9))))) aj
theorem Iz (hs:St S L h) {c:Value}{k:(List (List Int))}(i:Sl S h (AM.sl AM.int) c k) {d:Value}{t:(List (List Int))}(m:Sl S h (AM.sl AM.int) d t) {j:Value}{u:(((List Int)×(List Int))→Option Bool)}(z:Rd S h (AM.fnr Tryz.prog (λS h vs (x:((List Int)×(List Int)))=>∃w0 w1:Value,vs=[w0,w1]∧Sl S h AM.int w0 x.1∧Sl S h AM.int w1 x.2) (λS h v (y:Bool)=>v= .bool y)) j u) {r:Bool}(E:Cn N k t u=some r):
 CL Tryz.prog 40 #[c,d,j] S h (λv S' h'=>v= .bool r∧St S' (L) h'):=by
 refine BG (l:=[c,d,j]) 32 Tryz.func40 O Tryz.ntmps40 O λB=>?_
 rw[Cn] at E
 obtain⟨M,Q,rfl,U,V⟩:=z.fnr
 refine AI (AK O (kp [0,1,2] O) (AC (AI (AA O (An O i Ev O λb5=>AA O (An O m Ev O λb6=>Bt O (AN (kp [14,0,1,2] O) (AW O E (λc7 E=>?_) (λc7 E=>?_)))))))))
 ·refine AI (AK O (kp [6] O) (Ad (λC D p q=>?_)))
  cases E
  exact Dx p q O O (CA.refl S h) ⟨O,hs⟩
 refine AQ (AC (AI (AA O (An O i Ev O λb8=>AA O (AN (kp [17,16,15,1,2] O) (Am (λa w=>IV B S h (32,[]) a w [] (L) λ_ _=>DE N=some r) ?_ ?_))))))
 ·refine A5 (λn1=>λa w=>∃(A:Int),IV B S h (32,[]) a w [(16,vI (↑k.length:Int)),(15,c),(1,d),(2,(.func (.func M) #[] Q)),(17,vI A)] (L) λ_ _=>AH A∧CE N k t u (DE N) n1 A=some r) N ?_ ?_ ?_
  ·intro C D p q
   exact⟨0,_,_,p.sub (kp [16,15,1,2,17] O),q,hs,(CA.refl S h),(iq (n:=0) O),E⟩
  ·rintro C D ⟨_,_,_,_,_,_,_,_,E⟩
   rw[CE] at E;cases E
  rintro n1 C D ⟨A,ag,ah,p,q,g,s,ai,E⟩
  refine Ac ?_ p q
  clear p q D C
  rw[CE] at E
  refine AI (Ar O (AN (kp [18,16,15,1,2,17] O) (AC (AW O E (λW E=>?_) (λW E=>?_)))))
  ·refine AQ (AC (BB (AI (AA O ?_))))
   obtain⟨X,G,E⟩:=bd E
   refine BE O O (i.mono' s) Ev G O λaj Y=>Ao A9 g.1 O Y BW O λak Z=>AY O (AK O (kp [8,7,16,15,1,2,17] O) (AI (AA O (AA O ?_))))
   obtain⟨ab,H,E⟩:=bd E
   refine BE O O (m.mono' s) Ev H O λal ac=>Ao A9 g.1 O ac BW O λam ad=>AK O (kp [9,8,16,15,1,2,17] O) (AC (Bq (.inl O) g (AA O (AA O (AA O ?_)))))
   obtain⟨an,I,E⟩:=bd E
   refine A6 O O O U O (λh' o=>V _ h' (λb hb=>Nat.lt_of_lt_of_le (g.1 b (s.sub b hb)) o.siz) (λb hb=>(o.same b (g.1 b (s.sub b hb))).trans (s.same b hb)) [] (St.all h') (X,ab) _ _ ⟨_,_,O,(Z.mono' (o.all g.1)),(ad.mono' (o.all g.1))⟩ I) (BY O (BM (kp [30,16,15,1,2,17] O) λao F J=>AW O E (λae E=>?_) (λae E=>?_)))
   ·refine AI (AK O (kp [6] O) (Ad (λC D p q=>?_)))
    cases E
    exact Dx p q O O (s.trans J) ⟨O,F⟩
   refine AQ (BO (BZ (.inl O) (Ai O (AA O (AN (kp [17,16,15,1,2] O) (WF.nil (λC D p q=>?_)))))))
   exact⟨(BD (A+1)),_,_,p.sub (kp [16,15,1,2,17] O),q,F,(s.trans J),(BK _),E⟩
  refine BC O (λC D p q=>?_)
  exact⟨_,_,p.sub Oy,q,g,s,E⟩
 rintro C D ⟨ap,aq,p,q,K,af,E⟩
 refine Ac ?_ p q
 clear p q D C
 rw[DE] at E
 refine AI (AK O (kp [6] O) (Ad (λC D p q=>?_)))
 cases E
 exact Dx p q O O af ⟨O,K⟩
theorem Eu (hs:St S L h) {b:Value}{g:(List Int)}(d:Sl S h AM.int b g) {c:Value}{o:(List Int)}(i:Sl S h AM.int c o) {r:Bool}(E:CF N g o=some r):
 CL Tryz.prog 41 #[b,c] S h (λv S' h'=>v= .bool r∧St S' (L) h'):=by
 refine BG (l:=[b,c]) 26 Tryz.func41 O Tryz.ntmps41 O λB=>?_
 rw[CF] at E
 refine AI (AK O (kp [0,1] O) (AC (AI (AA O (An O d BQ O λY=>AA O (An O i BQ O λZ=>Bt O (AN (kp [10,0,1] O) (AW O E (λH E=>?_) (λH E=>?_)))))))))
 ·refine AI (AK O (kp [4] O) (Ad (λq s j k=>?_)))
  cases E
  exact Dx j k O O (CA.refl S h) ⟨O,hs⟩
 refine AQ (AC (AI (AA O (An O d BQ O λb4=>AA O (AN (kp [13,12,0,1] O) (Am (λa w=>IV B S h (26,[]) a w [] (L) λ_ _=>Dl N=some r) ?_ ?_))))))
 ·refine A5 (λG=>λa w=>∃(t:Int),IV B S h (26,[]) a w [(12,vI (↑g.length:Int)),(0,b),(1,c),(13,vI t)] (L) λ_ _=>AH t∧CZ N g o (Dl N) G t=some r) N ?_ ?_ ?_
  ·intro q s j k
   exact⟨0,_,_,j.sub (kp [12,0,1,13] O),k,hs,(CA.refl S h),(iq (n:=0) O),E⟩
  ·rintro q s ⟨_,_,_,_,_,_,_,_,E⟩
   rw[CZ] at E;cases E
  rintro G q s ⟨t,S9,I,j,k,m,p,r8,E⟩
  refine Ac ?_ j k
  clear j k s q
  rw[CZ] at E
  refine AI (Ar O (AN (kp [14,12,0,1,13] O) (AC (AW O E (λz E=>?_) (λz E=>?_)))))
  ·refine AQ (AC (BB (AI (AA O (AK O (kp [5,12,0,1,13] O) (AC (BZ (.inr ⟨mo,by kernel_rfl⟩) (AA O (AA O ?_)))))))))
   obtain⟨J,u,E⟩:=bd E
   refine BE O O (d.mono' p) BQ u O λK A=>Af A9 m.1 O A Ag O λM=>AA O (AA O ?_)
   obtain⟨Q,x,E⟩:=bd E
   refine BE O O (i.mono' p) BQ x O λU C=>Af A9 m.1 O C Ag O λV=>Bt O (AN (kp [24,12,0,1,13] O) (AW O E (λD E=>?_) (λD E=>?_)))
   ·refine AI (AK O (kp [4] O) (Ad (λq s j k=>?_)))
    cases E
    exact Dx j k O O p ⟨O,m⟩
   refine AQ (BO (BZ (.inl O) (Ai O (AA O (AN (kp [13,12,0,1] O) (WF.nil (λq s j k=>?_)))))))
   exact⟨(BD (t+1)),_,_,j.sub (kp [12,0,1,13] O),k,m,p,(BK _),E⟩
  refine BC O (λq s j k=>?_)
  exact⟨_,_,j.sub Oy,k,m,p,E⟩
 rintro q s ⟨W,X,j,k,y,F,E⟩
 refine Ac ?_ j k
 clear j k s q
 rw[Dl] at E
 refine AI (AK O (kp [4] O) (Ad (λq s j k=>?_)))
 cases E
 exact Dx j k O O F ⟨O,y⟩
theorem Da (hs:St S L h) {c:Value}{k:(List Al)}(g:Sl S h Ap c k) {d:Value}{z:(List Al)}(m:Sl S h Ap d z) {i:Value}{A:((Al×Al)→Option Bool)}(C:Rd S h (AM.fnr Tryz.prog (λS h vs (x:(Al×Al))=>∃w0 w1:Value,vs=[w0,w1]∧Rd S h Ap w0 x.1∧Rd S h Ap w1 x.2) (λS h v (y:Bool)=>v= .bool y)) i A) {r:Bool}(E:A4 N k z A=some r):
 CL Tryz.prog 42 #[c,d,i] S h (λv S' h'=>v= .bool r∧St S' (L) h'):=by
 refine BG (l:=[c,d,i]) 32 Tryz.func42 O Tryz.ntmps42 O λB=>?_
 rw[A4] at E
 obtain⟨an,ao,rfl,ap,aq⟩:=C.fnr
 refine AI (AK O (kp [0,1,2] O) (AC (AI (AA O (An O g H9 O λb5=>AA O (An O m H9 O λb6=>Bt O (AN (kp [14,0,1,2] O) (AW O E (λc7 E=>?_) (λc7 E=>?_)))))))))
 ·refine AI (AK O (kp [6] O) (Ad (λK M p s=>?_)))
  cases E
  exact Dx p s O O (CA.refl S h) ⟨O,hs⟩
 refine AQ (AC (AI (AA O (An O g H9 O λb8=>AA O (AN (kp [17,16,15,1,2] O) (Am (λa w=>IV B S h (32,[]) a w [] (L) λ_ _=>Au N=some r) ?_ ?_))))))
 ·refine A5 (λn1=>λa w=>∃(D:Int),IV B S h (32,[]) a w [(16,vI (↑k.length:Int)),(15,c),(1,d),(2,(.func (.func an) #[] ao)),(17,vI D)] (L) λ_ _=>AH D∧Ah N k z A (Au N) n1 D=some r) N ?_ ?_ ?_
  ·intro K M p s
   exact⟨0,_,_,p.sub (kp [16,15,1,2,17] O),s,hs,(CA.refl S h),(iq (n:=0) O),E⟩
  ·rintro K M ⟨_,_,_,_,_,_,_,_,E⟩
   rw[Ah] at E;cases E
  rintro n1 K M ⟨D,a4,a5,p,s,F,G,a6,E⟩
  refine Ac ?_ p s
  clear p s M K
  rw[Ah] at E
  refine AI (Ar O (AN (kp [18,16,15,1,2,17] O) (AC (AW O E (λar E=>?_) (λar E=>?_)))))
  ·refine AQ (AC (BB (WF.sl (AG 3 (AA O ?_)))))
   obtain⟨t,ab,E⟩:=bd E
   refine BE O O (g.mono' G) H9 ab O λa7 au=>B8 A9 F.1 O au Kh (λe=>by cases e) O λa8 av=>AF (Cp QY O F λa9 ba ac Q=>AG 1 (AY O (AF ?_)))
   obtain⟨Y,rfl,aw,ax,ad⟩:=Ap.ex (av.mono Q)
   refine G7 (vs:=[vI t.At,vI t.To,Y]) (cs':=[vI t.At,vI t.To,Y]) O O O (AE O (AE O (AE ad.one EH))) Kh O ac .head O O λbb V U=>AZ (kp [7,8,16,15,1,2,17] O) (WF.sl (AG 4 (AA O (AA O ?_))))
   have W:=G.trans (Q.trans U)
   obtain⟨u,ae,E⟩:=bd E
   refine BE O O (m.mono' W) H9 ae O λbc ay=>B8 A9 V.1 O ay Kh (λe=>by cases e) O λbe az=>AF (Cp QY O V λbf bg af H=>?_)
   obtain⟨Z,rfl,a0,a1,ag⟩:=Ap.ex (az.mono H)
   refine G7 (vs:=[vI u.At,vI u.To,Z]) (cs':=[vI u.At,vI u.To,Z]) O O O (AE O (AE O (AE ag.one EH))) Kh O af .head O O λbh j I=>AZ (kp [9,8,16,15,1,2,17] O) (AC (Bq (.inl O) j (AA O (Db (vs:=[vI t.At,vI t.To,Y]) Bd j O (mt mh) O O Kh O O (Db (vs:=[vI u.At,vI u.To,Z]) Bd j O mh O O Kh O O ?_)))))
   have J:=W.trans (H.trans I)
   obtain⟨bi,ah,E⟩:=bd E
   refine A6 O O O ap O (λh' o=>aq _ h' (λb hb=>Nat.lt_of_lt_of_le (j.1 b (J.sub b hb)) o.siz) (λb hb=>(o.same b (j.1 b (J.sub b hb))).trans (J.same b hb)) [] (St.all h') (t,u) _ _ ⟨_,_,O,(Ap.mk (x:=t) aw ax ((ad.mono' (U.trans (H.trans I))).mono' (o.all j.1))),(Ap.mk (x:=u) a0 a1 ((ag.mono' I).mono' (o.all j.1)))⟩ ah) (BY O (BM (kp [30,16,15,1,2,17] O) λbj X ai=>AW O E (λa2 E=>?_) (λa2 E=>?_)))
   ·refine AI (AK O (kp [6] O) (Ad (λK M p s=>?_)))
    have aj:=X.sel [] 2 O
    cases E
    exact Dx p s O O (G.trans (Q.trans (U.trans (H.trans (I.trans ai))))) ⟨O,aj⟩
   refine AQ (BO (BZ (.inl O) (Ai O (AA O (AN (kp [17,16,15,1,2] O) (WF.nil (λK M p s=>?_)))))))
   have ak:=X.sel [] 2 O
   exact⟨(BD (D+1)),_,_,p.sub (kp [16,15,1,2,17] O),s,ak,(G.trans (Q.trans (U.trans (H.trans (I.trans ai))))),(BK _),E⟩
  refine BC O (λK M p s=>?_)
  exact⟨_,_,p.sub Oy,s,F,G,E⟩
 rintro K M ⟨bk,bl,p,s,am,a3,E⟩
 refine Ac ?_ p s
 clear p s M K
 rw[Au] at E
 refine AI (AK O (kp [6] O) (Ad (λK M p s=>?_)))
 cases E
 exact Dx p s O O a3 ⟨O,am⟩
theorem G8 (hs:St S L h) {b:Value}{g:(List Ax)}(d:Sl S h BJ b g) {c:Value}{o:(List Ax)}(i:Sl S h BJ c o) {r:Bool}(E:B5 N g o=some r):
 CL Tryz.prog 44 #[b,c] S h (λv S' h'=>v= .bool r∧St S' (L) h'):=by
 refine BG (l:=[b,c]) 26 Tryz.func44 O Tryz.ntmps44 O λB=>?_
 rw[B5] at E
 refine AI (AK O (kp [0,1] O) (AC (AI (AA O (An O d KM O λb1=>AA O (An O i KM O λb2=>Bt O (AN (kp [10,0,1] O) (AW O E (λJ E=>?_) (λJ E=>?_)))))))))
 ·refine AI (AK O (kp [4] O) (Ad (λq s j k=>?_)))
  cases E
  exact Dx j k O O (CA.refl S h) ⟨O,hs⟩
 refine AQ (AC (AI (AA O (An O d KM O λb4=>AA O (AN (kp [13,12,0,1] O) (Am (λa w=>IV B S h (26,[]) a w [] (L) λ_ _=>CM N=some r) ?_ ?_))))))
 ·refine A5 (λI=>λa w=>∃(t:Int),IV B S h (26,[]) a w [(12,vI (↑g.length:Int)),(0,b),(1,c),(13,vI t)] (L) λ_ _=>AH t∧Ba N g o (CM N) I t=some r) N ?_ ?_ ?_
  ·intro q s j k
   exact⟨0,_,_,j.sub (kp [12,0,1,13] O),k,hs,(CA.refl S h),(iq (n:=0) O),E⟩
  ·rintro q s ⟨_,_,_,_,_,_,_,_,E⟩
   rw[Ba] at E;cases E
  rintro I q s ⟨t,S9,K,j,k,m,p,r8,E⟩
  refine Ac ?_ j k
  clear j k s q
  rw[Ba] at E
  refine AI (Ar O (AN (kp [14,12,0,1,13] O) (AC (AW O E (λz E=>?_) (λz E=>?_)))))
  ·refine AQ (AC (BB (AI (AA O (AK O (kp [5,12,0,1,13] O) (AC (BZ (.inr ⟨mo,by kernel_rfl⟩) (AA O (AA O ?_)))))))))
   obtain⟨M,u,E⟩:=bd E
   refine BE O O (d.mono' p) KM u O λQ A=>B8 A9 m.1 O A Gt (λe=>by cases e) O λU C=>AA O (AA O ?_)
   obtain⟨V,x,E⟩:=bd E
   refine BE O O (i.mono' p) KM x O λW D=>B8 A9 m.1 O D Gt (λe=>by cases e) O λX F=>?_
   obtain⟨rfl,⟨Y,Z⟩⟩:=BJ.ex C
   obtain⟨rfl,⟨ab,ac⟩⟩:=BJ.ex F
   refine aR O O dU O O O O (AN (kp [24,12,0,1,13] O) (AW O E (λG E=>?_) (λG E=>?_)))
   ·refine AI (AK O (kp [4] O) (Ad (λq s j k=>?_)))
    cases E
    exact Dx j k O O p ⟨O,m⟩
   refine AQ (BO (BZ (.inl O) (Ai O (AA O (AN (kp [13,12,0,1] O) (WF.nil (λq s j k=>?_)))))))
   exact⟨(BD (t+1)),_,_,j.sub (kp [12,0,1,13] O),k,m,p,(BK _),E⟩
  refine BC O (λq s j k=>?_)
  exact⟨_,_,j.sub Oy,k,m,p,E⟩
 rintro q s ⟨ad,ae,j,k,y,H,E⟩
 refine Ac ?_ j k
 clear j k s q
 rw[CM] at E
 refine AI (AK O (kp [4] O) (Ad (λq s j k=>?_)))
 cases E
 exact Dx j k O O H ⟨O,y⟩
theorem Nh (hs:St S L h) {g:Value}{c:Al}(j:Rd S h Ap g c) {i:Value}{d:Al}(k:Rd S h Ap i d) {r:Bool}(E:Fh N c d=some r):
 CL Tryz.prog 43 #[g,i] S h (λv S' h'=>v= .bool r∧St S' (L) h'):=by
 refine BG (l:=[g,i]) 24 Tryz.func43 O Tryz.ntmps43 O λB=>?_
 rw[Fh] at E
 refine WF.sl (B4 O j (λe=>by cases e) O hs λq1 S2 h3 w J K=>B4 O (k.mono J) (λe=>by cases e) O w λq8 S9 M a p m=>AG 1 (AY O (AF (AZ (kp [3,2] O) (AC (Bq (.inl O) a ?_))))))
 have n:=K.mono p
 refine Ae O n Ly Ll O λQ x=>Af Bd a.1 O x Ag O λU=>Ae O m Ly Ll O λV y=>Af Bd a.1 O y Ag O λW=>BL O (AA O (AV 6 16 (.bool ((decide (c.At=d.At))&&(decide (c.To=d.To)))) ?_ ?_))
 ·cases X:(decide (c.At=d.At))
  ·exact Aa O O
  exact AB O (Ae O n Al.f_To KY O λY z=>AB O (Af Bd a.1 O z Ag O λZ=>AB O (Ae O m Al.f_To KY O λab A=>AB O (Af Bd a.1 O A Ag O λac=>AB O (BL O (AJ O (AU O)))))))
 refine AA O ?_
 obtain⟨C,b,E⟩:=bd E
 refine AV 6 23 (.bool C) ?_ ?_
 ·cases s:((decide (c.At=d.At))&&(decide (c.To=d.To)))
  ·have b:=F5 s b
   cases b
   exact Aa O O
  have b:=Fy s b
  refine AB O (Ae O n Al.f_Part KX O λad D=>AB O (Ao Bd a.1 O D BW O λae F=>AB O (Ae O m Al.f_Part KX O λaf G=>AB O (Ao Bd a.1 O G BW O λag H=>AB O ?_))))
  obtain⟨ah,t,b⟩:=bd b
  refine A6 O O O TA O (λh' o=>Eu (St.all h') (F.mono' (o.all a.1)) (H.mono' (o.all a.1)) t) (AJ O ?_)
  cases b
  exact AU O
 refine AY O (BM (kp [4] O) λai u I=>Ad (λaa ww hf hw=>?_))
 cases E
 exact Dx hf hw O O (J.trans (p.trans I)) ⟨O,u⟩
theorem LA (hs:St S L h) {k:Value}{t:Aj}(w:Rd S h CO k t) {m:Value}{u:Aj}(z:Rd S h CO m u) {r:Bool}(E:Id N t u=some r):
 CL Tryz.prog 20 #[k,m] S h (λv S' h'=>v= .bool r∧St S' (L) h'):=by
 refine BG (l:=[k,m]) 52 Tryz.func20 O Tryz.ntmps20 O λB=>?_
 rw[Id] at E
 refine WF.sl (B4 O w (λe=>by cases e) O hs λq1 S2 h3 ai e5 k6=>B4 O (z.mono e5) (λe=>by cases e) O ai λq8 S9 D a F n=>AG 1 (AY O (AF (AZ (kp [3,2] O) (AC (Bq (.inl O) a ?_))))))
 have s:=k6.mono F
 refine Ae O s Aj.f_Hour HK O λbg aj=>Af Bd a.1 O aj Ag O λbh=>Ae O n Aj.f_Hour HK O λbi ak=>Af Bd a.1 O ak Ag O λbj=>BL O (AA O ?_)
 obtain⟨G,b,E⟩:=bd E
 refine AV 6 16 (.bool G) ?_ ?_
 ·cases H:(decide (t.Hour=u.Hour))
  ·have b:=F5 H b
   cases b
   exact Aa O O
  have b:=Fy H b
  refine AB O (Ae O s Iw Dm O λbk al=>AB O (Ao Bd a.1 O al Gu O λbl am=>AB O (Ae O n Iw Dm O λbm an=>AB O (Ao Bd a.1 O an Gu O λbn ao=>AB O ?_))))
  have I:Rd S9 D (AM.fnr Tryz.prog (λS h vs (x:((List Int)×(List Int)))=>∃A C:Value,vs=[A,C]∧Sl S h AM.int A x.1∧Sl S h AM.int C x.2) (λS h v (y:Bool)=>v= .bool y)) (.func (.func 41) #[] #[]) (λx=>CF N x.1 x.2):=KD 41 #[] TA λS' h' s' e' L hs x y vs h1 h2=>by obtain⟨A,C,rfl,a0,a1⟩:=h1;exact(Eu hs a0 a1 h2).mono λ_ _ _ _ p=>p
  obtain⟨bo,J,b⟩:=bd b
  refine A6 O O O fJ O (λh' o=>Iz (St.all h') (am.mono' (o.all a.1)) (ao.mono' (o.all a.1)) (I.mono (o.all a.1)) J) (AJ O ?_)
  cases b
  exact AU O
 refine AA O ?_
 obtain⟨K,c,E⟩:=bd E
 refine AV 6 23 (.bool K) ?_ ?_
 ·cases M:G
  ·have c:=F5 M c
   cases c
   exact Aa O O
  have c:=Fy M c
  refine AB O (Ae O s Jf Jy O λbp ap=>AB O (Ao Bd a.1 O ap BW O λbq aq=>AB O (Ae O n Jf Jy O λbr ar=>AB O (Ao Bd a.1 O ar BW O λbs au=>AB O ?_))))
  obtain⟨bt,Q,c⟩:=bd c
  refine A6 O O O TA O (λh' o=>Eu (St.all h') (aq.mono' (o.all a.1)) (au.mono' (o.all a.1)) Q) (AJ O ?_)
  cases c
  exact AU O
 refine AA O ?_
 obtain⟨U,d,E⟩:=bd E
 refine AV 6 30 (.bool U) ?_ ?_
 ·cases V:K
  ·have d:=F5 V d
   cases d
   exact Aa O O
  have d:=Fy V d
  refine AB O (Ae O s D0 G2 O λbu av=>AB O (Ao Bd a.1 O av I3 O λbv aw=>AB O (Ae O n D0 G2 O λbw ax=>AB O (Ao Bd a.1 O ax I3 O λbx ay=>AB O ?_))))
  have W:Rd S9 D (AM.fnr Tryz.prog (λS h vs (x:(Al×Al))=>∃A C:Value,vs=[A,C]∧Rd S h Ap A x.1∧Rd S h Ap C x.2) (λS h v (y:Bool)=>v= .bool y)) (.func (.func 43) #[] #[]) (λx=>Fh N x.1 x.2):=KD 43 #[] fH λS' h' s' e' L hs x y vs h1 h2=>by obtain⟨A,C,rfl,a0,a1⟩:=h1;exact(Nh hs a0 a1 h2).mono λ_ _ _ _ p=>p
  obtain⟨bz,X,d⟩:=bd d
  refine A6 O O O fI O (λh' o=>Da (St.all h') (aw.mono' (o.all a.1)) (ay.mono' (o.all a.1)) (W.mono (o.all a.1)) X) (AJ O ?_)
  cases d
  exact AU O
 refine AA O ?_
 obtain⟨Y,g,E⟩:=bd E
 refine AV 6 37 (.bool Y) ?_ ?_
 ·cases Z:U
  ·have g:=F5 Z g
   cases g
   exact Aa O O
  have g:=Fy Z g
  refine AB O (Ae O s Jh H0 O λb0 az=>AB O (Ao Bd a.1 O az Ki O λb1 a2=>AB O (Ae O n Jh H0 O λb2 a3=>AB O (Ao Bd a.1 O a3 Ki O λb3 a4=>AB O ?_))))
  obtain⟨b4,ab,g⟩:=bd g
  refine A6 O O O fG O (λh' o=>G8 (St.all h') (a2.mono' (o.all a.1)) (a4.mono' (o.all a.1)) ab) (AJ O ?_)
  cases g
  exact AU O
 refine AA O ?_
 obtain⟨ac,i,E⟩:=bd E
 refine AV 6 44 (.bool ac) ?_ ?_
 ·cases ad:Y
  ·have i:=F5 ad i
   cases i
   exact Aa O O
  have i:=Fy ad i
  refine AB O (Ae O s KE KZ O λb5 a5=>AB O (Ao Bd a.1 O a5 BW O λb6 a6=>AB O (Ae O n KE KZ O λb7 a7=>AB O (Ao Bd a.1 O a7 BW O λb8 a8=>AB O ?_))))
  obtain⟨b9,ae,i⟩:=bd i
  refine A6 O O O TA O (λh' o=>Eu (St.all h') (a6.mono' (o.all a.1)) (a8.mono' (o.all a.1)) ae) (AJ O ?_)
  cases i
  exact AU O
 refine AA O ?_
 obtain⟨a9,j,E⟩:=bd E
 refine AV 6 51 (.bool a9) ?_ ?_
 ·cases af:ac
  ·have j:=F5 af j
   cases j
   exact Aa O O
  have j:=Fy af j
  refine AB O (Ae O s Jg Iq O λca ba=>AB O (Ao Bd a.1 O ba BW O λcb bb=>AB O (Ae O n Jg Iq O λcc bc=>AB O (Ao Bd a.1 O bc BW O λcd be=>AB O ?_))))
  obtain⟨ce,ag,j⟩:=bd j
  refine A6 O O O TA O (λh' o=>Eu (St.all h') (bb.mono' (o.all a.1)) (be.mono' (o.all a.1)) ag) (AJ O ?_)
  cases j
  exact AU O
 refine AY O (BM (kp [4] O) λcf ah bf=>Ad (λaa ww hf hw=>?_))
 cases E
 exact Dx hf hw O O (e5.trans (F.trans bf)) ⟨O,ah⟩
theorem MB (hs:St S L h) {r:Bool}(E:GU N=some r):
 CL Tryz.prog 9 #[] S h (λv S' h'=>v= .bool r∧St S' (L) h'):=by
 refine BG (l:=[]) 176 Tryz.func9 O Tryz.ntmps9 O λB=>?_
 rw[GU] at E
 refine AI (AK O Oy (WF.sl ?_))
 obtain⟨y1,om,E⟩:=bd E
 refine Cv O O O fS O (Lt hs om) λv2 S3 h4 e5 p=>?_
 obtain⟨k7,oo⟩:=p
 refine Cp Yk O oo λb9 xj k8 fj=>?_
 obtain⟨a7,a8,a9,ba,bb,bc,be,bf,rfl,eb,c0,ec,c1,c2,c3,c4,c5,c6,c7,ed⟩:=B1.ex (k7.mono fj)
 refine G7 (vs:=[.string y1.Name,a7,vI y1.Cells,a8,a9,ba,bb,bc,be,bf,vI y1.Err]) (cs':=[.string y1.Name,a7,vI y1.Cells,a8,a9,ba,bb,bc,be,bf,vI y1.Err]) O O O (AE O (AE c0.one (AE O (AE c1.one (AE c2.one (AE c3.one (AE c4.one (AE c5.one (AE c6.one (AE c7.one (AE O EH))))))))))) G6 O k8 .head O O λxk gp ak=>AZ (kp [1] O) (WF.sl (AG 1 (Db (vs:=[.string y1.Name,a7,vI y1.Cells,a8,a9,ba,bb,bc,be,bf,vI y1.Err]) A9 gp O mh O O G6 O O (AF ?_))))
 obtain⟨ad,k9,E⟩:=bd E
 refine Cv O O O fZ O (PY gp (B1.mk (x:=y1) eb (c0.mono' ak) ec (c1.mono' ak) (c2.mono' ak) (c3.mono' ak) (c4.mono' ak) (c5.mono' ak) (c6.mono' ak) (c7.mono' ak) ed) (iq (n:=5) O) k9) λxl xm xn c8 p=>?_
 obtain⟨op,la⟩:=p
 refine Cp Oa O la λee xo lb cn=>?_
 obtain⟨bg,bh,bi,bj,bk,bl,rfl,ef,co,c9,da,db,dc,dd⟩:=CO.ex (op.mono cn)
 refine G7 (vs:=[vI ad.Hour,bg,bh,bi,bj,bk,bl]) (cs':=[vI ad.Hour,bg,bh,bi,bj,bk,bl]) O O O (AE O (AE co.one (AE c9.one (AE da.one (AE db.one (AE dc.one (AE dd.one EH))))))) HI O lb .head O O λxp g F=>AZ (kp [2,1] O) (AC (AC (Bq (.inl O) g (Db (vs:=[.string y1.Name,a7,vI y1.Cells,a8,a9,ba,bb,bc,be,bf,vI y1.Err]) Bd g O (mt mh) O O G6 O O ?_))))
 have av:=ak.trans (c8.trans (cn.trans F))
 obtain⟨oq,lc,E⟩:=bd E
 refine A6 O O O ZI O (λh' o=>L4 (St.all h') (B1.mk (x:=y1) eb ((c0.mono' av).mono' (o.all g.1)) ec ((c1.mono' av).mono' (o.all g.1)) ((c2.mono' av).mono' (o.all g.1)) ((c3.mono' av).mono' (o.all g.1)) ((c4.mono' av).mono' (o.all g.1)) ((c5.mono' av).mono' (o.all g.1)) ((c6.mono' av).mono' (o.all g.1)) ((c7.mono' av).mono' (o.all g.1)) ed) lc) (BY O (AA O ?_))
 obtain⟨hk,aw,E⟩:=bd E
 refine AV 5 23 (.bool hk) ?_ ?_
 ·cases ld:(!oq)
  ·have aw:=F5 ld aw
   refine AB O (Db (vs:=[.string y1.Name,a7,vI y1.Cells,a8,a9,ba,bb,bc,be,bf,vI y1.Err]) Bd g O (mt mh) O O G6 O O (AB O (Db (vs:=[vI ad.Hour,bg,bh,bi,bj,bk,bl]) Bd g O mh O O HI O O (AB O ?_))))
   have ax:=ak.trans (c8.trans (cn.trans F))
   obtain⟨rp,hl,aw⟩:=bd aw
   refine A6 O O O W7 O (λh' o=>Kk (St.all h') (B1.mk (x:=y1) eb ((c0.mono' ax).mono' (o.all g.1)) ec ((c1.mono' ax).mono' (o.all g.1)) ((c2.mono' ax).mono' (o.all g.1)) ((c3.mono' ax).mono' (o.all g.1)) ((c4.mono' ax).mono' (o.all g.1)) ((c5.mono' ax).mono' (o.all g.1)) ((c6.mono' ax).mono' (o.all g.1)) ((c7.mono' ax).mono' (o.all g.1)) ed) (CO.mk (x:=ad) ef ((co.mono' F).mono' (o.all g.1)) ((c9.mono' F).mono' (o.all g.1)) ((da.mono' F).mono' (o.all g.1)) ((db.mono' F).mono' (o.all g.1)) ((dc.mono' F).mono' (o.all g.1)) ((dd.mono' F).mono' (o.all g.1))) hl) (AB O (BY O (AJ O ?_)))
   cases aw
   exact AU O
  have aw:=Fy ld aw
  cases aw
  exact Aa O O
 refine AA O (AV 5 29 (.bool (hk||(decide ((↑ad.Own.length:Int)≠1)))) ?_ ?_)
 ·cases rq:hk
  ·exact AB O (AD Dm O (AB O (AS Bd g O mh O Gu O (AB O (An O (co.mono' F) Ev O λrr=>AB O (Bt O (AJ O (AU O))))))))
  exact Aa O O
 refine BM (kp [29,2,1] O) λrs b2 I=>AW O E (λle E=>?_) (λle E=>?_)
 ·refine AI (AK O (kp [0] O) (Ad (λaa ww hf hw=>?_)))
  have hm:=b2.sel [] 2 O
  cases E
  exact Dx hf hw O O (e5.trans (fj.trans (ak.trans (c8.trans (cn.trans (F.trans I)))))) ⟨O,hm⟩
 refine AQ (WF.sl (AG 3 (Db (vs:=[.string y1.Name,a7,vI y1.Cells,a8,a9,ba,bb,bc,be,bf,vI y1.Err]) A9 b2 O (mt mh) O O G6 O O (Db (vs:=[vI ad.Hour,bg,bh,bi,bj,bk,bl]) A9 b2 O mh O O HI O O (HA (cs:=[vN,vN,vN,vN,vN]) Yu O O O (AF ?_))))))
 have ab:=ak.trans (c8.trans (cn.trans (F.trans I)))
 obtain⟨i,hn,E⟩:=bd E
 refine Cv O O O W8 O (K9 b2 (B1.mk (x:=y1) eb (c0.mono' ab) ec (c1.mono' ab) (c2.mono' ab) (c3.mono' ab) (c4.mono' ab) (c5.mono' ab) (c6.mono' ab) (c7.mono' ab) ed) (CO.mk (x:=ad) ef (co.mono' (F.trans I)) (c9.mono' (F.trans I)) (da.mono' (F.trans I)) (db.mono' (F.trans I)) (dc.mono' (F.trans I)) (dd.mono' (F.trans I))) (Fm.mk (x:=(⟨[],[],[],[],[]⟩:Ek)) (.inl ⟨O,O⟩) (.inl ⟨O,O⟩) (.inl ⟨O,O⟩) (.inl ⟨O,O⟩) (.inl ⟨O,O⟩)) hn) λrt ru rv bm p=>?_
 obtain⟨rx,eg,eh,rfl,lf,ho⟩:=p
 refine AG 4 (AA O (Bo O (Bo O (Bo O (AF (Cp Oa O ho λbx ry hp ay=>?_))))))
 obtain⟨az,a0,a1,a2,a3,a4,rfl,ei,ap,d4,d5,d6,d7,bn⟩:=CO.ex (lf.mono ay)
 refine G7 (vs:=[vI i.1.Hour,az,a0,a1,a2,a3,a4]) (cs':=[vI i.1.Hour,az,a0,a1,a2,a3,a4]) O O O (AE O (AE ap.one (AE d4.one (AE d5.one (AE d6.one (AE d7.one (AE bn.one EH))))))) HI O hp .head O O λrz de J=>AG 2 (AY O (AY O (AF (AZ (kp [5,4,3,2,1] O) (WF.sl (AG 3 (Db (vs:=[.string y1.Name,a7,vI y1.Cells,a8,a9,ba,bb,bc,be,bf,vI y1.Err]) A9 de O (mt (mt (mt (mt mh)))) O O G6 O O (Db (vs:=[vI ad.Hour,bg,bh,bi,bj,bk,bl]) A9 de O (mt (mt (mt mh))) O O HI O O (HA (cs:=[vI 0,vI 1,vI 60,vI (-1)]) cG O O O (AF (DY (cs:=[vI 0,vI 1,vI 60,vI (-1)]) dW O O O O O O O de λlg r0 hq K=>AG 1 ?_)))))))))))
 have hr:=hq.bxos (r:=Fd) (l:=([(⟨0,1,60,(-1)⟩:IT)]:List IT)) .head ⟨_,_,O,⟨O,⟨(iq (n:=0) O),(iq (n:=1) O),(iq (n:=60) O),(iq (n:=(-1)) O)⟩⟩,O⟩ (by simp [maxLen])
 obtain⟨r1,ht,M,lh⟩:=hr.pubs .head
 refine HA (cs:=[vN,vN,vN,(.slice (some ⟨lg,0,none⟩) 1 1),vN]) Yu O O O (AF ?_)
 have ae:=ab.trans (bm.trans (ay.trans (J.trans (K.trans M))))
 have aq:=F.trans (I.trans (bm.trans (ay.trans (J.trans (K.trans M)))))
 obtain⟨y,hu,E⟩:=bd E
 refine Cv O O O W8 O (K9 ht (B1.mk (x:=y1) eb (c0.mono' ae) ec (c1.mono' ae) (c2.mono' ae) (c3.mono' ae) (c4.mono' ae) (c5.mono' ae) (c6.mono' ae) (c7.mono' ae) ed) (CO.mk (x:=ad) ef (co.mono' aq) (c9.mono' aq) (da.mono' aq) (db.mono' aq) (dc.mono' aq) (dd.mono' aq)) (Fm.mk (x:=(⟨[],[],[],([(⟨0,1,60,(-1)⟩:IT)]:List IT),[]⟩:Ek)) (.inl ⟨O,O⟩) (.inl ⟨O,O⟩) (.inl ⟨O,O⟩) lh (.inl ⟨O,O⟩)) hu) λr2 gq r3 ac p=>?_
 obtain⟨r4,cp,ej,rfl,li,hv⟩:=p
 refine AG 4 (AA O (Bo O (Bo O (Bo O (AF (Cp Oa O hv λcq r5 hx Z=>?_))))))
 obtain⟨cr,ct,cu,cv,cw,cx,rfl,r6,ek,lj,ll,lm,lo,lp⟩:=CO.ex (li.mono Z)
 refine G7 (vs:=[vI y.1.Hour,cr,ct,cu,cv,cw,cx]) (cs':=[vI y.1.Hour,cr,ct,cu,cv,cw,cx]) O O O (AE O (AE ek.one (AE lj.one (AE ll.one (AE lm.one (AE lo.one (AE lp.one EH))))))) HI O hx .head O O λgr d Q=>AG 2 (AY O (AY O (AF (AZ (kp [7,6,5,4,3,2,1] O) (AC (AI (AA O (Kc d (mt (mt (mt (mt mh)))) O F9 O λr7=>Bt O (AA O (AV 4 55 (.bool ((decide ((↑i.2.1.length:Int)≠2))||(decide ((↑y.2.1.length:Int)≠2)))) ?_ ?_))))))))))
 ·cases r8:(decide ((↑i.2.1.length:Int)≠2))
  ·exact AB O (AA O (AB O (Kc d (mt mh) O F9 O λr9=>AB O (Bt O (AJ O (AU O))))))
  exact Aa O O
 refine AA O (AV 5 61 (.bool (((decide ((↑i.2.1.length:Int)≠2))||(decide ((↑y.2.1.length:Int)≠2)))||(decide ((↑i.1.Own.length:Int)≠1)))) ?_ ?_)
 ·cases sa:((decide ((↑i.2.1.length:Int)≠2))||(decide ((↑y.2.1.length:Int)≠2)))
  ·exact AB O (AD Dm O (AB O (AS A9 d O (mt (mt (mt mh))) O Gu O (AB O (An O (ap.mono' (J.trans (K.trans (M.trans (ac.trans (Z.trans Q)))))) Ev O λsc=>AB O (Bt O (AJ O (AU O))))))))
  exact Aa O O
 refine AA O (AV 5 67 (.bool ((((decide ((↑i.2.1.length:Int)≠2))||(decide ((↑y.2.1.length:Int)≠2)))||(decide ((↑i.1.Own.length:Int)≠1)))||(decide ((↑y.1.Own.length:Int)≠1)))) ?_ ?_)
 ·cases sd:(((decide ((↑i.2.1.length:Int)≠2))||(decide ((↑y.2.1.length:Int)≠2)))||(decide ((↑i.1.Own.length:Int)≠1)))
  ·exact AB O (AD Dm O (AB O (AS A9 d O mh O Gu O (AB O (An O (ek.mono' Q) Ev O λse=>AB O (Bt O (AJ O (AU O))))))))
  exact Aa O O
 refine AN (kp [67,7,6,5,4,3,2,1] O) (AW O E (λlq E=>?_) (λlq E=>?_))
 ·refine AI (AK O (kp [0] O) (Ad (λaa ww hf hw=>?_)))
  have hy:=d.sel [] 8 O
  cases E
  exact Dx hf hw O O (e5.trans (fj.trans (ak.trans (c8.trans (cn.trans (F.trans (I.trans (bm.trans (ay.trans (J.trans (K.trans (M.trans (ac.trans (Z.trans Q)))))))))))))) ⟨O,hy⟩
 refine AQ (AC ?_)
 obtain⟨sf,bo,E⟩:=bd E
 obtain⟨lr,bp,E⟩:=bd E
 obtain⟨sg,z,E⟩:=bd E
 obtain⟨sh,G,E⟩:=bd E
 obtain⟨si,t,E⟩:=bd E
 obtain⟨a5,H,E⟩:=bd E
 refine Ge (λa w=>IV B gq gr (176,[]) a w [(9,.bool a5),(7,cp),(6,vP cq 0),(3,vP bx 0),(2,vP ee 0),(1,vP b9 0)] (Bx cq 36 [vI y.1.Hour,cr,ct,cu,cv,cw,cx]::OS BH 50 cp y.2.1::OS AM.int 3 ej y.2.2::Bx bx 36 [vI i.1.Hour,az,a0,a1,a2,a3,a4]::OS BH 50 eg i.2.1::OS AM.int 3 eh i.2.2::Bx ee 36 [vI ad.Hour,bg,bh,bi,bj,bk,bl]::Bx b9 31 [.string y1.Name,a7,vI y1.Cells,a8,a9,ba,bb,bc,be,bf,vI y1.Err]::L) λ_ _=>True) ?_ ?_
 ·rcases XY (decide (lr.Way=(-1))) with a6|a6
  ·have z:=F5 a6 z
   have ls:=Option.some.inj z
   subst ls
   have lt:=Option.some.inj G
   subst lt
   have lu:=Option.some.inj t
   subst lu
   have lv:=Option.some.inj H
   subst lv
   refine D3 (AG 1 (AA O (AF (AG 1 (A8 d (mt (mt (mt (mt mh)))) O O F9 bo O λsj hz=>AF (AG 1 (Fe O hz G1 O λsk h0=>AF (AG 1 ?_))))))))
   have lw:=d.epAt (mt (mt (mt (mt mh)))) bp Dk h0
   refine Af A9 (λ_ x=>x) O lw Ag O λsm=>AF (AG 1 (BL O (AF (Gl a6 (AG 1 (AA O (AF (AG 1 (Ay O (AF (AG 1 (Ay O (AF (AG 1 (Ay O (AF (AG 1 (Ay O (AF (AG 1 (Ay O (AF (AG 1 (Ay O (AF (AG 1 (AJ O (AF ?_))))))))))))))))))))))))))))
   refine AG 1 (AA O (AF (AG 1 (Ay O (AF (AG 1 (Ay O (AF (AG 1 (Ay O (AF (AG 1 (Ay O (AF (AG 1 (Ay O (AF (AG 1 (AJ O (AF (AG 1 (AA O (AF (AG 1 (Ay O (AF (AG 1 (Ay O (AF ?_)))))))))))))))))))))))))))))
   refine AG 1 (Ay O (AF (AG 1 (Ay O (AF (AG 1 (Ay O (AF (AG 1 (Ay O (AF (AG 1 (AJ O (AF (AG 1 (AA O (AF (AG 1 (Ay O (AF (AG 1 (Ay O (AF (AG 1 (Ay O (AF (AG 1 (AJ O (AF ?_)))))))))))))))))))))))))))))
   exact AG 1 (AY O (AF (AZ (kp [9,7,6,3,2,1] O) (WF.nil (λaa ww hf hw=>⟨_,_,hf.sub (kp [9,7,6,3,2,1] O),hw,d,(CA.refl gq gr),trivial⟩)))))
  have z:=Fy a6 z
  obtain⟨sn,b3,z⟩:=bd z
  obtain⟨so,b4,z⟩:=bd z
  obtain⟨lx,b5,z⟩:=bd z
  have ly:=Option.some.inj z
  subst ly
  rcases XY lx with bq|bq
  ·have G:=F5 bq G
   have lz:=Option.some.inj G
   subst lz
   have l0:=Option.some.inj t
   subst l0
   have l1:=Option.some.inj H
   subst l1
   refine D3 (AG 1 (AA O (AF (AG 1 (A8 d (mt (mt (mt (mt mh)))) O O F9 bo O λsp h1=>AF (AG 1 (Fe O h1 G1 O λsq h2=>AF (AG 1 ?_))))))))
   have l2:=d.epAt (mt (mt (mt (mt mh)))) bp Dk h2
   refine Af A9 (λ_ x=>x) O l2 Ag O λss=>AF (AG 1 (BL O (AF (Gl a6 (AG 1 (AA O (AF (AG 1 (AB O (AA O (AF (AG 1 (AB O (A8 d (mt (mt (mt (mt mh)))) O O F9 b3 O λsu h3=>AF (AG 1 (AB O (Fe O h3 Ha O λsv h5=>AF (AG 1 (AB O ?_)))))))))))))))))))
   have l3:=d.epAt (mt (mt (mt (mt mh)))) b4 Ak.f_Part h5
   refine Ao A9 (λ_ x=>x) O l3 BW O λsw l4=>AF (GI O O O (DY (cs:=[vI 10,vI 5]) Ef O O O O O O O d λsx sy h6 gs=>GI O O O ?_))
   have h7:=h6.bxos (r:=AM.int) (l:=([10,5]:List Int)) .head ⟨_,_,O,⟨O,(iq (n:=10) O)⟩,⟨_,_,O,⟨O,(iq (n:=5) O)⟩,O⟩⟩ (by simp [maxLen])
   obtain⟨sz,df,gt,l5⟩:=h7.pubs .head
   refine BX O O O IS O df (BA (St.all _) ((l4.mono' (gs.trans gt)).mono (λb hb=>df.1 b hb) (λ_ _=>rfl)) (l5.mono (λb hb=>df.1 b hb) (λ_ _=>rfl)) b5) λs0 s1 s2 h8 l6 s3 p=>?_
   obtain⟨rfl,os⟩:=p
   refine Gl bq (AG 1 (AJ O (AF (AG 1 (AA O (AF (AG 1 (Ay O (AF (AG 1 (Ay O (AF (AG 1 (Ay O (AF (AG 1 (Ay O (AF (AG 1 (Ay O (AF (AG 1 (AJ O (AF (AG 1 (AA O (AF (AG 1 (Ay O ?_)))))))))))))))))))))))))))))
   refine AF (AG 1 (Ay O (AF (AG 1 (Ay O (AF (AG 1 (Ay O (AF (AG 1 (Ay O (AF (AG 1 (Ay O (AF (AG 1 (AJ O (AF (AG 1 (AA O (AF (AG 1 (Ay O (AF (AG 1 (Ay O (AF (AG 1 (Ay O ?_)))))))))))))))))))))))))))))
   exact AF (AG 1 (AJ O (AF (AG 1 (AY O (AF (AZ (kp [9,7,6,3,2,1] O) (WF.nil (λaa ww hf hw=>⟨_,_,hf.sub (kp [9,7,6,3,2,1] O),hw,h8,(gs.trans (gt.trans l6)),trivial⟩)))))))))
  have G:=Fy bq G
  obtain⟨s4,dg,G⟩:=bd G
  obtain⟨l7,dh,G⟩:=bd G
  have l8:=Option.some.inj G
  subst l8
  rcases XY (decide (l7.Way=(-2))) with bz|bz
  ·have t:=F5 bz t
   have l9:=Option.some.inj t
   subst l9
   have ma:=Option.some.inj H
   subst ma
   refine D3 (AG 1 (AA O (AF (AG 1 (A8 d (mt (mt (mt (mt mh)))) O O F9 bo O λs5 h9=>AF (AG 1 (Fe O h9 G1 O λs6 ia=>AF (AG 1 ?_))))))))
   have mb:=d.epAt (mt (mt (mt (mt mh)))) bp Dk ia
   refine Af A9 (λ_ x=>x) O mb Ag O λs7=>AF (AG 1 (BL O (AF (Gl a6 (AG 1 (AA O (AF (AG 1 (AB O (AA O (AF (AG 1 (AB O (A8 d (mt (mt (mt (mt mh)))) O O F9 b3 O λs8 ib=>AF (AG 1 (AB O (Fe O ib Ha O λs9 ic=>AF (AG 1 (AB O ?_)))))))))))))))))))
   have mc:=d.epAt (mt (mt (mt (mt mh)))) b4 Ak.f_Part ic
   refine Ao A9 (λ_ x=>x) O mc BW O λta md=>AF (GI O O O (DY (cs:=[vI 10,vI 5]) Ef O O O O O O O d λtb tc id gu=>GI O O O ?_))
   have ie:=id.bxos (r:=AM.int) (l:=([10,5]:List Int)) .head ⟨_,_,O,⟨O,(iq (n:=10) O)⟩,⟨_,_,O,⟨O,(iq (n:=5) O)⟩,O⟩⟩ (by simp [maxLen])
   obtain⟨td,di,gv,me⟩:=ie.pubs .head
   refine BX O O O IS O di (BA (St.all _) ((md.mono' (gu.trans gv)).mono (λb hb=>di.1 b hb) (λ_ _=>rfl)) (me.mono (λb hb=>di.1 b hb) (λ_ _=>rfl)) b5) λte tf tg dj mf th p=>?_
   obtain⟨rfl,ot⟩:=p
   refine Gl bq (AG 1 (AJ O (AF (AG 1 (AA O (AF (AG 1 (AB O (AA O (AF (AG 1 (AB O (A8 dj (mt (mt (mt (mt mh)))) O O F9 dg O λti ig=>AF (AG 1 (AB O (Fe O ig G1 O λtj ih=>AF (AG 1 (AB O ?_))))))))))))))))))
   have mg:=dj.epAt (mt (mt (mt (mt mh)))) dh Dk ih
   refine Af A9 (λ_ x=>x) O mg Ag O λtk=>AF (AG 1 (AB O (BL O (AF (Gl bz (AG 1 (AJ O (AF (AG 1 (AA O (AF (AG 1 (Ay O (AF (AG 1 (Ay O (AF (AG 1 (Ay O (AF (AG 1 (Ay O (AF (AG 1 (Ay O (AF (AG 1 (Ay O ?_))))))))))))))))))))))))))))
   exact AF (AG 1 (AJ O (AF (AG 1 (AA O (AF (AG 1 (Ay O (AF (AG 1 (Ay O (AF (AG 1 (Ay O (AF (AG 1 (AJ O (AF (AG 1 (AY O (AF (AZ (kp [9,7,6,3,2,1] O) (WF.nil (λaa ww hf hw=>⟨_,_,hf.sub (kp [9,7,6,3,2,1] O),hw,dj,(gu.trans (gv.trans mf)),trivial⟩))))))))))))))))))))))))
  have t:=Fy bz t
  obtain⟨tl,el,t⟩:=bd t
  obtain⟨tm,em,t⟩:=bd t
  obtain⟨mi,en,t⟩:=bd t
  have mj:=Option.some.inj t
  subst mj
  rcases XY mi with cy|cy
  ·have H:=F5 cy H
   have ml:=Option.some.inj H
   subst ml
   refine D3 (AG 1 (AA O (AF (AG 1 (A8 d (mt (mt (mt (mt mh)))) O O F9 bo O λtn ii=>AF (AG 1 (Fe O ii G1 O λtp ij=>AF (AG 1 ?_))))))))
   have mm:=d.epAt (mt (mt (mt (mt mh)))) bp Dk ij
   refine Af A9 (λ_ x=>x) O mm Ag O λtq=>AF (AG 1 (BL O (AF (Gl a6 (AG 1 (AA O (AF (AG 1 (AB O (AA O (AF (AG 1 (AB O (A8 d (mt (mt (mt (mt mh)))) O O F9 b3 O λtr ik=>AF (AG 1 (AB O (Fe O ik Ha O λts il=>AF (AG 1 (AB O ?_)))))))))))))))))))
   have mn:=d.epAt (mt (mt (mt (mt mh)))) b4 Ak.f_Part il
   refine Ao A9 (λ_ x=>x) O mn BW O λtt mp=>AF (GI O O O (DY (cs:=[vI 10,vI 5]) Ef O O O O O O O d λtu tv im gw=>GI O O O ?_))
   have io:=im.bxos (r:=AM.int) (l:=([10,5]:List Int)) .head ⟨_,_,O,⟨O,(iq (n:=10) O)⟩,⟨_,_,O,⟨O,(iq (n:=5) O)⟩,O⟩⟩ (by simp [maxLen])
   obtain⟨tw,dk,gx,mq⟩:=io.pubs .head
   refine BX O O O IS O dk (BA (St.all _) ((mp.mono' (gw.trans gx)).mono (λb hb=>dk.1 b hb) (λ_ _=>rfl)) (mq.mono (λb hb=>dk.1 b hb) (λ_ _=>rfl)) b5) λtx ty tz br mr t0 p=>?_
   obtain⟨rfl,ou⟩:=p
   refine Gl bq (AG 1 (AJ O (AF (AG 1 (AA O (AF (AG 1 (AB O (AA O (AF (AG 1 (AB O (A8 br (mt (mt (mt (mt mh)))) O O F9 dg O λt1 ip=>AF (AG 1 (AB O (Fe O ip G1 O λt2 ir=>AF (AG 1 (AB O ?_))))))))))))))))))
   have ms:=br.epAt (mt (mt (mt (mt mh)))) dh Dk ir
   refine Af A9 (λ_ x=>x) O ms Ag O λt3=>AF (AG 1 (AB O (BL O (AF (Gl bz (AG 1 (AJ O (AF (AG 1 (AA O (AF (AG 1 (AB O (AA O (AF (AG 1 (AB O (A8 br (mt (mt (mt (mt mh)))) O O F9 el O λt4 it=>AF (AG 1 (AB O (Fe O it Ha O λt5 iu=>AF (AG 1 (AB O ?_)))))))))))))))))))))))
   have mu:=br.epAt (mt (mt (mt (mt mh)))) em Ak.f_Part iu
   refine Ao A9 (λ_ x=>x) O mu BW O λt6 mv=>AF (GI O O O (DY (cs:=[vI 10,vI 5]) Ef O O O O O O O br λt7 t8 iv gz=>GI O O O ?_))
   have iw:=iv.bxos (r:=AM.int) (l:=([10,5]:List Int)) .head ⟨_,_,O,⟨O,(iq (n:=10) O)⟩,⟨_,_,O,⟨O,(iq (n:=5) O)⟩,O⟩⟩ (by simp [maxLen])
   obtain⟨t9,dl,g0,mw⟩:=iw.pubs .head
   refine BX O O O IS O dl (BA (St.all _) ((mv.mono' (gz.trans g0)).mono (λb hb=>dl.1 b hb) (λ_ _=>rfl)) (mw.mono (λb hb=>dl.1 b hb) (λ_ _=>rfl)) en) λua ub uc iy mx ud p=>?_
   obtain⟨rfl,ov⟩:=p
   exact Gl cy (AG 1 (AJ O (AF (AG 1 (AA O (AF (AG 1 (Ay O (AF (AG 1 (Ay O (AF (AG 1 (Ay O (AF (AG 1 (AJ O (AF (AG 1 (AY O (AF (AZ (kp [9,7,6,3,2,1] O) (WF.nil (λaa ww hf hw=>⟨_,_,hf.sub (kp [9,7,6,3,2,1] O),hw,iy,(gw.trans (gx.trans (mr.trans (gz.trans (g0.trans mx))))),trivial⟩))))))))))))))))))))))))
  have H:=Fy cy H
  obtain⟨ue,iz,H⟩:=bd H
  have my:=Option.some.inj H
  subst my
  refine D3 (AG 1 (AA O (AF (AG 1 (A8 d (mt (mt (mt (mt mh)))) O O F9 bo O λuf i0=>AF (AG 1 (Fe O i0 G1 O λug i1=>AF (AG 1 ?_))))))))
  have mz:=d.epAt (mt (mt (mt (mt mh)))) bp Dk i1
  refine Af A9 (λ_ x=>x) O mz Ag O λuh=>AF (AG 1 (BL O (AF (Gl a6 (AG 1 (AA O (AF (AG 1 (AB O (AA O (AF (AG 1 (AB O (A8 d (mt (mt (mt (mt mh)))) O O F9 b3 O λui i2=>AF (AG 1 (AB O (Fe O i2 Ha O λuj i3=>AF (AG 1 (AB O ?_)))))))))))))))))))
  have m0:=d.epAt (mt (mt (mt (mt mh)))) b4 Ak.f_Part i3
  refine Ao A9 (λ_ x=>x) O m0 BW O λuk m1=>AF (GI O O O (DY (cs:=[vI 10,vI 5]) Ef O O O O O O O d λul um i4 g1=>GI O O O ?_))
  have i5:=i4.bxos (r:=AM.int) (l:=([10,5]:List Int)) .head ⟨_,_,O,⟨O,(iq (n:=10) O)⟩,⟨_,_,O,⟨O,(iq (n:=5) O)⟩,O⟩⟩ (by simp [maxLen])
  obtain⟨un,dm,g2,m2⟩:=i5.pubs .head
  refine BX O O O IS O dm (BA (St.all _) ((m1.mono' (g1.trans g2)).mono (λb hb=>dm.1 b hb) (λ_ _=>rfl)) (m2.mono (λb hb=>dm.1 b hb) (λ_ _=>rfl)) b5) λuo up uq bs m3 ur p=>?_
  obtain⟨rfl,ow⟩:=p
  refine Gl bq (AG 1 (AJ O (AF (AG 1 (AA O (AF (AG 1 (AB O (AA O (AF (AG 1 (AB O (A8 bs (mt (mt (mt (mt mh)))) O O F9 dg O λus i6=>AF (AG 1 (AB O (Fe O i6 G1 O λut i7=>AF (AG 1 (AB O ?_))))))))))))))))))
  have m4:=bs.epAt (mt (mt (mt (mt mh)))) dh Dk i7
  refine Af A9 (λ_ x=>x) O m4 Ag O λuu=>AF (AG 1 (AB O (BL O (AF (Gl bz (AG 1 (AJ O (AF (AG 1 (AA O (AF (AG 1 (AB O (AA O (AF (AG 1 (AB O (A8 bs (mt (mt (mt (mt mh)))) O O F9 el O λuv i8=>AF (AG 1 (AB O (Fe O i8 Ha O λuw i9=>AF (AG 1 (AB O ?_)))))))))))))))))))))))
  have m5:=bs.epAt (mt (mt (mt (mt mh)))) em Ak.f_Part i9
  refine Ao A9 (λ_ x=>x) O m5 BW O λux m6=>AF (GI O O O (DY (cs:=[vI 10,vI 5]) Ef O O O O O O O bs λuy uz ja g3=>GI O O O ?_))
  have jb:=ja.bxos (r:=AM.int) (l:=([10,5]:List Int)) .head ⟨_,_,O,⟨O,(iq (n:=10) O)⟩,⟨_,_,O,⟨O,(iq (n:=5) O)⟩,O⟩⟩ (by simp [maxLen])
  obtain⟨u0,dn,g4,m7⟩:=jb.pubs .head
  refine BX O O O IS O dn (BA (St.all _) ((m6.mono' (g3.trans g4)).mono (λb hb=>dn.1 b hb) (λ_ _=>rfl)) (m7.mono (λb hb=>dn.1 b hb) (λ_ _=>rfl)) en) λu1 u2 u3 jc m8 u4 p=>?_
  obtain⟨rfl,ox⟩:=p
  refine Gl cy (AG 1 (AJ O (AF (AG 1 (AA O (AF (AG 1 (AB O (AA O (AF (GI O O O (DY (cs:=[vI 150]) Ef O O O O O O O jc λu5 u6 jd m9=>GI O O O ?_))))))))))))
  have je:=jd.bxos (r:=AM.int) (l:=([150]:List Int)) .head ⟨_,_,O,⟨O,(iq (n:=150) O)⟩,O⟩ (by simp [maxLen])
  obtain⟨u7,dp,na,nb⟩:=je.pubs .head
  refine BX O O O IS O dp (BA (St.all _) (dp.oslAll (mt (mt (mt (mt (mt mh)))))) (nb.mono (λb hb=>dp.1 b hb) (λ_ _=>rfl)) iz) λu8 u9 va jf nc vb p=>?_
  obtain⟨rfl,oy⟩:=p
  exact AG 1 (AJ O (AF (AG 1 (AY O (AF (AZ (kp [9,7,6,3,2,1] O) (WF.nil (λaa ww hf hw=>⟨_,_,hf.sub (kp [9,7,6,3,2,1] O),hw,jf,(g1.trans (g2.trans (m3.trans (g3.trans (g4.trans (m8.trans (m9.trans (na.trans nc)))))))),trivial⟩))))))))
 rintro aa ww ⟨nd,ne,hf,hw,A,af,_⟩
 refine Ac ?_ hf hw
 clear hf hw ww aa
 refine AC ?_
 obtain⟨vc,b6,E⟩:=bd E
 obtain⟨nf,b7,E⟩:=bd E
 obtain⟨vd,ag,E⟩:=bd E
 obtain⟨ve,am,E⟩:=bd E
 obtain⟨b0,C,E⟩:=bd E
 refine Ge (λa w=>IV B nd ne (176,[]) a w [(10,.bool b0),(9,.bool a5),(7,cp),(6,vP cq 0),(3,vP bx 0),(2,vP ee 0),(1,vP b9 0)] (Bx cq 36 [vI y.1.Hour,cr,ct,cu,cv,cw,cx]::OS BH 50 cp y.2.1::OS AM.int 3 ej y.2.2::Bx bx 36 [vI i.1.Hour,az,a0,a1,a2,a3,a4]::OS BH 50 eg i.2.1::OS AM.int 3 eh i.2.2::Bx ee 36 [vI ad.Hour,bg,bh,bi,bj,bk,bl]::Bx b9 31 [.string y1.Name,a7,vI y1.Cells,a8,a9,ba,bb,bc,be,bf,vI y1.Err]::L) λ_ _=>True) ?_ ?_
 ·rcases XY nf with bt|bt
  ·have ag:=F5 bt ag
   have ng:=Option.some.inj ag
   subst ng
   have nh:=Option.some.inj am
   subst nh
   have ni:=Option.some.inj C
   subst ni
   refine D3 (AG 1 (AD Dm O (AF (AG 1 (AS A9 A O (mt (mt (mt mh))) O Gu O (AF (AG 1 (BE O O (ap.mono' (J.trans (K.trans (M.trans (ac.trans (Z.trans (Q.trans af))))))) Ev b6 O λvf nj=>AF (AG 1 (Ao A9 A.1 O nj BW O λvg nk=>AF (DY (cs:=[vI 80,vI 40]) Ef O O O O O O O A λvh vi jg g5=>?_)))))))))))
   have jh:=jg.bxos (r:=AM.int) (l:=([80,40]:List Int)) .head ⟨_,_,O,⟨O,(iq (n:=80) O)⟩,⟨_,_,O,⟨O,(iq (n:=40) O)⟩,O⟩⟩ (by simp [maxLen])
   obtain⟨vj,dq,g6,nl⟩:=jh.pubs .head
   refine BX O O O IS O dq (BA (St.all _) ((nk.mono' (g5.trans g6)).mono (λb hb=>dq.1 b hb) (λ_ _=>rfl)) (nl.mono (λb hb=>dq.1 b hb) (λ_ _=>rfl)) b7) λvk vl vm ji nm vn p=>?_
   obtain⟨rfl,oz⟩:=p
   refine Gl bt (AG 1 (AA O (AF (AG 1 (Ay O (AF (AG 1 (Ay O (AF (AG 1 (Ay O (AF (AG 1 (Ay O (AF (AG 1 (AJ O (AF (AG 1 (AA O (AF (AG 1 (Ay O (AF (AG 1 (Ay O (AF (AG 1 (Ay O ?_)))))))))))))))))))))))))))))
   exact AF (AG 1 (AJ O (AF (AG 1 (AA O (AF (AG 1 (Ay O (AF (AG 1 (Ay O (AF (AG 1 (Ay O (AF (AG 1 (Ay O (AF (AG 1 (AJ O (AF (AG 1 (AY O (AF (AZ (kp [10,9,7,6,3,2,1] O) (WF.nil (λaa ww hf hw=>⟨_,_,hf.sub (kp [10,9,7,6,3,2,1] O),hw,ji,(g5.trans (g6.trans nm)),trivial⟩)))))))))))))))))))))))))))
  have ag:=Fy bt ag
  obtain⟨nn,dr,ag⟩:=bd ag
  have no:=Option.some.inj ag
  subst no
  rcases XY nn with b1|b1
  ·have am:=F5 b1 am
   have np:=Option.some.inj am
   subst np
   have nq:=Option.some.inj C
   subst nq
   refine D3 (AG 1 (AD Dm O (AF (AG 1 (AS A9 A O (mt (mt (mt mh))) O Gu O (AF (AG 1 ?_)))))))
   have eo:=J.trans (K.trans (M.trans (ac.trans (Z.trans (Q.trans af)))))
   refine BE O O (ap.mono' eo) Ev b6 O λvo nr=>AF (AG 1 (Ao A9 A.1 O nr BW O λvp ns=>AF (DY (cs:=[vI 80,vI 40]) Ef O O O O O O O A λvq vr jj ep=>?_)))
   have jk:=jj.bxos (r:=AM.int) (l:=([80,40]:List Int)) .head ⟨_,_,O,⟨O,(iq (n:=80) O)⟩,⟨_,_,O,⟨O,(iq (n:=40) O)⟩,O⟩⟩ (by simp [maxLen])
   obtain⟨vt,ds,eq,nt⟩:=jk.pubs .head
   refine BX O O O IS O ds (BA (St.all _) ((ns.mono' (ep.trans eq)).mono (λb hb=>ds.1 b hb) (λ_ _=>rfl)) (nt.mono (λb hb=>ds.1 b hb) (λ_ _=>rfl)) b7) λvu vv vw er g7 vx p=>?_
   obtain⟨rfl,o0⟩:=p
   refine Gl bt (AG 1 (AA O (AF (AG 1 (AB O (AD Iq O (AF (AG 1 (AB O (AS A9 er O (mt (mt (mt mh))) O BW O (AF (GI O O O (DY (cs:=[vI 20,vI 10]) Ef O O O O O O O er λvy vz jl g8=>GI O O O ?_)))))))))))))
   have jm:=jl.bxos (r:=AM.int) (l:=([20,10]:List Int)) .head ⟨_,_,O,⟨O,(iq (n:=20) O)⟩,⟨_,_,O,⟨O,(iq (n:=10) O)⟩,O⟩⟩ (by simp [maxLen])
   obtain⟨v0,dt,g9,nu⟩:=jm.pubs .head
   refine BX O O O IS O dt (BA (St.all _) ((bn.mono' (eo.trans (ep.trans (eq.trans (g7.trans (g8.trans g9)))))).mono (λb hb=>dt.1 b hb) (λ_ _=>rfl)) (nu.mono (λb hb=>dt.1 b hb) (λ_ _=>rfl)) dr) λv3 v4 v5 jn nv v6 p=>?_
   obtain⟨rfl,o1⟩:=p
   refine Gl b1 (AG 1 (AJ O (AF (AG 1 (AA O (AF (AG 1 (Ay O (AF (AG 1 (Ay O (AF (AG 1 (Ay O (AF (AG 1 (AJ O (AF (AG 1 (AA O (AF (AG 1 (Ay O (AF (AG 1 (Ay O (AF (AG 1 (Ay O ?_)))))))))))))))))))))))))))))
   exact AF (AG 1 (Ay O (AF (AG 1 (AJ O (AF (AG 1 (AY O (AF (AZ (kp [10,9,7,6,3,2,1] O) (WF.nil (λaa ww hf hw=>⟨_,_,hf.sub (kp [10,9,7,6,3,2,1] O),hw,jn,(ep.trans (eq.trans (g7.trans (g8.trans (g9.trans nv))))),trivial⟩))))))))))))
  have am:=Fy b1 am
  have nw:=Option.some.inj am
  subst nw
  rcases XY (decide (i.1.Hour=6)) with cz|cz
  ·have C:=F5 cz C
   have nx:=Option.some.inj C
   subst nx
   refine D3 (AG 1 (AD Dm O (AF (AG 1 (AS A9 A O (mt (mt (mt mh))) O Gu O (AF (AG 1 ?_)))))))
   have es:=J.trans (K.trans (M.trans (ac.trans (Z.trans (Q.trans af)))))
   refine BE O O (ap.mono' es) Ev b6 O λv7 ny=>AF (AG 1 (Ao A9 A.1 O ny BW O λv8 nz=>AF (DY (cs:=[vI 80,vI 40]) Ef O O O O O O O A λv9 wa jo et=>?_)))
   have jp:=jo.bxos (r:=AM.int) (l:=([80,40]:List Int)) .head ⟨_,_,O,⟨O,(iq (n:=80) O)⟩,⟨_,_,O,⟨O,(iq (n:=40) O)⟩,O⟩⟩ (by simp [maxLen])
   obtain⟨wb,du,eu,n0⟩:=jp.pubs .head
   refine BX O O O IS O du (BA (St.all _) ((nz.mono' (et.trans eu)).mono (λb hb=>du.1 b hb) (λ_ _=>rfl)) (n0.mono (λb hb=>du.1 b hb) (λ_ _=>rfl)) b7) λwc wd we ev ha wf p=>?_
   obtain⟨rfl,o2⟩:=p
   refine Gl bt (AG 1 (AA O (AF (AG 1 (AB O (AD Iq O (AF (AG 1 (AB O (AS A9 ev O (mt (mt (mt mh))) O BW O (AF (GI O O O (DY (cs:=[vI 20,vI 10]) Ef O O O O O O O ev λwg wh jq hc=>GI O O O ?_)))))))))))))
   have jr:=jq.bxos (r:=AM.int) (l:=([20,10]:List Int)) .head ⟨_,_,O,⟨O,(iq (n:=20) O)⟩,⟨_,_,O,⟨O,(iq (n:=10) O)⟩,O⟩⟩ (by simp [maxLen])
   obtain⟨wi,dv,hd,n1⟩:=jr.pubs .head
   refine BX O O O IS O dv (BA (St.all _) ((bn.mono' (es.trans (et.trans (eu.trans (ha.trans (hc.trans hd)))))).mono (λb hb=>dv.1 b hb) (λ_ _=>rfl)) (n1.mono (λb hb=>dv.1 b hb) (λ_ _=>rfl)) dr) λwj wk wl ew n2 wm p=>?_
   obtain⟨rfl,o3⟩:=p
   refine Gl b1 (AG 1 (AJ O (AF (AG 1 (AA O (AF (AG 1 (AB O (AD HK O (AF (AG 1 (AB O (AS A9 ew O (mt (mt (mt mh))) O Ag O (AF (AG 1 (AB O (BL O (AF (Gl cz (AG 1 (AJ O (AF (AG 1 (AA O (AF (AG 1 (Ay O (AF (AG 1 ?_)))))))))))))))))))))))))))))
   exact Ay O (AF (AG 1 (Ay O (AF (AG 1 (Ay O (AF (AG 1 (AJ O (AF (AG 1 (AY O (AF (AZ (kp [10,9,7,6,3,2,1] O) (WF.nil (λaa ww hf hw=>⟨_,_,hf.sub (kp [10,9,7,6,3,2,1] O),hw,ew,(et.trans (eu.trans (ha.trans (hc.trans (hd.trans n2))))),trivial⟩))))))))))))))))
  have C:=Fy cz C
  obtain⟨wn,js,C⟩:=bd C
  obtain⟨wo,jt,C⟩:=bd C
  have n3:=Option.some.inj C
  subst n3
  refine D3 (AG 1 (AD Dm O (AF (AG 1 (AS A9 A O (mt (mt (mt mh))) O Gu O (AF (AG 1 ?_)))))))
  have ey:=J.trans (K.trans (M.trans (ac.trans (Z.trans (Q.trans af)))))
  refine BE O O (ap.mono' ey) Ev b6 O λwp n4=>AF (AG 1 (Ao A9 A.1 O n4 BW O λwq n5=>AF (DY (cs:=[vI 80,vI 40]) Ef O O O O O O O A λwr ws ju ez=>?_)))
  have jv:=ju.bxos (r:=AM.int) (l:=([80,40]:List Int)) .head ⟨_,_,O,⟨O,(iq (n:=80) O)⟩,⟨_,_,O,⟨O,(iq (n:=40) O)⟩,O⟩⟩ (by simp [maxLen])
  obtain⟨wt,dw,e0,n6⟩:=jv.pubs .head
  refine BX O O O IS O dw (BA (St.all _) ((n5.mono' (ez.trans e0)).mono (λb hb=>dw.1 b hb) (λ_ _=>rfl)) (n6.mono (λb hb=>dw.1 b hb) (λ_ _=>rfl)) b7) λwu wv wx e1 he wy p=>?_
  obtain⟨rfl,o4⟩:=p
  refine Gl bt (AG 1 (AA O (AF (AG 1 (AB O (AD Iq O (AF (AG 1 (AB O (AS A9 e1 O (mt (mt (mt mh))) O BW O (AF (GI O O O (DY (cs:=[vI 20,vI 10]) Ef O O O O O O O e1 λwz w0 jw hg=>GI O O O ?_)))))))))))))
  have jx:=jw.bxos (r:=AM.int) (l:=([20,10]:List Int)) .head ⟨_,_,O,⟨O,(iq (n:=20) O)⟩,⟨_,_,O,⟨O,(iq (n:=10) O)⟩,O⟩⟩ (by simp [maxLen])
  obtain⟨w1,dx,hh,n7⟩:=jx.pubs .head
  have an:=ey.trans (ez.trans (e0.trans (he.trans (hg.trans hh))))
  refine BX O O O IS O dx (BA (St.all _) ((bn.mono' an).mono (λb hb=>dx.1 b hb) (λ_ _=>rfl)) (n7.mono (λb hb=>dx.1 b hb) (λ_ _=>rfl)) dr) λw2 w3 w4 Y bu w5 p=>?_
  obtain⟨rfl,o5⟩:=p
  refine Gl b1 (AG 1 (AJ O (AF (AG 1 (AA O (AF (AG 1 (AB O (AD HK O (AF (AG 1 (AB O (AS A9 Y O (mt (mt (mt mh))) O Ag O (AF (AG 1 (AB O (BL O (AF (Gl cz (AG 1 (AJ O (AF (AG 1 (AA O (AF (AG 1 (AB O (Db (vs:=[vI i.1.Hour,az,a0,a1,a2,a3,a4]) A9 Y O (mt (mt (mt mh))) O O HI O O (AF ?_)))))))))))))))))))))))))))))
  refine GI O O O (BX O O O gB O Y (PW (St.all _) (CO.mk (x:=i.1) ei ((ap.mono' (an.trans bu)).mono (λb hb=>Y.1 b hb) (λ_ _=>rfl)) ((d4.mono' (an.trans bu)).mono (λb hb=>Y.1 b hb) (λ_ _=>rfl)) ((d5.mono' (an.trans bu)).mono (λb hb=>Y.1 b hb) (λ_ _=>rfl)) ((d6.mono' (an.trans bu)).mono (λb hb=>Y.1 b hb) (λ_ _=>rfl)) ((d7.mono' (an.trans bu)).mono (λb hb=>Y.1 b hb) (λ_ _=>rfl)) ((bn.mono' (an.trans bu)).mono (λb hb=>Y.1 b hb) (λ_ _=>rfl))) js) λw6 w7 w8 o6 n8 n9 p=>?_)
  have jy:=p
  have e2:=Y.join n9 jy ⟨OS.flat (λ{_ _ _ _ _ _} k=>k),trivial⟩
  simp only[List.cons_append,List.nil_append] at e2
  refine GI O O O (DY (cs:=[vI 80,vI 40]) Ef O O O O O O O e2 λw9 xa jz oa=>GI O O O ?_)
  have j0:=jz.bxos (r:=AM.int) (l:=([80,40]:List Int)) .head ⟨_,_,O,⟨O,(iq (n:=80) O)⟩,⟨_,_,O,⟨O,(iq (n:=40) O)⟩,O⟩⟩ (by simp [maxLen])
  obtain⟨xb,dy,ob,oc⟩:=j0.pubs .head
  refine BX O O O IS O dy (BA (St.all _) (dy.oslAll mh) (oc.mono (λb hb=>dy.1 b hb) (λ_ _=>rfl)) jt) λxc xd xe j1 od xf p=>?_
  obtain⟨rfl,o7⟩:=p
  refine AG 1 (AJ O (AF (AG 1 (AY O (AF (AZ (kp [10,9,7,6,3,2,1] O) ?_))))))
  have j2:=j1.sel [1,1,1,1,1,1,1,1] 1 O
  exact WF.nil (λaa ww hf hw=>⟨_,_,hf.sub (kp [10,9,7,6,3,2,1] O),hw,j2,(ez.trans (e0.trans (he.trans (hg.trans (hh.trans (bu.trans (n8.trans (oa.trans (ob.trans od))))))))),trivial⟩)
 rintro aa ww ⟨hi,hj,hf,hw,j,bv,_⟩
 refine Ac ?_ hf hw
 clear hf hw ww aa
 refine AC ?_
 obtain⟨xg,b8,E⟩:=bd E
 obtain⟨oe,ca,E⟩:=bd E
 obtain⟨xh,D,E⟩:=bd E
 obtain⟨xi,u,E⟩:=bd E
 obtain⟨dz,m,E⟩:=bd E
 refine Ge (λa w=>IV B hi hj (176,[]) a w [(11,.bool dz),(10,.bool b0),(9,.bool a5),(3,vP bx 0),(2,vP ee 0),(1,vP b9 0)] (Bx cq 36 [vI y.1.Hour,cr,ct,cu,cv,cw,cx]::OS BH 50 cp y.2.1::OS AM.int 3 ej y.2.2::Bx bx 36 [vI i.1.Hour,az,a0,a1,a2,a3,a4]::OS BH 50 eg i.2.1::OS AM.int 3 eh i.2.2::Bx ee 36 [vI ad.Hour,bg,bh,bi,bj,bk,bl]::Bx b9 31 [.string y1.Name,a7,vI y1.Cells,a8,a9,ba,bb,bc,be,bf,vI y1.Err]::L) λ_ _=>True) ?_ ?_
 ·rcases XY (decide (oe.Way=(-3))) with ao|ao
  ·have D:=F5 ao D
   have j3:=Option.some.inj D
   subst j3
   have j4:=Option.some.inj u
   subst j4
   have j5:=Option.some.inj m
   subst j5
   refine D3 (AG 1 (AA O (AF (AG 1 (A8 j (mt mh) O O F9 b8 O λo8 fk=>AF (AG 1 (Fe O fk G1 O λo9 fl=>AF (AG 1 ?_))))))))
   have j6:=j.epAt (mt mh) ca Dk fl
   refine Af A9 (λ_ x=>x) O j6 Ag O λpa=>AF (AG 1 (BL O (AF (Gl ao (AG 1 (AA O (AF (AG 1 (Ay O (AF (AG 1 (Ay O (AF (AG 1 (Ay O (AF (AG 1 (Ay O (AF (AG 1 (Ay O (AF (AG 1 (Ay O (AF (AG 1 (AJ O (AF ?_))))))))))))))))))))))))))))
   refine AG 1 (AA O (AF (AG 1 (Ay O (AF (AG 1 (Ay O (AF (AG 1 (Ay O (AF (AG 1 (Ay O (AF (AG 1 (Ay O (AF (AG 1 (Ay O (AF (AG 1 (AJ O (AF (AG 1 (AA O (AF (AG 1 (Ay O (AF ?_)))))))))))))))))))))))))))))
   exact AG 1 (Ay O (AF (AG 1 (Ay O (AF (AG 1 (Ay O (AF (AG 1 (Ay O (AF (AG 1 (Ay O (AF (AG 1 (AJ O (AF (AG 1 (AY O (AF (AZ (kp [11,10,9,3,2,1] O) (WF.nil (λaa ww hf hw=>⟨_,_,hf.sub (kp [11,10,9,3,2,1] O),hw,j,(CA.refl hi hj),trivial⟩)))))))))))))))))))))))
  have D:=Fy ao D
  obtain⟨pb,cb,D⟩:=bd D
  obtain⟨pc,cc,D⟩:=bd D
  obtain⟨j7,cd,D⟩:=bd D
  have j8:=Option.some.inj D
  subst j8
  rcases XY j7 with ar|ar
  ·have u:=F5 ar u
   have j9:=Option.some.inj u
   subst j9
   have ka:=Option.some.inj m
   subst ka
   refine D3 (AG 1 (AA O (AF (AG 1 (A8 j (mt mh) O O F9 b8 O λpd fm=>AF (AG 1 (Fe O fm G1 O λpe fn=>AF (AG 1 ?_))))))))
   have kb:=j.epAt (mt mh) ca Dk fn
   refine Af A9 (λ_ x=>x) O kb Ag O λpf=>AF (AG 1 (BL O (AF (Gl ao (AG 1 (AA O (AF (AG 1 (AB O (AA O (AF (AG 1 (AB O (A8 j (mt mh) O O F9 cb O λpg fo=>AF (AG 1 (AB O (Fe O fo Ha O λph fp=>AF (AG 1 (AB O ?_)))))))))))))))))))
   have kc:=j.epAt (mt mh) cc Ak.f_Part fp
   refine Ao A9 (λ_ x=>x) O kc BW O λpi kd=>AF (GI O O O (DY (cs:=[vI 0,vI 50]) Ef O O O O O O O j λpj pk fq e3=>GI O O O ?_))
   have fr:=fq.bxos (r:=AM.int) (l:=([0,50]:List Int)) .head ⟨_,_,O,⟨O,(iq (n:=0) O)⟩,⟨_,_,O,⟨O,(iq (n:=50) O)⟩,O⟩⟩ (by simp [maxLen])
   obtain⟨pl,ce,e4,ke⟩:=fr.pubs .head
   refine BX O O O IS O ce (BA (St.all _) ((kd.mono' (e3.trans e4)).mono (λb hb=>ce.1 b hb) (λ_ _=>rfl)) (ke.mono (λb hb=>ce.1 b hb) (λ_ _=>rfl)) cd) λpm pn po fs kf pp p=>?_
   obtain⟨rfl,og⟩:=p
   refine Gl ar (AG 1 (AJ O (AF (AG 1 (AA O (AF (AG 1 (Ay O (AF (AG 1 (Ay O (AF (AG 1 (Ay O (AF (AG 1 (Ay O (AF (AG 1 (Ay O (AF (AG 1 (Ay O (AF (AG 1 (AJ O (AF (AG 1 (AA O ?_)))))))))))))))))))))))))))))
   exact AF (AG 1 (Ay O (AF (AG 1 (Ay O (AF (AG 1 (Ay O (AF (AG 1 (Ay O (AF (AG 1 (Ay O (AF (AG 1 (Ay O (AF (AG 1 (AJ O (AF (AG 1 (AY O (AF (AZ (kp [11,10,9,3,2,1] O) (WF.nil (λaa ww hf hw=>⟨_,_,hf.sub (kp [11,10,9,3,2,1] O),hw,fs,(e3.trans (e4.trans kf)),trivial⟩)))))))))))))))))))))))))))
  have u:=Fy ar u
  obtain⟨pq,d8,u⟩:=bd u
  obtain⟨pr,d9,u⟩:=bd u
  obtain⟨kg,ea,u⟩:=bd u
  have kh:=Option.some.inj u
  subst kh
  rcases XY kg with bw|bw
  ·have m:=F5 bw m
   have ki:=Option.some.inj m
   subst ki
   refine D3 (AG 1 (AA O (AF (AG 1 (A8 j (mt mh) O O F9 b8 O λps ft=>AF (AG 1 (Fe O ft G1 O λpt fu=>AF (AG 1 ?_))))))))
   have kj:=j.epAt (mt mh) ca Dk fu
   refine Af A9 (λ_ x=>x) O kj Ag O λpu=>AF (AG 1 (BL O (AF (Gl ao (AG 1 (AA O (AF (AG 1 (AB O (AA O (AF (AG 1 (AB O (A8 j (mt mh) O O F9 cb O λpv fv=>AF (AG 1 (AB O (Fe O fv Ha O λpw fw=>AF (AG 1 (AB O ?_)))))))))))))))))))
   have kk:=j.epAt (mt mh) cc Ak.f_Part fw
   refine Ao A9 (λ_ x=>x) O kk BW O λpx kl=>AF (GI O O O (DY (cs:=[vI 0,vI 50]) Ef O O O O O O O j λpy pz fx e6=>GI O O O ?_))
   have fy:=fx.bxos (r:=AM.int) (l:=([0,50]:List Int)) .head ⟨_,_,O,⟨O,(iq (n:=0) O)⟩,⟨_,_,O,⟨O,(iq (n:=50) O)⟩,O⟩⟩ (by simp [maxLen])
   obtain⟨p0,cf,e7,km⟩:=fy.pubs .head
   refine BX O O O IS O cf (BA (St.all _) ((kl.mono' (e6.trans e7)).mono (λb hb=>cf.1 b hb) (λ_ _=>rfl)) (km.mono (λb hb=>cf.1 b hb) (λ_ _=>rfl)) cd) λp1 p2 p3 cg kn p4 p=>?_
   obtain⟨rfl,oh⟩:=p
   refine Gl ar (AG 1 (AJ O (AF (AG 1 (AA O (AF (AG 1 (AB O (AA O (AF (AG 1 (AB O (A8 cg (mt mh) O O F9 d8 O λp5 fz=>AF (AG 1 (AB O (Fe O fz Ha O λp6 f0=>AF (AG 1 (AB O ?_))))))))))))))))))
   have ko:=cg.epAt (mt mh) d9 Ak.f_Part f0
   refine Ao A9 (λ_ x=>x) O ko BW O λp7 kq=>AF (GI O O O (DY (cs:=[vI 15,vI 0]) Ef O O O O O O O cg λp8 p9 f1 e8=>GI O O O ?_))
   have f2:=f1.bxos (r:=AM.int) (l:=([15,0]:List Int)) .head ⟨_,_,O,⟨O,(iq (n:=15) O)⟩,⟨_,_,O,⟨O,(iq (n:=0) O)⟩,O⟩⟩ (by simp [maxLen])
   obtain⟨qa,ch,e9,kr⟩:=f2.pubs .head
   refine BX O O O IS O ch (BA (St.all _) ((kq.mono' (e8.trans e9)).mono (λb hb=>ch.1 b hb) (λ_ _=>rfl)) (kr.mono (λb hb=>ch.1 b hb) (λ_ _=>rfl)) ea) λqb qc qd f3 ks qe p=>?_
   obtain⟨rfl,oi⟩:=p
   refine Gl bw (AG 1 (AJ O (AF (AG 1 (AA O (AF (AG 1 (Ay O (AF (AG 1 (Ay O (AF (AG 1 (Ay O (AF (AG 1 (Ay O (AF (AG 1 (Ay O (AF (AG 1 (Ay O (AF (AG 1 (AJ O (AF (AG 1 (AY O ?_)))))))))))))))))))))))))))))
   exact AF (AZ (kp [11,10,9,3,2,1] O) (WF.nil (λaa ww hf hw=>⟨_,_,hf.sub (kp [11,10,9,3,2,1] O),hw,f3,(e6.trans (e7.trans (kn.trans (e8.trans (e9.trans ks))))),trivial⟩)))
  have m:=Fy bw m
  obtain⟨qf,f4,m⟩:=bd m
  obtain⟨qg,f5,m⟩:=bd m
  have kt:=Option.some.inj m
  subst kt
  refine D3 (AG 1 (AA O (AF (AG 1 (A8 j (mt mh) O O F9 b8 O λqh f6=>AF (AG 1 (Fe O f6 G1 O λqi f7=>AF (AG 1 ?_))))))))
  have ku:=j.epAt (mt mh) ca Dk f7
  refine Af A9 (λ_ x=>x) O ku Ag O λqj=>AF (AG 1 (BL O (AF (Gl ao (AG 1 (AA O (AF (AG 1 (AB O (AA O (AF (AG 1 (AB O (A8 j (mt mh) O O F9 cb O λqk f8=>AF (AG 1 (AB O (Fe O f8 Ha O λql f9=>AF (AG 1 (AB O ?_)))))))))))))))))))
  have kv:=j.epAt (mt mh) cc Ak.f_Part f9
  refine Ao A9 (λ_ x=>x) O kv BW O λqm kw=>AF (GI O O O (DY (cs:=[vI 0,vI 50]) Ef O O O O O O O j λqn qo ga d0=>GI O O O ?_))
  have gb:=ga.bxos (r:=AM.int) (l:=([0,50]:List Int)) .head ⟨_,_,O,⟨O,(iq (n:=0) O)⟩,⟨_,_,O,⟨O,(iq (n:=50) O)⟩,O⟩⟩ (by simp [maxLen])
  obtain⟨qp,ci,d1,kx⟩:=gb.pubs .head
  refine BX O O O IS O ci (BA (St.all _) ((kw.mono' (d0.trans d1)).mono (λb hb=>ci.1 b hb) (λ_ _=>rfl)) (kx.mono (λb hb=>ci.1 b hb) (λ_ _=>rfl)) cd) λqq qr qs cj fa qt p=>?_
  obtain⟨rfl,oj⟩:=p
  refine Gl ar (AG 1 (AJ O (AF (AG 1 (AA O (AF (AG 1 (AB O (AA O (AF (AG 1 (AB O (A8 cj (mt mh) O O F9 d8 O λqu gc=>AF (AG 1 (AB O (Fe O gc Ha O λqv gd=>AF (AG 1 (AB O ?_))))))))))))))))))
  have ky:=cj.epAt (mt mh) d9 Ak.f_Part gd
  refine Ao A9 (λ_ x=>x) O ky BW O λqw kz=>AF (GI O O O (DY (cs:=[vI 15,vI 0]) Ef O O O O O O O cj λqx qy ge d2=>GI O O O ?_))
  have gf:=ge.bxos (r:=AM.int) (l:=([15,0]:List Int)) .head ⟨_,_,O,⟨O,(iq (n:=15) O)⟩,⟨_,_,O,⟨O,(iq (n:=0) O)⟩,O⟩⟩ (by simp [maxLen])
  obtain⟨q0,ck,d3,k0⟩:=gf.pubs .head
  refine BX O O O IS O ck (BA (St.all _) ((kz.mono' (d2.trans d3)).mono (λb hb=>ck.1 b hb) (λ_ _=>rfl)) (k0.mono (λb hb=>ck.1 b hb) (λ_ _=>rfl)) ea) λq1 q2 q3 cl fb q4 p=>?_
  obtain⟨rfl,ok⟩:=p
  refine Gl bw (AG 1 (AJ O (AF (AG 1 (AA O (AF (AG 1 (AB O (AD Dm O (AF (AG 1 (AB O (AS A9 cl O mh O Gu O (AF (AG 1 (AB O (BE O O (ek.mono' (Q.trans (af.trans (bv.trans (d0.trans (d1.trans (fa.trans (d2.trans (d3.trans fb))))))))) Ev f4 O λq5 k1=>AF (AG 1 (AB O (Ao A9 cl.1 O k1 BW O λq6 k2=>AF (GI O O O (DY (cs:=[vI 85,vI 0]) Ef O O O O O O O cl λq7 q8 gg fc=>GI O O O ?_))))))))))))))))))))))
  have gh:=gg.bxos (r:=AM.int) (l:=([85,0]:List Int)) .head ⟨_,_,O,⟨O,(iq (n:=85) O)⟩,⟨_,_,O,⟨O,(iq (n:=0) O)⟩,O⟩⟩ (by simp [maxLen])
  obtain⟨q9,cm,fd,k3⟩:=gh.pubs .head
  refine BX O O O IS O cm (BA (St.all _) ((k2.mono' (fc.trans fd)).mono (λb hb=>cm.1 b hb) (λ_ _=>rfl)) (k3.mono (λb hb=>cm.1 b hb) (λ_ _=>rfl)) f5) λra rd re gi k4 rf p=>?_
  obtain⟨rfl,ol⟩:=p
  exact AG 1 (AJ O (AF (AG 1 (AY O (AF (AZ (kp [11,10,9,3,2,1] O) (WF.nil (λaa ww hf hw=>⟨_,_,hf.sub (kp [11,10,9,3,2,1] O),hw,gi,(d0.trans (d1.trans (fa.trans (d2.trans (d3.trans (fb.trans (fc.trans (fd.trans k4)))))))),trivial⟩))))))))
 rintro aa ww ⟨rg,rh,hf,hw,c,au,_⟩
 refine Ac ?_ hf hw
 clear hf hw ww aa
 refine AC (Bq (.inl O) c (AA O (AA O (AV 2 156 (.bool (a5&&b0)) ?_ ?_))))
 ·cases ri:a5
  ·exact Aa O O
  exact AB O (AA O (AJ O (AU O)))
 refine AA O (AV 2 159 (.bool ((a5&&b0)&&dz)) ?_ ?_)
 ·cases rj:(a5&&b0)
  ·exact Aa O O
  exact AB O (AA O (AJ O (AU O)))
 refine AA O ?_
 obtain⟨fe,U,E⟩:=bd E
 refine AV 4 164 (.bool fe) ?_ ?_
 ·cases ff:((a5&&b0)&&dz)
  ·have U:=F5 ff U
   cases U
   exact Aa O O
  have U:=Fy ff U
  refine AB O (Db (vs:=[vI ad.Hour,bg,bh,bi,bj,bk,bl]) Bd c O (mt (mt (mt (mt (mt (mt mh)))))) O O HI O O (AB O (Db (vs:=[vI ad.Hour,bg,bh,bi,bj,bk,bl]) Bd c O (mt (mt (mt (mt (mt (mt mh)))))) O O HI O O (AB O ?_))))
  have s:=F.trans (I.trans (bm.trans (ay.trans (J.trans (K.trans (M.trans (ac.trans (Z.trans (Q.trans (af.trans (bv.trans au)))))))))))
  obtain⟨rk,gj,U⟩:=bd U
  refine A6 O O O W6 O (λh' o=>LA (St.all h') (CO.mk (x:=ad) ef ((co.mono' s).mono' (o.all c.1)) ((c9.mono' s).mono' (o.all c.1)) ((da.mono' s).mono' (o.all c.1)) ((db.mono' s).mono' (o.all c.1)) ((dc.mono' s).mono' (o.all c.1)) ((dd.mono' s).mono' (o.all c.1))) (CO.mk (x:=ad) ef ((co.mono' s).mono' (o.all c.1)) ((c9.mono' s).mono' (o.all c.1)) ((da.mono' s).mono' (o.all c.1)) ((db.mono' s).mono' (o.all c.1)) ((dc.mono' s).mono' (o.all c.1)) ((dd.mono' s).mono' (o.all c.1))) gj) (AJ O ?_)
  cases U
  exact AU O
 refine AA O ?_
 obtain⟨fg,V,E⟩:=bd E
 refine AV 5 170 (.bool fg) ?_ ?_
 ·cases fh:fe
  ·have V:=F5 fh V
   cases V
   exact Aa O O
  have V:=Fy fh V
  refine AB O (Db (vs:=[vI ad.Hour,bg,bh,bi,bj,bk,bl]) Bd c O (mt (mt (mt (mt (mt (mt mh)))))) O O HI O O (AB O (Db (vs:=[vI i.1.Hour,az,a0,a1,a2,a3,a4]) Bd c O (mt (mt (mt mh))) O O HI O O (AB O ?_))))
  have ah:=F.trans (I.trans (bm.trans (ay.trans (J.trans (K.trans (M.trans (ac.trans (Z.trans (Q.trans (af.trans (bv.trans au)))))))))))
  have ai:=J.trans (K.trans (M.trans (ac.trans (Z.trans (Q.trans (af.trans (bv.trans au)))))))
  obtain⟨rm,gk,V⟩:=bd V
  refine A6 O O O W6 O (λh' o=>LA (St.all h') (CO.mk (x:=ad) ef ((co.mono' ah).mono' (o.all c.1)) ((c9.mono' ah).mono' (o.all c.1)) ((da.mono' ah).mono' (o.all c.1)) ((db.mono' ah).mono' (o.all c.1)) ((dc.mono' ah).mono' (o.all c.1)) ((dd.mono' ah).mono' (o.all c.1))) (CO.mk (x:=i.1) ei ((ap.mono' ai).mono' (o.all c.1)) ((d4.mono' ai).mono' (o.all c.1)) ((d5.mono' ai).mono' (o.all c.1)) ((d6.mono' ai).mono' (o.all c.1)) ((d7.mono' ai).mono' (o.all c.1)) ((bn.mono' ai).mono' (o.all c.1))) gk) (AB O (BY O (AJ O ?_)))
  cases V
  exact AU O
 refine AA O ?_
 obtain⟨k5,W,E⟩:=bd E
 refine AV 4 175 (.bool k5) ?_ ?_
 ·cases fi:fg
  ·have W:=F5 fi W
   cases W
   exact Aa O O
  have W:=Fy fi W
  refine AB O (Db (vs:=[.string y1.Name,a7,vI y1.Cells,a8,a9,ba,bb,bc,be,bf,vI y1.Err]) Bd c O (mt (mt (mt (mt (mt (mt (mt mh))))))) O O G6 O O (AB O (Db (vs:=[vI i.1.Hour,az,a0,a1,a2,a3,a4]) Bd c O (mt (mt (mt mh))) O O HI O O (AB O ?_))))
  have X:=ak.trans (c8.trans (cn.trans (F.trans (I.trans (bm.trans (ay.trans (J.trans (K.trans (M.trans (ac.trans (Z.trans (Q.trans (af.trans (bv.trans au))))))))))))))
  have aj:=J.trans (K.trans (M.trans (ac.trans (Z.trans (Q.trans (af.trans (bv.trans au)))))))
  obtain⟨rn,gl,W⟩:=bd W
  refine A6 O O O W7 O (λh' o=>Kk (St.all h') (B1.mk (x:=y1) eb ((c0.mono' X).mono' (o.all c.1)) ec ((c1.mono' X).mono' (o.all c.1)) ((c2.mono' X).mono' (o.all c.1)) ((c3.mono' X).mono' (o.all c.1)) ((c4.mono' X).mono' (o.all c.1)) ((c5.mono' X).mono' (o.all c.1)) ((c6.mono' X).mono' (o.all c.1)) ((c7.mono' X).mono' (o.all c.1)) ed) (CO.mk (x:=i.1) ei ((ap.mono' aj).mono' (o.all c.1)) ((d4.mono' aj).mono' (o.all c.1)) ((d5.mono' aj).mono' (o.all c.1)) ((d6.mono' aj).mono' (o.all c.1)) ((d7.mono' aj).mono' (o.all c.1)) ((bn.mono' aj).mono' (o.all c.1))) gl) (AJ O ?_)
  cases W
  exact AU O
 refine AY O (BM (kp [0] O) λro gm k6=>Ad (λaa ww hf hw=>?_))
 have gn:=gm.sel [] 8 O
 cases E
 exact Dx hf hw O O (e5.trans (fj.trans (ak.trans (c8.trans (cn.trans (F.trans (I.trans (bm.trans (ay.trans (J.trans (K.trans (M.trans (ac.trans (Z.trans (Q.trans (af.trans (bv.trans (au.trans k6)))))))))))))))))) ⟨O,gn⟩
end Go.Proofs.YtblcgjadhemlbaaGreat
