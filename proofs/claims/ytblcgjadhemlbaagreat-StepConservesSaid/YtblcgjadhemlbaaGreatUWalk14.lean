import Derived.Test.YtblcgjadhemlbaaGreatUWalk13
namespace Go.Proofs.YtblcgjadhemlbaaGreat
open Go.RowKit
set_option linter.unusedVariables false
set_option linter.unusedSimpArgs false
set_option maxRecDepth 10000
set_option maxHeartbeats 2000000
variable {N:Nat}{S:Nat→Prop}{L:List HP}{h:Av}
theorem BF (hs:St S L h) {b:Value}{o:(List Int)}(d:Sl S h AM.int b o) {c:Value}{p:(List Int)}(k:Sl S h AM.int c p) {r:Bool}(E:Cf N o p=some r):
 CG Tryz.prog 18 #[b,c] S h (λv S' h'=>v= .bool r∧St S' (L) h'):=by
 refine BB (l:=[b,c]) 26 Tryz.func18 O Tryz.ntmps18 O λB=>?_
 rw[Cf] at E
 refine AI (AL O (kp [0,1] O) (AD (AI (AA O (Al O d BG O λY=>AA O (Al O k BG O λZ=>Bc O (AN (kp [10,0,1] O) (AX O E (λH E=>?_) (λH E=>?_)))))))))
 ·refine AI (AL O (kp [4] O) (Ac (λq s g i=>?_)))
  cases E
  exact Dm g i O O (B9.refl S h) ⟨O,hs⟩
 refine AT (AD (AI (AL O (kp [5,0,1] O) (Am (λa w=>IV B S h (26,[]) a w [] (L) λ_ _=>Gt N=some r) ?_ ?_))))
 ·refine A3 (λG=>λa w=>∃(t:Int),IV B S h (26,[]) a w [(0,b),(1,c),(5,vI t)] (L) λ_ _=>AG t∧Fh N o p (Gt N) G t=some r) N ?_ ?_ ?_
  ·intro q s g i
   exact⟨0,_,_,g.sub (kp [0,1,5] O),i,hs,(B9.refl S h),(iq (n:=0) O),E⟩
  ·rintro q s ⟨_,_,_,_,_,_,_,_,E⟩
   rw[Fh] at E;cases E
  rintro G q s ⟨t,S8,h9,g,i,j,m,r7,E⟩
  refine Ad ?_ g i
  clear g i s q
  rw[Fh] at E
  refine AD (AI (AA O (AA O (Al O (d.mono' m) BG O λI=>Aq O (AN (kp [14,0,1,5] O) (AX O E (λz E=>?_) (λz E=>?_)))))))
  ·refine AT (AD (A5 (AD (BY (.inr ⟨mo,by kernel_rfl⟩) (AA O (AA O ?_))))))
   obtain⟨J,u,E⟩:=bd E
   refine BD O O (d.mono' m) BG u O λK A=>Ah A6 j.1 O A Ag O λM=>AA O (AA O ?_)
   obtain⟨Q,x,E⟩:=bd E
   refine BD O O (k.mono' m) BG x O λU C=>Ah A6 j.1 O C Ag O λV=>Bc O (AN (kp [25,0,1,5] O) (AX O E (λD E=>?_) (λD E=>?_)))
   ·refine AI (AL O (kp [4] O) (Ac (λq s g i=>?_)))
    cases E
    exact Dm g i O O m ⟨O,j⟩
   refine AT (BK (BY (.inl O) (AA O (Af O (AL O (kp [5,0,1] O) (WF.nil (λq s g i=>?_)))))))
   exact⟨(BC (t+1)),_,_,g.sub (kp [0,1,5] O),i,j,m,(BI _),E⟩
  refine A9 O (λq s g i=>?_)
  exact⟨_,_,g.sub Ou,i,j,m,E⟩
 rintro q s ⟨W,X,g,i,y,F,E⟩
 refine Ad ?_ g i
 clear g i s q
 rw[Gt] at E
 refine AI (AL O (kp [4] O) (Ac (λq s g i=>?_)))
 cases E
 exact Dm g i O O F ⟨O,y⟩
theorem LI {g:Nat}{c1_:(List Int)}{c:Value}(hs:St S (Bx g 29 [c]::OS AM.int 3 c c1_::L) h) {b:Value}{d:(List Int)}(k:Sl S h AM.int b d) {r:(List Int)}(E:Hc N c1_ d=some r):
 CG Tryz.prog 35 #[b,vP g 0] S h (λv S' h'=>∃w_0_0:Value,v= .tuple #[]∧St S' (Bx g 29 [w_0_0]::OS AM.int 3 w_0_0 r::L) h'):=by
 refine BB (l:=[b,vP g 0]) 25 Tryz.func35 O Tryz.ntmps35 O λB=>?_
 rw[Hc] at E
 refine AI (AS A6 hs O mh O BP O (JO hs (mt mh) O BG O λb1=>AA O (Al O k BG O λb2=>P2 O O O (AA O (AN (kp [9,8,0,1] O) (A5 (A3 (λn0=>λa w=>∃(q:Int) (t:List Int),IV B S h (25,[]) a w [(8,vI (min (↑c1_.length:Int) (↑d.length:Int))),(0,b),(1,vP g 0),(9,vI q)] (Bx g 29 [c]::OS AM.int 3 c t::L) λ_ _=>AG q∧EV N d c1_ n0 q t=some r) N ?_ ?_ ?_)))))))
 ·intro u y m p
  exact⟨0,c1_,_,_,m.sub (kp [8,0,1,9] O),p,hs,(B9.refl S h),(iq (n:=0) O),E⟩
 ·rintro u y ⟨_,_,_,_,_,_,_,_,_,E⟩
  rw[EV] at E;cases E
 rintro n0 u y ⟨q,t,S9,ae,m,p,j,s,r7,E⟩
 refine Ad ?_ m p
 clear m p y u
 rw[EV] at E
 refine AI (Aq O (AN (kp [10,8,0,1,9] O) (AD (AX O E (λQ E=>?_) (λQ E=>?_)))))
 ·refine AT (AD (A5 (AI (AA O (AL O (kp [3,8,0,1,9] O) (LB 12 mo (by kernel_rfl) O j (AS Bb j O mh O BP O (AA O (AS Bb j O mh O BP O (AA O ?_))))))))))
  obtain⟨af,z,E⟩:=bd E
  refine A4 j (mt mh) O O BG z O λag A=>?_
  obtain⟨ah,C,E⟩:=bd E
  have U:=j.epAt (mt mh) C FM.id A
  refine Ah Bb (λ_ x=>x) O U Ag O λV=>AA O (AA O ?_)
  obtain⟨ai,D,E⟩:=bd E
  refine BD O O (k.mono' s) BG D O λaj W=>Ah Bb j.1 O W Ag O λX=>?_
  obtain⟨F,G,E⟩:=bd E
  refine CE O O O Qt O (λh' o=>IE (St.all h') V X G) λY=>?_
  have Z:=Y
  obtain⟨ak,H,E⟩:=bd E
  refine A4 j (mt mh) O O BG H O λal I=>Jp λam J ab=>?_
  obtain⟨ac,K,E⟩:=bd E
  refine En (r:=AM.int) (l:=t) (i:=q) (x:=ac) O O (⟨_,O,O,Z⟩:Rd _ _ AM.int _ F) I K Lq.id Ag (λ_=>rfl) J (.tail .head) λan M ad=>AZ (kp [8,0,1,9] O) (BK (BY (.inl O) (Af O (AA O (AN (kp [9,8,0,1] O) (WF.nil (λu y m p=>?_)))))))
  exact⟨(BC (q+1)),(upd t q F),_,_,m.sub (kp [8,0,1,9] O),p,M,(s.trans (ab.trans ad)),(BI _),E⟩
 refine Ko O (WF.nil (λu y m p=>?_))
 cases E
 exact J9 m O p J8 O s ⟨_,O,j⟩
theorem KZ (hs:St S L h) {i:Value}{b:Ak}(C:Rd S h CJ i b) {r:(List Int)}(E:GV N b=some r):
 CG Tryz.prog 12 #[i] S h (λv S' h'=>St S' (OS AM.int 3 v r::L) h'):=by
 refine BB (l:=[i]) 38 Tryz.func12 O Tryz.ntmps12 O λB=>?_
 rw[GV] at E
 refine WF.sl (B5 O C (λe=>by cases e) O hs λq1 S2 h3 ak e5 k6=>AH 1 (AY O (AF (AZ (kp [1] O) (WF.sl (AH 3 (Ai O k6 JB Ic O λq7 k8=>An A6 ak.1 O k8 BP O λv9 ba=>Al O ba BG O λbx=>AF ?_)))))))
 obtain⟨am,E⟩:=MR E
 refine I9 (r:=AM.int) (zx:=0) FJ O ⟨O,by unfold AG;omega⟩ O O am O O ak λbz b0 an ao=>Cs Vg O an λg b1 J ap=>?_
 obtain⟨K,m,rfl,b2⟩:=J.oslen (mt mh)
 refine Dh (vs:=[(.slice K (List.replicate ((↑b.In.length:Int):Int).toNat (0:Int)).length m)]) O O O O BP O J .head O λX M aq=>AZ (kp [3,1] O) (AI (OL O O O (AL O (kp [4,3,1] O) (AD (AI ?_)))))
 have ar:=k6.mono (ao.trans (ap.trans aq))
 refine Ai O ar JS D4 O λb3 bb=>An A6 M.1 O bb HN O λbc au=>Al O au FO O λb4=>AA O (AN (kp [17,16,15,4,3,1] O) (Am (λa w=>∃(D:Value) (F:List Int),IV B S2 X (38,[]) a w [(4,.func (.func 35) #[] #[vP g 0]),(3,vP g 0),(1,q1)] (OS AM.int 3 D F::Bx g 29 [D]::L) λ_ _=>Es N b F=some r) ?_ ?_))
 ·refine A3 (λn1=>λa w=>∃(o:Int) (G:Value) (s:List Int),IV B S2 X (38,[]) a w [(16,vI (↑b.Own.length:Int)),(15,bc),(4,.func (.func 35) #[] #[vP g 0]),(3,vP g 0),(1,q1),(17,vI o)] (OS AM.int 3 G s::Bx g 29 [G]::L) λ_ _=>AG o∧Er N b (Es N b) n1 o s=some r) N ?_ ?_ ?_
  ·intro j k c d
   have av:=M.sel [1,0] 0 O
   exact⟨0,(.slice K (List.replicate ((↑b.In.length:Int):Int).toNat (0:Int)).length m),(List.replicate ((↑b.In.length:Int):Int).toNat (0:Int)),_,_,c.sub (kp [16,15,4,3,1,17] O),d,av,(B9.refl S2 X),(iq (n:=0) O),E⟩
  ·rintro j k ⟨_,_,_,_,_,_,_,_,_,_,E⟩
   rw[Er] at E;cases E
  rintro n1 j k ⟨o,G,s,b5,b6,c,d,t,Y,b7,E⟩
  refine Ad ?_ c d
  clear c d k j
  rw[Er] at E
  refine AI (Aq O (AN (kp [18,16,15,4,3,1,17] O) (AD (AX O E (λbe E=>?_) (λbe E=>?_)))))
  ·refine AT (AD (A5 (AI ?_)))
   obtain⟨b8,aw,E⟩:=bd E
   refine BD O O (au.mono' Y) FO aw O λb9 bf=>An A6 t.1 O bf BP O λca bg=>AL O (kp [6,16,15,4,3,1,17] O) (EQ (AH 2 (AA O (AA O (AF ?_)))))
   have ax:=t.sel [1,0] 0 O
   obtain⟨bh,ay,E⟩:=bd E
   refine Cn O O O Zg O (LI (c1_:=s) ax bg ay) λcb cc cd bi p=>?_
   obtain⟨bj,rfl,az⟩:=p
   refine AZ (kp [16,15,4,3,1,17] O) (BK (BY (.inl O) (Af O (AA O (AN (kp [17,16,15,4,3,1] O) (WF.nil (λj k c d=>?_)))))))
   have a0:=az.sel [1,0] 0 O
   exact⟨(BC (o+1)),bj,bh,_,_,c.sub (kp [16,15,4,3,1,17] O),d,a0,(Y.trans bi),(BI _),E⟩
  refine A9 O (λj k c d=>?_)
  exact⟨G,s,_,_,c.sub (kp [4,3,1] O),d,t,Y,E⟩
 rintro j k ⟨D,F,Z,ab,c,d,Q,a1,E⟩
 refine Ad ?_ c d
 clear c d k j
 rw[Es] at E
 refine AD (AI (Ai O (ar.mono a1) IZ Jl O λce bk=>An A6 Q.1 O bk LG O λbl a2=>Al O a2 JX O λcf=>AA O (AN (kp [28,27,26,4,3] O) (Am (λa w=>∃(ac:Value) (ad:List Int),IV B Z ab (38,[]) a w [(3,vP g 0)] (OS AM.int 3 ac ad::Bx g 29 [ac]::L) λ_ _=>G2 N ad=some r) ?_ ?_))))
 ·refine A3 (λn3=>λa w=>∃(u:Int) (H:Value) (x:List Int),IV B Z ab (38,[]) a w [(27,vI (↑b.Queue.length:Int)),(26,bl),(4,.func (.func 35) #[] #[vP g 0]),(3,vP g 0),(28,vI u)] (OS AM.int 3 H x::Bx g 29 [H]::L) λ_ _=>AG u∧Fa N b (G2 N) n3 u x=some r) N ?_ ?_ ?_
  ·intro j k c d
   exact⟨0,D,F,_,_,c.sub (kp [27,26,4,3,28] O),d,Q,(B9.refl Z ab),(iq (n:=0) O),E⟩
  ·rintro j k ⟨_,_,_,_,_,_,_,_,_,_,E⟩
   rw[Fa] at E;cases E
  rintro n3 j k ⟨u,H,x,cg,ch,c,d,y,ae,ci,E⟩
  refine Ad ?_ c d
  clear c d k j
  rw[Fa] at E
  refine AI (Aq O (AN (kp [29,27,26,4,3,28] O) (AD (AX O E (λbm E=>?_) (λbm E=>?_)))))
  ·refine AT (AD (A5 (WF.sl (AH 2 ?_))))
   obtain⟨I,a3,E⟩:=bd E
   refine BD O O (a2.mono' ae) JX a3 O λcj bn=>B4 A6 y.1 O bn Ku (λe=>by cases e) O λck bo=>AF (Cs QT O y λcl cm a4 a5=>?_)
   obtain⟨U,rfl,bp,bq,V⟩:=Ap.ex (bo.mono a5)
   refine HJ (vs:=[vI I.At,vI I.To,U]) (cs':=[vI I.At,vI I.To,U]) O O O (AE O (AE O (AE V.one EA))) Ku O a4 .head O O λbr z W=>AZ (kp [8,27,26,4,3,28] O) (EQ (AH 3 (AA O (AC Kz O (AS A6 z O mh O BP O (AF ?_))))))
   have af:=z.sel [2,1,0] 0 O
   obtain⟨a6,ag,E⟩:=bd E
   refine Cn O O O Zg O (LI (c1_:=x) af (V.mono' W) ag) λbs bt bu a7 p=>?_
   obtain⟨a8,rfl,ah⟩:=p
   refine AZ (kp [27,26,4,3,28] O) (BK (BY (.inl O) (Af O (AA O (AN (kp [28,27,26,4,3] O) (WF.nil (λj k c d=>?_)))))))
   have ai:=ah.sel [1,0] 1 O
   exact⟨(BC (u+1)),a8,a6,_,_,c.sub (kp [27,26,4,3,28] O),d,ai,(ae.trans (a5.trans (W.trans a7))),(BI _),E⟩
  refine A9 O (λj k c d=>?_)
  exact⟨H,x,_,_,c.sub (kp [3] O),d,y,ae,E⟩
 rintro j k ⟨ac,ad,bv,bw,c,d,A,a9,E⟩
 refine Ad ?_ c d
 clear c d k j
 rw[G2] at E
 refine AI (AS A6 A O (mt mh) O BP O (AL O (kp [2] O) (Ac (λj k c d=>?_))))
 have aj:=A.drop (.tail .head)
 cases E
 exact Dm c d O O (e5.trans (ao.trans (ap.trans (aq.trans (a1.trans a9))))) aj
theorem Il (hs:St S L h) {c:Value}{k:(List (List Int))}(i:Sl S h (AM.sl AM.int) c k) {d:Value}{t:(List (List Int))}(m:Sl S h (AM.sl AM.int) d t) {j:Value}{u:(((List Int)×(List Int))→Option Bool)}(z:Rd S h (AM.fnr Tryz.prog (λS h vs (x:((List Int)×(List Int)))=>∃w0 w1:Value,vs=[w0,w1]∧Sl S h AM.int w0 x.1∧Sl S h AM.int w1 x.2) (λS h v (y:Bool)=>v= .bool y)) j u) {r:Bool}(E:Ez N k t u=some r):
 CG Tryz.prog 40 #[c,d,j] S h (λv S' h'=>v= .bool r∧St S' (L) h'):=by
 refine BB (l:=[c,d,j]) 32 Tryz.func40 O Tryz.ntmps40 O λB=>?_
 rw[Ez] at E
 obtain⟨M,Q,rfl,U,V⟩:=z.fnr
 refine AI (AL O (kp [0,1,2] O) (AD (AI (AA O (Al O i FO O λb5=>AA O (Al O m FO O λb6=>Bc O (AN (kp [14,0,1,2] O) (AX O E (λc7 E=>?_) (λc7 E=>?_)))))))))
 ·refine AI (AL O (kp [6] O) (Ac (λC D p q=>?_)))
  cases E
  exact Dm p q O O (B9.refl S h) ⟨O,hs⟩
 refine AT (AD (AI (AA O (Al O i FO O λb8=>AA O (AN (kp [17,16,15,1,2] O) (Am (λa w=>IV B S h (32,[]) a w [] (L) λ_ _=>DA N=some r) ?_ ?_))))))
 ·refine A3 (λn1=>λa w=>∃(A:Int),IV B S h (32,[]) a w [(16,vI (↑k.length:Int)),(15,c),(1,d),(2,(.func (.func M) #[] Q)),(17,vI A)] (L) λ_ _=>AG A∧CS N k t u (DA N) n1 A=some r) N ?_ ?_ ?_
  ·intro C D p q
   exact⟨0,_,_,p.sub (kp [16,15,1,2,17] O),q,hs,(B9.refl S h),(iq (n:=0) O),E⟩
  ·rintro C D ⟨_,_,_,_,_,_,_,_,E⟩
   rw[CS] at E;cases E
  rintro n1 C D ⟨A,ag,ah,p,q,g,s,ai,E⟩
  refine Ad ?_ p q
  clear p q D C
  rw[CS] at E
  refine AI (Aq O (AN (kp [18,16,15,1,2,17] O) (AD (AX O E (λW E=>?_) (λW E=>?_)))))
  ·refine AT (AD (A5 (AI (AA O ?_))))
   obtain⟨X,G,E⟩:=bd E
   refine BD O O (i.mono' s) FO G O λaj Y=>An A6 g.1 O Y BP O λak Z=>AY O (AL O (kp [8,7,16,15,1,2,17] O) (AI (AA O (AA O ?_))))
   obtain⟨ab,H,E⟩:=bd E
   refine BD O O (m.mono' s) FO H O λal ac=>An A6 g.1 O ac BP O λam ad=>AL O (kp [9,8,16,15,1,2,17] O) (AD (Bl (.inl O) g (AA O (AA O (AA O ?_)))))
   obtain⟨an,I,E⟩:=bd E
   refine Az O O O U O (λh' o=>V _ h' (λb hb=>Nat.lt_of_lt_of_le (g.1 b (s.sub b hb)) o.siz) (λb hb=>(o.same b (g.1 b (s.sub b hb))).trans (s.same b hb)) [] (St.all h') (X,ab) _ _ ⟨_,_,O,(Z.mono' (o.all g.1)),(ad.mono' (o.all g.1))⟩ I) (BV O (BJ (kp [30,16,15,1,2,17] O) λao F J=>AX O E (λae E=>?_) (λae E=>?_)))
   ·refine AI (AL O (kp [6] O) (Ac (λC D p q=>?_)))
    cases E
    exact Dm p q O O (s.trans J) ⟨O,F⟩
   refine AT (BK (BY (.inl O) (Af O (AA O (AN (kp [17,16,15,1,2] O) (WF.nil (λC D p q=>?_)))))))
   exact⟨(BC (A+1)),_,_,p.sub (kp [16,15,1,2,17] O),q,F,(s.trans J),(BI _),E⟩
  refine A9 O (λC D p q=>?_)
  exact⟨_,_,p.sub Ou,q,g,s,E⟩
 rintro C D ⟨ap,aq,p,q,K,af,E⟩
 refine Ad ?_ p q
 clear p q D C
 rw[DA] at E
 refine AI (AL O (kp [6] O) (Ac (λC D p q=>?_)))
 cases E
 exact Dm p q O O af ⟨O,K⟩
theorem Ee (hs:St S L h) {b:Value}{g:(List Int)}(d:Sl S h AM.int b g) {c:Value}{o:(List Int)}(i:Sl S h AM.int c o) {r:Bool}(E:C0 N g o=some r):
 CG Tryz.prog 41 #[b,c] S h (λv S' h'=>v= .bool r∧St S' (L) h'):=by
 refine BB (l:=[b,c]) 26 Tryz.func41 O Tryz.ntmps41 O λB=>?_
 rw[C0] at E
 refine AI (AL O (kp [0,1] O) (AD (AI (AA O (Al O d BG O λY=>AA O (Al O i BG O λZ=>Bc O (AN (kp [10,0,1] O) (AX O E (λH E=>?_) (λH E=>?_)))))))))
 ·refine AI (AL O (kp [4] O) (Ac (λq s j k=>?_)))
  cases E
  exact Dm j k O O (B9.refl S h) ⟨O,hs⟩
 refine AT (AD (AI (AA O (Al O d BG O λb4=>AA O (AN (kp [13,12,0,1] O) (Am (λa w=>IV B S h (26,[]) a w [] (L) λ_ _=>Ff N=some r) ?_ ?_))))))
 ·refine A3 (λG=>λa w=>∃(t:Int),IV B S h (26,[]) a w [(12,vI (↑g.length:Int)),(0,b),(1,c),(13,vI t)] (L) λ_ _=>AG t∧EO N g o (Ff N) G t=some r) N ?_ ?_ ?_
  ·intro q s j k
   exact⟨0,_,_,j.sub (kp [12,0,1,13] O),k,hs,(B9.refl S h),(iq (n:=0) O),E⟩
  ·rintro q s ⟨_,_,_,_,_,_,_,_,E⟩
   rw[EO] at E;cases E
  rintro G q s ⟨t,S9,I,j,k,m,p,r8,E⟩
  refine Ad ?_ j k
  clear j k s q
  rw[EO] at E
  refine AI (Aq O (AN (kp [14,12,0,1,13] O) (AD (AX O E (λz E=>?_) (λz E=>?_)))))
  ·refine AT (AD (A5 (AI (AA O (AL O (kp [5,12,0,1,13] O) (AD (BY (.inr ⟨mo,by kernel_rfl⟩) (AA O (AA O ?_)))))))))
   obtain⟨J,u,E⟩:=bd E
   refine BD O O (d.mono' p) BG u O λK A=>Ah A6 m.1 O A Ag O λM=>AA O (AA O ?_)
   obtain⟨Q,x,E⟩:=bd E
   refine BD O O (i.mono' p) BG x O λU C=>Ah A6 m.1 O C Ag O λV=>Bc O (AN (kp [24,12,0,1,13] O) (AX O E (λD E=>?_) (λD E=>?_)))
   ·refine AI (AL O (kp [4] O) (Ac (λq s j k=>?_)))
    cases E
    exact Dm j k O O p ⟨O,m⟩
   refine AT (BK (BY (.inl O) (Af O (AA O (AN (kp [13,12,0,1] O) (WF.nil (λq s j k=>?_)))))))
   exact⟨(BC (t+1)),_,_,j.sub (kp [12,0,1,13] O),k,m,p,(BI _),E⟩
  refine A9 O (λq s j k=>?_)
  exact⟨_,_,j.sub Ou,k,m,p,E⟩
 rintro q s ⟨W,X,j,k,y,F,E⟩
 refine Ad ?_ j k
 clear j k s q
 rw[Ff] at E
 refine AI (AL O (kp [4] O) (Ac (λq s j k=>?_)))
 cases E
 exact Dm j k O O F ⟨O,y⟩
theorem DR (hs:St S L h) {c:Value}{k:(List Ao)}(g:Sl S h Ap c k) {d:Value}{z:(List Ao)}(m:Sl S h Ap d z) {i:Value}{A:((Ao×Ao)→Option Bool)}(C:Rd S h (AM.fnr Tryz.prog (λS h vs (x:(Ao×Ao))=>∃w0 w1:Value,vs=[w0,w1]∧Rd S h Ap w0 x.1∧Rd S h Ap w1 x.2) (λS h v (y:Bool)=>v= .bool y)) i A) {r:Bool}(E:BW N k z A=some r):
 CG Tryz.prog 42 #[c,d,i] S h (λv S' h'=>v= .bool r∧St S' (L) h'):=by
 refine BB (l:=[c,d,i]) 32 Tryz.func42 O Tryz.ntmps42 O λB=>?_
 rw[BW] at E
 obtain⟨an,ao,rfl,ap,aq⟩:=C.fnr
 refine AI (AL O (kp [0,1,2] O) (AD (AI (AA O (Al O g JX O λb5=>AA O (Al O m JX O λb6=>Bc O (AN (kp [14,0,1,2] O) (AX O E (λc7 E=>?_) (λc7 E=>?_)))))))))
 ·refine AI (AL O (kp [6] O) (Ac (λK M p s=>?_)))
  cases E
  exact Dm p s O O (B9.refl S h) ⟨O,hs⟩
 refine AT (AD (AI (AA O (Al O g JX O λb8=>AA O (AN (kp [17,16,15,1,2] O) (Am (λa w=>IV B S h (32,[]) a w [] (L) λ_ _=>A7 N=some r) ?_ ?_))))))
 ·refine A3 (λn1=>λa w=>∃(D:Int),IV B S h (32,[]) a w [(16,vI (↑k.length:Int)),(15,c),(1,d),(2,(.func (.func an) #[] ao)),(17,vI D)] (L) λ_ _=>AG D∧Ax N k z A (A7 N) n1 D=some r) N ?_ ?_ ?_
  ·intro K M p s
   exact⟨0,_,_,p.sub (kp [16,15,1,2,17] O),s,hs,(B9.refl S h),(iq (n:=0) O),E⟩
  ·rintro K M ⟨_,_,_,_,_,_,_,_,E⟩
   rw[Ax] at E;cases E
  rintro n1 K M ⟨D,a4,a5,p,s,F,G,a6,E⟩
  refine Ad ?_ p s
  clear p s M K
  rw[Ax] at E
  refine AI (Aq O (AN (kp [18,16,15,1,2,17] O) (AD (AX O E (λar E=>?_) (λar E=>?_)))))
  ·refine AT (AD (A5 (WF.sl (AH 3 (AA O ?_)))))
   obtain⟨t,ab,E⟩:=bd E
   refine BD O O (g.mono' G) JX ab O λa7 au=>B4 A6 F.1 O au Ku (λe=>by cases e) O λa8 av=>AF (Cs QT O F λa9 ba ac Q=>AH 1 (AY O (AF ?_)))
   obtain⟨Y,rfl,aw,ax,ad⟩:=Ap.ex (av.mono Q)
   refine HJ (vs:=[vI t.At,vI t.To,Y]) (cs':=[vI t.At,vI t.To,Y]) O O O (AE O (AE O (AE ad.one EA))) Ku O ac .head O O λbb V U=>AZ (kp [7,8,16,15,1,2,17] O) (WF.sl (AH 4 (AA O (AA O ?_))))
   have W:=G.trans (Q.trans U)
   obtain⟨u,ae,E⟩:=bd E
   refine BD O O (m.mono' W) JX ae O λbc ay=>B4 A6 V.1 O ay Ku (λe=>by cases e) O λbe az=>AF (Cs QT O V λbf bg af H=>?_)
   obtain⟨Z,rfl,a0,a1,ag⟩:=Ap.ex (az.mono H)
   refine HJ (vs:=[vI u.At,vI u.To,Z]) (cs':=[vI u.At,vI u.To,Z]) O O O (AE O (AE O (AE ag.one EA))) Ku O af .head O O λbh j I=>AZ (kp [9,8,16,15,1,2,17] O) (AD (Bl (.inl O) j (AA O (DT (vs:=[vI t.At,vI t.To,Y]) Bb j O (mt mh) O O Ku O O (DT (vs:=[vI u.At,vI u.To,Z]) Bb j O mh O O Ku O O ?_)))))
   have J:=W.trans (H.trans I)
   obtain⟨bi,ah,E⟩:=bd E
   refine Az O O O ap O (λh' o=>aq _ h' (λb hb=>Nat.lt_of_lt_of_le (j.1 b (J.sub b hb)) o.siz) (λb hb=>(o.same b (j.1 b (J.sub b hb))).trans (J.same b hb)) [] (St.all h') (t,u) _ _ ⟨_,_,O,(Ap.mk (x:=t) aw ax ((ad.mono' (U.trans (H.trans I))).mono' (o.all j.1))),(Ap.mk (x:=u) a0 a1 ((ag.mono' I).mono' (o.all j.1)))⟩ ah) (BV O (BJ (kp [30,16,15,1,2,17] O) λbj X ai=>AX O E (λa2 E=>?_) (λa2 E=>?_)))
   ·refine AI (AL O (kp [6] O) (Ac (λK M p s=>?_)))
    have aj:=X.sel [] 2 O
    cases E
    exact Dm p s O O (G.trans (Q.trans (U.trans (H.trans (I.trans ai))))) ⟨O,aj⟩
   refine AT (BK (BY (.inl O) (Af O (AA O (AN (kp [17,16,15,1,2] O) (WF.nil (λK M p s=>?_)))))))
   have ak:=X.sel [] 2 O
   exact⟨(BC (D+1)),_,_,p.sub (kp [16,15,1,2,17] O),s,ak,(G.trans (Q.trans (U.trans (H.trans (I.trans ai))))),(BI _),E⟩
  refine A9 O (λK M p s=>?_)
  exact⟨_,_,p.sub Ou,s,F,G,E⟩
 rintro K M ⟨bk,bl,p,s,am,a3,E⟩
 refine Ad ?_ p s
 clear p s M K
 rw[A7] at E
 refine AI (AL O (kp [6] O) (Ac (λK M p s=>?_)))
 cases E
 exact Dm p s O O a3 ⟨O,am⟩
theorem Gz (hs:St S L h) {b:Value}{g:(List Au)}(d:Sl S h A8 b g) {c:Value}{o:(List Au)}(i:Sl S h A8 c o) {r:Bool}(E:C9 N g o=some r):
 CG Tryz.prog 44 #[b,c] S h (λv S' h'=>v= .bool r∧St S' (L) h'):=by
 refine BB (l:=[b,c]) 26 Tryz.func44 O Tryz.ntmps44 O λB=>?_
 rw[C9] at E
 refine AI (AL O (kp [0,1] O) (AD (AI (AA O (Al O d KF O λb1=>AA O (Al O i KF O λb2=>Bc O (AN (kp [10,0,1] O) (AX O E (λJ E=>?_) (λJ E=>?_)))))))))
 ·refine AI (AL O (kp [4] O) (Ac (λq s j k=>?_)))
  cases E
  exact Dm j k O O (B9.refl S h) ⟨O,hs⟩
 refine AT (AD (AI (AA O (Al O d KF O λb4=>AA O (AN (kp [13,12,0,1] O) (Am (λa w=>IV B S h (26,[]) a w [] (L) λ_ _=>CF N=some r) ?_ ?_))))))
 ·refine A3 (λI=>λa w=>∃(t:Int),IV B S h (26,[]) a w [(12,vI (↑g.length:Int)),(0,b),(1,c),(13,vI t)] (L) λ_ _=>AG t∧Bj N g o (CF N) I t=some r) N ?_ ?_ ?_
  ·intro q s j k
   exact⟨0,_,_,j.sub (kp [12,0,1,13] O),k,hs,(B9.refl S h),(iq (n:=0) O),E⟩
  ·rintro q s ⟨_,_,_,_,_,_,_,_,E⟩
   rw[Bj] at E;cases E
  rintro I q s ⟨t,S9,K,j,k,m,p,r8,E⟩
  refine Ad ?_ j k
  clear j k s q
  rw[Bj] at E
  refine AI (Aq O (AN (kp [14,12,0,1,13] O) (AD (AX O E (λz E=>?_) (λz E=>?_)))))
  ·refine AT (AD (A5 (AI (AA O (AL O (kp [5,12,0,1,13] O) (AD (BY (.inr ⟨mo,by kernel_rfl⟩) (AA O (AA O ?_)))))))))
   obtain⟨M,u,E⟩:=bd E
   refine BD O O (d.mono' p) KF u O λQ A=>B4 A6 m.1 O A Gi (λe=>by cases e) O λU C=>AA O (AA O ?_)
   obtain⟨V,x,E⟩:=bd E
   refine BD O O (i.mono' p) KF x O λW D=>B4 A6 m.1 O D Gi (λe=>by cases e) O λX F=>?_
   obtain⟨rfl,⟨Y,Z⟩⟩:=A8.ex C
   obtain⟨rfl,⟨ab,ac⟩⟩:=A8.ex F
   refine bQ O O eU O O O O (AN (kp [24,12,0,1,13] O) (AX O E (λG E=>?_) (λG E=>?_)))
   ·refine AI (AL O (kp [4] O) (Ac (λq s j k=>?_)))
    cases E
    exact Dm j k O O p ⟨O,m⟩
   refine AT (BK (BY (.inl O) (Af O (AA O (AN (kp [13,12,0,1] O) (WF.nil (λq s j k=>?_)))))))
   exact⟨(BC (t+1)),_,_,j.sub (kp [12,0,1,13] O),k,m,p,(BI _),E⟩
  refine A9 O (λq s j k=>?_)
  exact⟨_,_,j.sub Ou,k,m,p,E⟩
 rintro q s ⟨ad,ae,j,k,y,H,E⟩
 refine Ad ?_ j k
 clear j k s q
 rw[CF] at E
 refine AI (AL O (kp [4] O) (Ac (λq s j k=>?_)))
 cases E
 exact Dm j k O O H ⟨O,y⟩
theorem NW (hs:St S L h) {g:Value}{c:Ao}(j:Rd S h Ap g c) {i:Value}{d:Ao}(k:Rd S h Ap i d) {r:Bool}(E:I0 N c d=some r):
 CG Tryz.prog 43 #[g,i] S h (λv S' h'=>v= .bool r∧St S' (L) h'):=by
 refine BB (l:=[g,i]) 24 Tryz.func43 O Tryz.ntmps43 O λB=>?_
 rw[I0] at E
 refine WF.sl (B5 O j (λe=>by cases e) O hs λq1 S2 h3 w J K=>B5 O (k.mono J) (λe=>by cases e) O w λq8 S9 M a p m=>AH 1 (AY O (AF (AZ (kp [3,2] O) (AD (Bl (.inl O) a ?_))))))
 have n:=K.mono p
 refine Ai O n P8 Nt O λQ x=>Ah Bb a.1 O x Ag O λU=>Ai O m P8 Nt O λV y=>Ah Bb a.1 O y Ag O λW=>BH O (AA O (AV 6 16 (.bool ((decide (c.At=d.At))&&(decide (c.To=d.To)))) ?_ ?_))
 ·cases X:(decide (c.At=d.At))
  ·exact Aa O O
  exact AB O (Ai O n Ao.f_To K0 O λY z=>AB O (Ah Bb a.1 O z Ag O λZ=>AB O (Ai O m Ao.f_To K0 O λab A=>AB O (Ah Bb a.1 O A Ag O λac=>AB O (BH O (AJ O (AU O)))))))
 refine AA O ?_
 obtain⟨C,b,E⟩:=bd E
 refine AV 6 23 (.bool C) ?_ ?_
 ·cases s:((decide (c.At=d.At))&&(decide (c.To=d.To)))
  ·have b:=GB s b
   cases b
   exact Aa O O
  have b:=GA s b
  refine AB O (Ai O n Ao.f_Part Kz O λad D=>AB O (An Bb a.1 O D BP O λae F=>AB O (Ai O m Ao.f_Part Kz O λaf G=>AB O (An Bb a.1 O G BP O λag H=>AB O ?_))))
  obtain⟨ah,t,b⟩:=bd b
  refine Az O O O TG O (λh' o=>Ee (St.all h') (F.mono' (o.all a.1)) (H.mono' (o.all a.1)) t) (AJ O ?_)
  cases b
  exact AU O
 refine AY O (BJ (kp [4] O) λai u I=>Ac (λaa ww hf hw=>?_))
 cases E
 exact Dm hf hw O O (J.trans (p.trans I)) ⟨O,u⟩
theorem M9 (hs:St S L h) {k:Value}{t:Ak}(w:Rd S h CJ k t) {m:Value}{u:Ak}(z:Rd S h CJ m u) {r:Bool}(E:K2 N t u=some r):
 CG Tryz.prog 20 #[k,m] S h (λv S' h'=>v= .bool r∧St S' (L) h'):=by
 refine BB (l:=[k,m]) 52 Tryz.func20 O Tryz.ntmps20 O λB=>?_
 rw[K2] at E
 refine WF.sl (B5 O w (λe=>by cases e) O hs λq1 S2 h3 ai e5 k6=>B5 O (z.mono e5) (λe=>by cases e) O ai λq8 S9 D a F n=>AH 1 (AY O (AF (AZ (kp [3,2] O) (AD (Bl (.inl O) a ?_))))))
 have s:=k6.mono F
 refine Ai O s Ak.f_Hour Id O λbg aj=>Ah Bb a.1 O aj Ag O λbh=>Ai O n Ak.f_Hour Id O λbi ak=>Ah Bb a.1 O ak Ag O λbj=>BH O (AA O ?_)
 obtain⟨G,b,E⟩:=bd E
 refine AV 6 16 (.bool G) ?_ ?_
 ·cases H:(decide (t.Hour=u.Hour))
  ·have b:=GB H b
   cases b
   exact Aa O O
  have b:=GA H b
  refine AB O (Ai O s JS D4 O λbk al=>AB O (An Bb a.1 O al HN O λbl am=>AB O (Ai O n JS D4 O λbm an=>AB O (An Bb a.1 O an HN O λbn ao=>AB O ?_))))
  have I:Rd S9 D (AM.fnr Tryz.prog (λS h vs (x:((List Int)×(List Int)))=>∃A C:Value,vs=[A,C]∧Sl S h AM.int A x.1∧Sl S h AM.int C x.2) (λS h v (y:Bool)=>v= .bool y)) (.func (.func 41) #[] #[]) (λx=>C0 N x.1 x.2):=J6 41 #[] TG λS' h' s' e' L hs x y vs h1 h2=>by obtain⟨A,C,rfl,a0,a1⟩:=h1;exact(Ee hs a0 a1 h2).mono λ_ _ _ _ p=>p
  obtain⟨bo,J,b⟩:=bd b
  refine Az O O O gN O (λh' o=>Il (St.all h') (am.mono' (o.all a.1)) (ao.mono' (o.all a.1)) (I.mono (o.all a.1)) J) (AJ O ?_)
  cases b
  exact AU O
 refine AA O ?_
 obtain⟨K,c,E⟩:=bd E
 refine AV 6 23 (.bool K) ?_ ?_
 ·cases M:G
  ·have c:=GB M c
   cases c
   exact Aa O O
  have c:=GA M c
  refine AB O (Ai O s JR Jm O λbp ap=>AB O (An Bb a.1 O ap BP O λbq aq=>AB O (Ai O n JR Jm O λbr ar=>AB O (An Bb a.1 O ar BP O λbs au=>AB O ?_))))
  obtain⟨bt,Q,c⟩:=bd c
  refine Az O O O TG O (λh' o=>Ee (St.all h') (aq.mono' (o.all a.1)) (au.mono' (o.all a.1)) Q) (AJ O ?_)
  cases c
  exact AU O
 refine AA O ?_
 obtain⟨U,d,E⟩:=bd E
 refine AV 6 30 (.bool U) ?_ ?_
 ·cases V:K
  ·have d:=GB V d
   cases d
   exact Aa O O
  have d:=GA V d
  refine AB O (Ai O s IZ Jl O λbu av=>AB O (An Bb a.1 O av LG O λbv aw=>AB O (Ai O n IZ Jl O λbw ax=>AB O (An Bb a.1 O ax LG O λbx ay=>AB O ?_))))
  have W:Rd S9 D (AM.fnr Tryz.prog (λS h vs (x:(Ao×Ao))=>∃A C:Value,vs=[A,C]∧Rd S h Ap A x.1∧Rd S h Ap C x.2) (λS h v (y:Bool)=>v= .bool y)) (.func (.func 43) #[] #[]) (λx=>I0 N x.1 x.2):=J6 43 #[] gK λS' h' s' e' L hs x y vs h1 h2=>by obtain⟨A,C,rfl,a0,a1⟩:=h1;exact(NW hs a0 a1 h2).mono λ_ _ _ _ p=>p
  obtain⟨bz,X,d⟩:=bd d
  refine Az O O O gL O (λh' o=>DR (St.all h') (aw.mono' (o.all a.1)) (ay.mono' (o.all a.1)) (W.mono (o.all a.1)) X) (AJ O ?_)
  cases d
  exact AU O
 refine AA O ?_
 obtain⟨Y,g,E⟩:=bd E
 refine AV 6 37 (.bool Y) ?_ ?_
 ·cases Z:U
  ·have g:=GB Z g
   cases g
   exact Aa O O
  have g:=GA Z g
  refine AB O (Ai O s JT Ht O λb0 az=>AB O (An Bb a.1 O az KX O λb1 a2=>AB O (Ai O n JT Ht O λb2 a3=>AB O (An Bb a.1 O a3 KX O λb3 a4=>AB O ?_))))
  obtain⟨b4,ab,g⟩:=bd g
  refine Az O O O gJ O (λh' o=>Gz (St.all h') (a2.mono' (o.all a.1)) (a4.mono' (o.all a.1)) ab) (AJ O ?_)
  cases g
  exact AU O
 refine AA O ?_
 obtain⟨ac,i,E⟩:=bd E
 refine AV 6 44 (.bool ac) ?_ ?_
 ·cases ad:Y
  ·have i:=GB ad i
   cases i
   exact Aa O O
  have i:=GA ad i
  refine AB O (Ai O s JB Ic O λb5 a5=>AB O (An Bb a.1 O a5 BP O λb6 a6=>AB O (Ai O n JB Ic O λb7 a7=>AB O (An Bb a.1 O a7 BP O λb8 a8=>AB O ?_))))
  obtain⟨b9,ae,i⟩:=bd i
  refine Az O O O TG O (λh' o=>Ee (St.all h') (a6.mono' (o.all a.1)) (a8.mono' (o.all a.1)) ae) (AJ O ?_)
  cases i
  exact AU O
 refine AA O ?_
 obtain⟨a9,j,E⟩:=bd E
 refine AV 6 51 (.bool a9) ?_ ?_
 ·cases af:ac
  ·have j:=GB af j
   cases j
   exact Aa O O
  have j:=GA af j
  refine AB O (Ai O s Ii HR O λca ba=>AB O (An Bb a.1 O ba BP O λcb bb=>AB O (Ai O n Ii HR O λcc bc=>AB O (An Bb a.1 O bc BP O λcd be=>AB O ?_))))
  obtain⟨ce,ag,j⟩:=bd j
  refine Az O O O TG O (λh' o=>Ee (St.all h') (bb.mono' (o.all a.1)) (be.mono' (o.all a.1)) ag) (AJ O ?_)
  cases j
  exact AU O
 refine AY O (BJ (kp [4] O) λcf ah bf=>Ac (λaa ww hf hw=>?_))
 cases E
 exact Dm hf hw O O (e5.trans (F.trans bf)) ⟨O,ah⟩
theorem L5 (hs:St S L h) {r:Bool}(E:GP N=some r):
 CG Tryz.prog 9 #[] S h (λv S' h'=>v= .bool r∧St S' (L) h'):=by
 refine BB (l:=[]) 176 Tryz.func9 O Tryz.ntmps9 O λB=>?_
 rw[GP] at E
 refine AI (AL O Ou (WF.sl ?_))
 obtain⟨y1,oo,E⟩:=bd E
 refine Cn O O O gY O (Lm hs oo) λv2 S3 h4 e5 p=>?_
 obtain⟨k7,op⟩:=p
 refine Cs Y7 O op λb9 xl k9 fj=>?_
 obtain⟨a7,a8,a9,ba,bb,bc,be,bf,rfl,eb,c0,ec,c1,c2,c3,c4,c5,c6,c7,ed⟩:=B3.ex (k7.mono fj)
 refine HJ (vs:=[.string y1.Name,a7,vI y1.Cells,a8,a9,ba,bb,bc,be,bf,vI y1.Err]) (cs':=[.string y1.Name,a7,vI y1.Cells,a8,a9,ba,bb,bc,be,bf,vI y1.Err]) O O O (AE O (AE c0.one (AE O (AE c1.one (AE c2.one (AE c3.one (AE c4.one (AE c5.one (AE c6.one (AE c7.one (AE O EA))))))))))) G8 O k9 .head O O λxm gq ak=>AZ (kp [1] O) (WF.sl (AH 1 (DT (vs:=[.string y1.Name,a7,vI y1.Cells,a8,a9,ba,bb,bc,be,bf,vI y1.Err]) A6 gq O mh O O G8 O O (AF ?_))))
 obtain⟨ad,la,E⟩:=bd E
 refine Cn O O O iA O (PS gq (B3.mk (x:=y1) eb (c0.mono' ak) ec (c1.mono' ak) (c2.mono' ak) (c3.mono' ak) (c4.mono' ak) (c5.mono' ak) (c6.mono' ak) (c7.mono' ak) ed) (iq (n:=5) O) la) λxn xo xp c8 p=>?_
 obtain⟨oq,lb⟩:=p
 refine Cs OT O lb λee xq lc cn=>?_
 obtain⟨bg,bh,bi,bj,bk,bl,rfl,ef,co,c9,da,db,dc,dd⟩:=CJ.ex (oq.mono cn)
 refine HJ (vs:=[vI ad.Hour,bg,bh,bi,bj,bk,bl]) (cs':=[vI ad.Hour,bg,bh,bi,bj,bk,bl]) O O O (AE O (AE co.one (AE c9.one (AE da.one (AE db.one (AE dc.one (AE dd.one EA))))))) Gj O lc .head O O λxr g F=>AZ (kp [2,1] O) (AD (AD (Bl (.inl O) g (DT (vs:=[.string y1.Name,a7,vI y1.Cells,a8,a9,ba,bb,bc,be,bf,vI y1.Err]) Bb g O (mt mh) O O G8 O O ?_))))
 have av:=ak.trans (c8.trans (cn.trans F))
 obtain⟨os,ld,E⟩:=bd E
 refine Az O O O Zh O (λh' o=>Lw (St.all h') (B3.mk (x:=y1) eb ((c0.mono' av).mono' (o.all g.1)) ec ((c1.mono' av).mono' (o.all g.1)) ((c2.mono' av).mono' (o.all g.1)) ((c3.mono' av).mono' (o.all g.1)) ((c4.mono' av).mono' (o.all g.1)) ((c5.mono' av).mono' (o.all g.1)) ((c6.mono' av).mono' (o.all g.1)) ((c7.mono' av).mono' (o.all g.1)) ed) ld) (BV O (AA O ?_))
 obtain⟨hl,aw,E⟩:=bd E
 refine AV 5 23 (.bool hl) ?_ ?_
 ·cases le:(!os)
  ·have aw:=GB le aw
   refine AB O (DT (vs:=[.string y1.Name,a7,vI y1.Cells,a8,a9,ba,bb,bc,be,bf,vI y1.Err]) Bb g O (mt mh) O O G8 O O (AB O (DT (vs:=[vI ad.Hour,bg,bh,bi,bj,bk,bl]) Bb g O mh O O Gj O O (AB O ?_))))
   have ax:=ak.trans (c8.trans (cn.trans F))
   obtain⟨rq,hm,aw⟩:=bd aw
   refine Az O O O XW O (λh' o=>Ka (St.all h') (B3.mk (x:=y1) eb ((c0.mono' ax).mono' (o.all g.1)) ec ((c1.mono' ax).mono' (o.all g.1)) ((c2.mono' ax).mono' (o.all g.1)) ((c3.mono' ax).mono' (o.all g.1)) ((c4.mono' ax).mono' (o.all g.1)) ((c5.mono' ax).mono' (o.all g.1)) ((c6.mono' ax).mono' (o.all g.1)) ((c7.mono' ax).mono' (o.all g.1)) ed) (CJ.mk (x:=ad) ef ((co.mono' F).mono' (o.all g.1)) ((c9.mono' F).mono' (o.all g.1)) ((da.mono' F).mono' (o.all g.1)) ((db.mono' F).mono' (o.all g.1)) ((dc.mono' F).mono' (o.all g.1)) ((dd.mono' F).mono' (o.all g.1))) hm) (AB O (BV O (AJ O ?_)))
   cases aw
   exact AU O
  have aw:=GA le aw
  cases aw
  exact Aa O O
 refine AA O (AV 5 29 (.bool (hl||(decide ((↑ad.Own.length:Int)≠1)))) ?_ ?_)
 ·cases rr:hl
  ·exact AB O (AC D4 O (AB O (AS Bb g O mh O HN O (AB O (Al O (co.mono' F) FO O λrs=>AB O (Bc O (AJ O (AU O))))))))
  exact Aa O O
 refine BJ (kp [29,2,1] O) λrt b2 I=>AX O E (λlf E=>?_) (λlf E=>?_)
 ·refine AI (AL O (kp [0] O) (Ac (λaa ww hf hw=>?_)))
  have hn:=b2.sel [] 2 O
  cases E
  exact Dm hf hw O O (e5.trans (fj.trans (ak.trans (c8.trans (cn.trans (F.trans I)))))) ⟨O,hn⟩
 refine AT (WF.sl (AH 3 (DT (vs:=[.string y1.Name,a7,vI y1.Cells,a8,a9,ba,bb,bc,be,bf,vI y1.Err]) A6 b2 O (mt mh) O O G8 O O (DT (vs:=[vI ad.Hour,bg,bh,bi,bj,bk,bl]) A6 b2 O mh O O Gj O O (Hy (cs:=[vN,vN,vN,vN,vN]) ZJ O O O (AF ?_))))))
 have ab:=ak.trans (c8.trans (cn.trans (F.trans I)))
 obtain⟨i,ho,E⟩:=bd E
 refine Cn O O O XY O (K6 b2 (B3.mk (x:=y1) eb (c0.mono' ab) ec (c1.mono' ab) (c2.mono' ab) (c3.mono' ab) (c4.mono' ab) (c5.mono' ab) (c6.mono' ab) (c7.mono' ab) ed) (CJ.mk (x:=ad) ef (co.mono' (F.trans I)) (c9.mono' (F.trans I)) (da.mono' (F.trans I)) (db.mono' (F.trans I)) (dc.mono' (F.trans I)) (dd.mono' (F.trans I))) (Fg.mk (x:=(⟨[],[],[],[],[]⟩:Ct)) (.inl ⟨O,O⟩) (.inl ⟨O,O⟩) (.inl ⟨O,O⟩) (.inl ⟨O,O⟩) (.inl ⟨O,O⟩)) ho) λru rv rx bm p=>?_
 obtain⟨ry,eg,eh,rfl,lg,hp⟩:=p
 refine AH 4 (AA O (Bi O (Bi O (Bi O (AF (Cs OT O hp λbx rz hq ay=>?_))))))
 obtain⟨az,a0,a1,a2,a3,a4,rfl,ei,ap,d4,d5,d6,d7,bn⟩:=CJ.ex (lg.mono ay)
 refine HJ (vs:=[vI i.1.Hour,az,a0,a1,a2,a3,a4]) (cs':=[vI i.1.Hour,az,a0,a1,a2,a3,a4]) O O O (AE O (AE ap.one (AE d4.one (AE d5.one (AE d6.one (AE d7.one (AE bn.one EA))))))) Gj O hq .head O O λr0 de J=>AH 2 (AY O (AY O (AF (AZ (kp [5,4,3,2,1] O) (WF.sl (AH 3 (DT (vs:=[.string y1.Name,a7,vI y1.Cells,a8,a9,ba,bb,bc,be,bf,vI y1.Err]) A6 de O (mt (mt (mt (mt mh)))) O O G8 O O (DT (vs:=[vI ad.Hour,bg,bh,bi,bj,bk,bl]) A6 de O (mt (mt (mt mh))) O O Gj O O (Hy (cs:=[vI 0,vI 1,vI 60,vI (-1)]) dD O O O (AF (Dw (cs:=[vI 0,vI 1,vI 60,vI (-1)]) eW O O O O O O O de λlh r1 hr K=>AH 1 ?_)))))))))))
 have ht:=hr.bxos (r:=FX) (l:=([(⟨0,1,60,(-1)⟩:Fj)]:List Fj)) .head ⟨_,_,O,⟨O,⟨(iq (n:=0) O),(iq (n:=1) O),(iq (n:=60) O),(iq (n:=(-1)) O)⟩⟩,O⟩ (by simp [maxLen])
 obtain⟨r2,hu,M,li⟩:=ht.pubs .head
 refine Hy (cs:=[vN,vN,vN,(.slice (some ⟨lh,0,none⟩) 1 1),vN]) ZJ O O O (AF ?_)
 have ae:=ab.trans (bm.trans (ay.trans (J.trans (K.trans M))))
 have aq:=F.trans (I.trans (bm.trans (ay.trans (J.trans (K.trans M)))))
 obtain⟨y,hv,E⟩:=bd E
 refine Cn O O O XY O (K6 hu (B3.mk (x:=y1) eb (c0.mono' ae) ec (c1.mono' ae) (c2.mono' ae) (c3.mono' ae) (c4.mono' ae) (c5.mono' ae) (c6.mono' ae) (c7.mono' ae) ed) (CJ.mk (x:=ad) ef (co.mono' aq) (c9.mono' aq) (da.mono' aq) (db.mono' aq) (dc.mono' aq) (dd.mono' aq)) (Fg.mk (x:=(⟨[],[],[],([(⟨0,1,60,(-1)⟩:Fj)]:List Fj),[]⟩:Ct)) (.inl ⟨O,O⟩) (.inl ⟨O,O⟩) (.inl ⟨O,O⟩) li (.inl ⟨O,O⟩)) hv) λr3 gr r4 ac p=>?_
 obtain⟨r5,cp,ej,rfl,lj,hx⟩:=p
 refine AH 4 (AA O (Bi O (Bi O (Bi O (AF (Cs OT O hx λcq r6 hy Z=>?_))))))
 obtain⟨cr,ct,cu,cv,cw,cx,rfl,r7,ek,ll,lm,lo,lp,lq⟩:=CJ.ex (lj.mono Z)
 refine HJ (vs:=[vI y.1.Hour,cr,ct,cu,cv,cw,cx]) (cs':=[vI y.1.Hour,cr,ct,cu,cv,cw,cx]) O O O (AE O (AE ek.one (AE ll.one (AE lm.one (AE lo.one (AE lp.one (AE lq.one EA))))))) Gj O hy .head O O λgs d Q=>AH 2 (AY O (AY O (AF (AZ (kp [7,6,5,4,3,2,1] O) (AD (AI (AA O (JO d (mt (mt (mt (mt mh)))) O HO O λr8=>Bc O (AA O (AV 4 55 (.bool ((decide ((↑i.2.1.length:Int)≠2))||(decide ((↑y.2.1.length:Int)≠2)))) ?_ ?_))))))))))
 ·cases r9:(decide ((↑i.2.1.length:Int)≠2))
  ·exact AB O (AA O (AB O (JO d (mt mh) O HO O λsa=>AB O (Bc O (AJ O (AU O))))))
  exact Aa O O
 refine AA O (AV 5 61 (.bool (((decide ((↑i.2.1.length:Int)≠2))||(decide ((↑y.2.1.length:Int)≠2)))||(decide ((↑i.1.Own.length:Int)≠1)))) ?_ ?_)
 ·cases sc:((decide ((↑i.2.1.length:Int)≠2))||(decide ((↑y.2.1.length:Int)≠2)))
  ·exact AB O (AC D4 O (AB O (AS A6 d O (mt (mt (mt mh))) O HN O (AB O (Al O (ap.mono' (J.trans (K.trans (M.trans (ac.trans (Z.trans Q)))))) FO O λsd=>AB O (Bc O (AJ O (AU O))))))))
  exact Aa O O
 refine AA O (AV 5 67 (.bool ((((decide ((↑i.2.1.length:Int)≠2))||(decide ((↑y.2.1.length:Int)≠2)))||(decide ((↑i.1.Own.length:Int)≠1)))||(decide ((↑y.1.Own.length:Int)≠1)))) ?_ ?_)
 ·cases se:(((decide ((↑i.2.1.length:Int)≠2))||(decide ((↑y.2.1.length:Int)≠2)))||(decide ((↑i.1.Own.length:Int)≠1)))
  ·exact AB O (AC D4 O (AB O (AS A6 d O mh O HN O (AB O (Al O (ek.mono' Q) FO O λsf=>AB O (Bc O (AJ O (AU O))))))))
  exact Aa O O
 refine AN (kp [67,7,6,5,4,3,2,1] O) (AX O E (λlr E=>?_) (λlr E=>?_))
 ·refine AI (AL O (kp [0] O) (Ac (λaa ww hf hw=>?_)))
  have hz:=d.sel [] 8 O
  cases E
  exact Dm hf hw O O (e5.trans (fj.trans (ak.trans (c8.trans (cn.trans (F.trans (I.trans (bm.trans (ay.trans (J.trans (K.trans (M.trans (ac.trans (Z.trans Q)))))))))))))) ⟨O,hz⟩
 refine AT (AD ?_)
 obtain⟨sg,bo,E⟩:=bd E
 obtain⟨ls,bp,E⟩:=bd E
 obtain⟨sh,z,E⟩:=bd E
 obtain⟨si,G,E⟩:=bd E
 obtain⟨sj,t,E⟩:=bd E
 obtain⟨a5,H,E⟩:=bd E
 refine Gs (λa w=>IV B gr gs (176,[]) a w [(9,.bool a5),(7,cp),(6,vP cq 0),(3,vP bx 0),(2,vP ee 0),(1,vP b9 0)] (Bx cq 36 [vI y.1.Hour,cr,ct,cu,cv,cw,cx]::OS BT 50 cp y.2.1::OS AM.int 3 ej y.2.2::Bx bx 36 [vI i.1.Hour,az,a0,a1,a2,a3,a4]::OS BT 50 eg i.2.1::OS AM.int 3 eh i.2.2::Bx ee 36 [vI ad.Hour,bg,bh,bi,bj,bk,bl]::Bx b9 31 [.string y1.Name,a7,vI y1.Cells,a8,a9,ba,bb,bc,be,bf,vI y1.Err]::L) λ_ _=>True) ?_ ?_
 ·rcases Xu (decide (ls.Way=(-1))) with a6|a6
  ·have z:=GB a6 z
   have lt:=Option.some.inj z
   subst lt
   have lu:=Option.some.inj G
   subst lu
   have lv:=Option.some.inj t
   subst lv
   have lw:=Option.some.inj H
   subst lw
   refine EQ (AH 1 (AA O (AF (AH 1 (A4 d (mt (mt (mt (mt mh)))) O O HO bo O λsk h0=>AF (AH 1 (GN O h0 Ib O λsn h1=>AF (AH 1 ?_))))))))
   have lx:=d.epAt (mt (mt (mt (mt mh)))) bp FK h1
   refine Ah A6 (λ_ x=>x) O lx Ag O λso=>AF (AH 1 (BH O (AF (Gc a6 (AH 1 (AA O (AF (AH 1 (Aw O (AF (AH 1 (Aw O (AF (AH 1 (Aw O (AF (AH 1 (Aw O (AF (AH 1 (Aw O (AF (AH 1 (Aw O (AF (AH 1 (AJ O (AF ?_))))))))))))))))))))))))))))
   refine AH 1 (AA O (AF (AH 1 (Aw O (AF (AH 1 (Aw O (AF (AH 1 (Aw O (AF (AH 1 (Aw O (AF (AH 1 (Aw O (AF (AH 1 (AJ O (AF (AH 1 (AA O (AF (AH 1 (Aw O (AF (AH 1 (Aw O (AF ?_)))))))))))))))))))))))))))))
   refine AH 1 (Aw O (AF (AH 1 (Aw O (AF (AH 1 (Aw O (AF (AH 1 (Aw O (AF (AH 1 (AJ O (AF (AH 1 (AA O (AF (AH 1 (Aw O (AF (AH 1 (Aw O (AF (AH 1 (Aw O (AF (AH 1 (AJ O (AF ?_)))))))))))))))))))))))))))))
   exact AH 1 (AY O (AF (AZ (kp [9,7,6,3,2,1] O) (WF.nil (λaa ww hf hw=>⟨_,_,hf.sub (kp [9,7,6,3,2,1] O),hw,d,(B9.refl gr gs),trivial⟩)))))
  have z:=GA a6 z
  obtain⟨sp,b3,z⟩:=bd z
  obtain⟨sq,b4,z⟩:=bd z
  obtain⟨ly,b5,z⟩:=bd z
  have lz:=Option.some.inj z
  subst lz
  rcases Xu ly with bq|bq
  ·have G:=GB bq G
   have l0:=Option.some.inj G
   subst l0
   have l1:=Option.some.inj t
   subst l1
   have l2:=Option.some.inj H
   subst l2
   refine EQ (AH 1 (AA O (AF (AH 1 (A4 d (mt (mt (mt (mt mh)))) O O HO bo O λss h2=>AF (AH 1 (GN O h2 Ib O λsu h3=>AF (AH 1 ?_))))))))
   have l3:=d.epAt (mt (mt (mt (mt mh)))) bp FK h3
   refine Ah A6 (λ_ x=>x) O l3 Ag O λsv=>AF (AH 1 (BH O (AF (Gc a6 (AH 1 (AA O (AF (AH 1 (AB O (AA O (AF (AH 1 (AB O (A4 d (mt (mt (mt (mt mh)))) O O HO b3 O λsw h5=>AF (AH 1 (AB O (GN O h5 Iz O λsx h6=>AF (AH 1 (AB O ?_)))))))))))))))))))
   have l4:=d.epAt (mt (mt (mt (mt mh)))) b4 Ae.f_Part h6
   refine An A6 (λ_ x=>x) O l4 BP O λsy l5=>AF (F9 O O O (Dw (cs:=[vI 10,vI 5]) FJ O O O O O O O d λsz s0 h7 gt=>F9 O O O ?_))
   have h8:=h7.bxos (r:=AM.int) (l:=([10,5]:List Int)) .head ⟨_,_,O,⟨O,(iq (n:=10) O)⟩,⟨_,_,O,⟨O,(iq (n:=5) O)⟩,O⟩⟩ (by simp [maxLen])
   obtain⟨s1,df,gu,l6⟩:=h8.pubs .head
   refine BZ O O O Iw O df (BF (St.all _) ((l5.mono' (gt.trans gu)).mono (λb hb=>df.1 b hb) (λ_ _=>rfl)) (l6.mono (λb hb=>df.1 b hb) (λ_ _=>rfl)) b5) λs2 s3 s4 h9 l7 s5 p=>?_
   obtain⟨rfl,ot⟩:=p
   refine Gc bq (AH 1 (AJ O (AF (AH 1 (AA O (AF (AH 1 (Aw O (AF (AH 1 (Aw O (AF (AH 1 (Aw O (AF (AH 1 (Aw O (AF (AH 1 (Aw O (AF (AH 1 (AJ O (AF (AH 1 (AA O (AF (AH 1 (Aw O ?_)))))))))))))))))))))))))))))
   refine AF (AH 1 (Aw O (AF (AH 1 (Aw O (AF (AH 1 (Aw O (AF (AH 1 (Aw O (AF (AH 1 (Aw O (AF (AH 1 (AJ O (AF (AH 1 (AA O (AF (AH 1 (Aw O (AF (AH 1 (Aw O (AF (AH 1 (Aw O ?_)))))))))))))))))))))))))))))
   exact AF (AH 1 (AJ O (AF (AH 1 (AY O (AF (AZ (kp [9,7,6,3,2,1] O) (WF.nil (λaa ww hf hw=>⟨_,_,hf.sub (kp [9,7,6,3,2,1] O),hw,h9,(gt.trans (gu.trans l7)),trivial⟩)))))))))
  have G:=GA bq G
  obtain⟨s6,dg,G⟩:=bd G
  obtain⟨l8,dh,G⟩:=bd G
  have l9:=Option.some.inj G
  subst l9
  rcases Xu (decide (l8.Way=(-2))) with bz|bz
  ·have t:=GB bz t
   have ma:=Option.some.inj t
   subst ma
   have mb:=Option.some.inj H
   subst mb
   refine EQ (AH 1 (AA O (AF (AH 1 (A4 d (mt (mt (mt (mt mh)))) O O HO bo O λs7 ia=>AF (AH 1 (GN O ia Ib O λs8 ib=>AF (AH 1 ?_))))))))
   have mc:=d.epAt (mt (mt (mt (mt mh)))) bp FK ib
   refine Ah A6 (λ_ x=>x) O mc Ag O λs9=>AF (AH 1 (BH O (AF (Gc a6 (AH 1 (AA O (AF (AH 1 (AB O (AA O (AF (AH 1 (AB O (A4 d (mt (mt (mt (mt mh)))) O O HO b3 O λta ic=>AF (AH 1 (AB O (GN O ic Iz O λtb id=>AF (AH 1 (AB O ?_)))))))))))))))))))
   have md:=d.epAt (mt (mt (mt (mt mh)))) b4 Ae.f_Part id
   refine An A6 (λ_ x=>x) O md BP O λtc me=>AF (F9 O O O (Dw (cs:=[vI 10,vI 5]) FJ O O O O O O O d λtd te ie gv=>F9 O O O ?_))
   have ig:=ie.bxos (r:=AM.int) (l:=([10,5]:List Int)) .head ⟨_,_,O,⟨O,(iq (n:=10) O)⟩,⟨_,_,O,⟨O,(iq (n:=5) O)⟩,O⟩⟩ (by simp [maxLen])
   obtain⟨tf,di,gw,mf⟩:=ig.pubs .head
   refine BZ O O O Iw O di (BF (St.all _) ((me.mono' (gv.trans gw)).mono (λb hb=>di.1 b hb) (λ_ _=>rfl)) (mf.mono (λb hb=>di.1 b hb) (λ_ _=>rfl)) b5) λtg th ti dj mg tj p=>?_
   obtain⟨rfl,ou⟩:=p
   refine Gc bq (AH 1 (AJ O (AF (AH 1 (AA O (AF (AH 1 (AB O (AA O (AF (AH 1 (AB O (A4 dj (mt (mt (mt (mt mh)))) O O HO dg O λtk ih=>AF (AH 1 (AB O (GN O ih Ib O λtl ii=>AF (AH 1 (AB O ?_))))))))))))))))))
   have mi:=dj.epAt (mt (mt (mt (mt mh)))) dh FK ii
   refine Ah A6 (λ_ x=>x) O mi Ag O λtm=>AF (AH 1 (AB O (BH O (AF (Gc bz (AH 1 (AJ O (AF (AH 1 (AA O (AF (AH 1 (Aw O (AF (AH 1 (Aw O (AF (AH 1 (Aw O (AF (AH 1 (Aw O (AF (AH 1 (Aw O (AF (AH 1 (Aw O ?_))))))))))))))))))))))))))))
   exact AF (AH 1 (AJ O (AF (AH 1 (AA O (AF (AH 1 (Aw O (AF (AH 1 (Aw O (AF (AH 1 (Aw O (AF (AH 1 (AJ O (AF (AH 1 (AY O (AF (AZ (kp [9,7,6,3,2,1] O) (WF.nil (λaa ww hf hw=>⟨_,_,hf.sub (kp [9,7,6,3,2,1] O),hw,dj,(gv.trans (gw.trans mg)),trivial⟩))))))))))))))))))))))))
  have t:=GA bz t
  obtain⟨tn,el,t⟩:=bd t
  obtain⟨tp,em,t⟩:=bd t
  obtain⟨mj,en,t⟩:=bd t
  have ml:=Option.some.inj t
  subst ml
  rcases Xu mj with cy|cy
  ·have H:=GB cy H
   have mm:=Option.some.inj H
   subst mm
   refine EQ (AH 1 (AA O (AF (AH 1 (A4 d (mt (mt (mt (mt mh)))) O O HO bo O λtq ij=>AF (AH 1 (GN O ij Ib O λtr ik=>AF (AH 1 ?_))))))))
   have mn:=d.epAt (mt (mt (mt (mt mh)))) bp FK ik
   refine Ah A6 (λ_ x=>x) O mn Ag O λts=>AF (AH 1 (BH O (AF (Gc a6 (AH 1 (AA O (AF (AH 1 (AB O (AA O (AF (AH 1 (AB O (A4 d (mt (mt (mt (mt mh)))) O O HO b3 O λtt il=>AF (AH 1 (AB O (GN O il Iz O λtu im=>AF (AH 1 (AB O ?_)))))))))))))))))))
   have mp:=d.epAt (mt (mt (mt (mt mh)))) b4 Ae.f_Part im
   refine An A6 (λ_ x=>x) O mp BP O λtv mq=>AF (F9 O O O (Dw (cs:=[vI 10,vI 5]) FJ O O O O O O O d λtw tx io gx=>F9 O O O ?_))
   have ip:=io.bxos (r:=AM.int) (l:=([10,5]:List Int)) .head ⟨_,_,O,⟨O,(iq (n:=10) O)⟩,⟨_,_,O,⟨O,(iq (n:=5) O)⟩,O⟩⟩ (by simp [maxLen])
   obtain⟨ty,dk,gz,mr⟩:=ip.pubs .head
   refine BZ O O O Iw O dk (BF (St.all _) ((mq.mono' (gx.trans gz)).mono (λb hb=>dk.1 b hb) (λ_ _=>rfl)) (mr.mono (λb hb=>dk.1 b hb) (λ_ _=>rfl)) b5) λtz t0 t1 br ms t2 p=>?_
   obtain⟨rfl,ov⟩:=p
   refine Gc bq (AH 1 (AJ O (AF (AH 1 (AA O (AF (AH 1 (AB O (AA O (AF (AH 1 (AB O (A4 br (mt (mt (mt (mt mh)))) O O HO dg O λt3 ir=>AF (AH 1 (AB O (GN O ir Ib O λt4 it=>AF (AH 1 (AB O ?_))))))))))))))))))
   have mu:=br.epAt (mt (mt (mt (mt mh)))) dh FK it
   refine Ah A6 (λ_ x=>x) O mu Ag O λt5=>AF (AH 1 (AB O (BH O (AF (Gc bz (AH 1 (AJ O (AF (AH 1 (AA O (AF (AH 1 (AB O (AA O (AF (AH 1 (AB O (A4 br (mt (mt (mt (mt mh)))) O O HO el O λt6 iu=>AF (AH 1 (AB O (GN O iu Iz O λt7 iv=>AF (AH 1 (AB O ?_)))))))))))))))))))))))
   have mv:=br.epAt (mt (mt (mt (mt mh)))) em Ae.f_Part iv
   refine An A6 (λ_ x=>x) O mv BP O λt8 mw=>AF (F9 O O O (Dw (cs:=[vI 10,vI 5]) FJ O O O O O O O br λt9 ua iw g0=>F9 O O O ?_))
   have iy:=iw.bxos (r:=AM.int) (l:=([10,5]:List Int)) .head ⟨_,_,O,⟨O,(iq (n:=10) O)⟩,⟨_,_,O,⟨O,(iq (n:=5) O)⟩,O⟩⟩ (by simp [maxLen])
   obtain⟨ub,dl,g1,mx⟩:=iy.pubs .head
   refine BZ O O O Iw O dl (BF (St.all _) ((mw.mono' (g0.trans g1)).mono (λb hb=>dl.1 b hb) (λ_ _=>rfl)) (mx.mono (λb hb=>dl.1 b hb) (λ_ _=>rfl)) en) λuc ud ue iz my uf p=>?_
   obtain⟨rfl,ow⟩:=p
   exact Gc cy (AH 1 (AJ O (AF (AH 1 (AA O (AF (AH 1 (Aw O (AF (AH 1 (Aw O (AF (AH 1 (Aw O (AF (AH 1 (AJ O (AF (AH 1 (AY O (AF (AZ (kp [9,7,6,3,2,1] O) (WF.nil (λaa ww hf hw=>⟨_,_,hf.sub (kp [9,7,6,3,2,1] O),hw,iz,(gx.trans (gz.trans (ms.trans (g0.trans (g1.trans my))))),trivial⟩))))))))))))))))))))))))
  have H:=GA cy H
  obtain⟨ug,i0,H⟩:=bd H
  have mz:=Option.some.inj H
  subst mz
  refine EQ (AH 1 (AA O (AF (AH 1 (A4 d (mt (mt (mt (mt mh)))) O O HO bo O λuh i1=>AF (AH 1 (GN O i1 Ib O λui i2=>AF (AH 1 ?_))))))))
  have m0:=d.epAt (mt (mt (mt (mt mh)))) bp FK i2
  refine Ah A6 (λ_ x=>x) O m0 Ag O λuj=>AF (AH 1 (BH O (AF (Gc a6 (AH 1 (AA O (AF (AH 1 (AB O (AA O (AF (AH 1 (AB O (A4 d (mt (mt (mt (mt mh)))) O O HO b3 O λuk i3=>AF (AH 1 (AB O (GN O i3 Iz O λul i4=>AF (AH 1 (AB O ?_)))))))))))))))))))
  have m1:=d.epAt (mt (mt (mt (mt mh)))) b4 Ae.f_Part i4
  refine An A6 (λ_ x=>x) O m1 BP O λum m2=>AF (F9 O O O (Dw (cs:=[vI 10,vI 5]) FJ O O O O O O O d λun uo i5 g2=>F9 O O O ?_))
  have i6:=i5.bxos (r:=AM.int) (l:=([10,5]:List Int)) .head ⟨_,_,O,⟨O,(iq (n:=10) O)⟩,⟨_,_,O,⟨O,(iq (n:=5) O)⟩,O⟩⟩ (by simp [maxLen])
  obtain⟨up,dm,g3,m3⟩:=i6.pubs .head
  refine BZ O O O Iw O dm (BF (St.all _) ((m2.mono' (g2.trans g3)).mono (λb hb=>dm.1 b hb) (λ_ _=>rfl)) (m3.mono (λb hb=>dm.1 b hb) (λ_ _=>rfl)) b5) λuq ur us bs m4 ut p=>?_
  obtain⟨rfl,ox⟩:=p
  refine Gc bq (AH 1 (AJ O (AF (AH 1 (AA O (AF (AH 1 (AB O (AA O (AF (AH 1 (AB O (A4 bs (mt (mt (mt (mt mh)))) O O HO dg O λuu i7=>AF (AH 1 (AB O (GN O i7 Ib O λuv i8=>AF (AH 1 (AB O ?_))))))))))))))))))
  have m5:=bs.epAt (mt (mt (mt (mt mh)))) dh FK i8
  refine Ah A6 (λ_ x=>x) O m5 Ag O λuw=>AF (AH 1 (AB O (BH O (AF (Gc bz (AH 1 (AJ O (AF (AH 1 (AA O (AF (AH 1 (AB O (AA O (AF (AH 1 (AB O (A4 bs (mt (mt (mt (mt mh)))) O O HO el O λux i9=>AF (AH 1 (AB O (GN O i9 Iz O λuy ja=>AF (AH 1 (AB O ?_)))))))))))))))))))))))
  have m6:=bs.epAt (mt (mt (mt (mt mh)))) em Ae.f_Part ja
  refine An A6 (λ_ x=>x) O m6 BP O λuz m7=>AF (F9 O O O (Dw (cs:=[vI 10,vI 5]) FJ O O O O O O O bs λu0 u1 jb g4=>F9 O O O ?_))
  have jc:=jb.bxos (r:=AM.int) (l:=([10,5]:List Int)) .head ⟨_,_,O,⟨O,(iq (n:=10) O)⟩,⟨_,_,O,⟨O,(iq (n:=5) O)⟩,O⟩⟩ (by simp [maxLen])
  obtain⟨u2,dn,g5,m8⟩:=jc.pubs .head
  refine BZ O O O Iw O dn (BF (St.all _) ((m7.mono' (g4.trans g5)).mono (λb hb=>dn.1 b hb) (λ_ _=>rfl)) (m8.mono (λb hb=>dn.1 b hb) (λ_ _=>rfl)) en) λu3 u4 u5 jd m9 u6 p=>?_
  obtain⟨rfl,oy⟩:=p
  refine Gc cy (AH 1 (AJ O (AF (AH 1 (AA O (AF (AH 1 (AB O (AA O (AF (F9 O O O (Dw (cs:=[vI 150]) FJ O O O O O O O jd λu7 u8 je na=>F9 O O O ?_))))))))))))
  have jf:=je.bxos (r:=AM.int) (l:=([150]:List Int)) .head ⟨_,_,O,⟨O,(iq (n:=150) O)⟩,O⟩ (by simp [maxLen])
  obtain⟨u9,dp,nb,nc⟩:=jf.pubs .head
  refine BZ O O O Iw O dp (BF (St.all _) (dp.oslAll (mt (mt (mt (mt (mt mh)))))) (nc.mono (λb hb=>dp.1 b hb) (λ_ _=>rfl)) i0) λva vb vc jg nd vd p=>?_
  obtain⟨rfl,oz⟩:=p
  exact AH 1 (AJ O (AF (AH 1 (AY O (AF (AZ (kp [9,7,6,3,2,1] O) (WF.nil (λaa ww hf hw=>⟨_,_,hf.sub (kp [9,7,6,3,2,1] O),hw,jg,(g2.trans (g3.trans (m4.trans (g4.trans (g5.trans (m9.trans (na.trans (nb.trans nd)))))))),trivial⟩))))))))
 rintro aa ww ⟨ne,nf,hf,hw,A,af,_⟩
 refine Ad ?_ hf hw
 clear hf hw ww aa
 refine AD ?_
 obtain⟨ve,b6,E⟩:=bd E
 obtain⟨ng,b7,E⟩:=bd E
 obtain⟨vf,ag,E⟩:=bd E
 obtain⟨vg,am,E⟩:=bd E
 obtain⟨b0,C,E⟩:=bd E
 refine Gs (λa w=>IV B ne nf (176,[]) a w [(10,.bool b0),(9,.bool a5),(7,cp),(6,vP cq 0),(3,vP bx 0),(2,vP ee 0),(1,vP b9 0)] (Bx cq 36 [vI y.1.Hour,cr,ct,cu,cv,cw,cx]::OS BT 50 cp y.2.1::OS AM.int 3 ej y.2.2::Bx bx 36 [vI i.1.Hour,az,a0,a1,a2,a3,a4]::OS BT 50 eg i.2.1::OS AM.int 3 eh i.2.2::Bx ee 36 [vI ad.Hour,bg,bh,bi,bj,bk,bl]::Bx b9 31 [.string y1.Name,a7,vI y1.Cells,a8,a9,ba,bb,bc,be,bf,vI y1.Err]::L) λ_ _=>True) ?_ ?_
 ·rcases Xu ng with bt|bt
  ·have ag:=GB bt ag
   have nh:=Option.some.inj ag
   subst nh
   have ni:=Option.some.inj am
   subst ni
   have nj:=Option.some.inj C
   subst nj
   refine EQ (AH 1 (AC D4 O (AF (AH 1 (AS A6 A O (mt (mt (mt mh))) O HN O (AF (AH 1 (BD O O (ap.mono' (J.trans (K.trans (M.trans (ac.trans (Z.trans (Q.trans af))))))) FO b6 O λvh nk=>AF (AH 1 (An A6 A.1 O nk BP O λvi nl=>AF (Dw (cs:=[vI 80,vI 40]) FJ O O O O O O O A λvj vk jh g6=>?_)))))))))))
   have ji:=jh.bxos (r:=AM.int) (l:=([80,40]:List Int)) .head ⟨_,_,O,⟨O,(iq (n:=80) O)⟩,⟨_,_,O,⟨O,(iq (n:=40) O)⟩,O⟩⟩ (by simp [maxLen])
   obtain⟨vl,dq,g7,nm⟩:=ji.pubs .head
   refine BZ O O O Iw O dq (BF (St.all _) ((nl.mono' (g6.trans g7)).mono (λb hb=>dq.1 b hb) (λ_ _=>rfl)) (nm.mono (λb hb=>dq.1 b hb) (λ_ _=>rfl)) b7) λvm vn vo jj nn vp p=>?_
   obtain⟨rfl,o0⟩:=p
   refine Gc bt (AH 1 (AA O (AF (AH 1 (Aw O (AF (AH 1 (Aw O (AF (AH 1 (Aw O (AF (AH 1 (Aw O (AF (AH 1 (AJ O (AF (AH 1 (AA O (AF (AH 1 (Aw O (AF (AH 1 (Aw O (AF (AH 1 (Aw O ?_)))))))))))))))))))))))))))))
   exact AF (AH 1 (AJ O (AF (AH 1 (AA O (AF (AH 1 (Aw O (AF (AH 1 (Aw O (AF (AH 1 (Aw O (AF (AH 1 (Aw O (AF (AH 1 (AJ O (AF (AH 1 (AY O (AF (AZ (kp [10,9,7,6,3,2,1] O) (WF.nil (λaa ww hf hw=>⟨_,_,hf.sub (kp [10,9,7,6,3,2,1] O),hw,jj,(g6.trans (g7.trans nn)),trivial⟩)))))))))))))))))))))))))))
  have ag:=GA bt ag
  obtain⟨no,dr,ag⟩:=bd ag
  have np:=Option.some.inj ag
  subst np
  rcases Xu no with b1|b1
  ·have am:=GB b1 am
   have nq:=Option.some.inj am
   subst nq
   have nr:=Option.some.inj C
   subst nr
   refine EQ (AH 1 (AC D4 O (AF (AH 1 (AS A6 A O (mt (mt (mt mh))) O HN O (AF (AH 1 ?_)))))))
   have eo:=J.trans (K.trans (M.trans (ac.trans (Z.trans (Q.trans af)))))
   refine BD O O (ap.mono' eo) FO b6 O λvq ns=>AF (AH 1 (An A6 A.1 O ns BP O λvr nt=>AF (Dw (cs:=[vI 80,vI 40]) FJ O O O O O O O A λvt vu jk ep=>?_)))
   have jl:=jk.bxos (r:=AM.int) (l:=([80,40]:List Int)) .head ⟨_,_,O,⟨O,(iq (n:=80) O)⟩,⟨_,_,O,⟨O,(iq (n:=40) O)⟩,O⟩⟩ (by simp [maxLen])
   obtain⟨vv,ds,eq,nu⟩:=jl.pubs .head
   refine BZ O O O Iw O ds (BF (St.all _) ((nt.mono' (ep.trans eq)).mono (λb hb=>ds.1 b hb) (λ_ _=>rfl)) (nu.mono (λb hb=>ds.1 b hb) (λ_ _=>rfl)) b7) λvw vx vy er g8 vz p=>?_
   obtain⟨rfl,o1⟩:=p
   refine Gc bt (AH 1 (AA O (AF (AH 1 (AB O (AC HR O (AF (AH 1 (AB O (AS A6 er O (mt (mt (mt mh))) O BP O (AF (F9 O O O (Dw (cs:=[vI 20,vI 10]) FJ O O O O O O O er λv0 v3 jm g9=>F9 O O O ?_)))))))))))))
   have jn:=jm.bxos (r:=AM.int) (l:=([20,10]:List Int)) .head ⟨_,_,O,⟨O,(iq (n:=20) O)⟩,⟨_,_,O,⟨O,(iq (n:=10) O)⟩,O⟩⟩ (by simp [maxLen])
   obtain⟨v4,dt,ha,nv⟩:=jn.pubs .head
   refine BZ O O O Iw O dt (BF (St.all _) ((bn.mono' (eo.trans (ep.trans (eq.trans (g8.trans (g9.trans ha)))))).mono (λb hb=>dt.1 b hb) (λ_ _=>rfl)) (nv.mono (λb hb=>dt.1 b hb) (λ_ _=>rfl)) dr) λv5 v6 v7 jo nw v8 p=>?_
   obtain⟨rfl,o2⟩:=p
   refine Gc b1 (AH 1 (AJ O (AF (AH 1 (AA O (AF (AH 1 (Aw O (AF (AH 1 (Aw O (AF (AH 1 (Aw O (AF (AH 1 (AJ O (AF (AH 1 (AA O (AF (AH 1 (Aw O (AF (AH 1 (Aw O (AF (AH 1 (Aw O ?_)))))))))))))))))))))))))))))
   exact AF (AH 1 (Aw O (AF (AH 1 (AJ O (AF (AH 1 (AY O (AF (AZ (kp [10,9,7,6,3,2,1] O) (WF.nil (λaa ww hf hw=>⟨_,_,hf.sub (kp [10,9,7,6,3,2,1] O),hw,jo,(ep.trans (eq.trans (g8.trans (g9.trans (ha.trans nw))))),trivial⟩))))))))))))
  have am:=GA b1 am
  have nx:=Option.some.inj am
  subst nx
  rcases Xu (decide (i.1.Hour=6)) with cz|cz
  ·have C:=GB cz C
   have ny:=Option.some.inj C
   subst ny
   refine EQ (AH 1 (AC D4 O (AF (AH 1 (AS A6 A O (mt (mt (mt mh))) O HN O (AF (AH 1 ?_)))))))
   have es:=J.trans (K.trans (M.trans (ac.trans (Z.trans (Q.trans af)))))
   refine BD O O (ap.mono' es) FO b6 O λv9 nz=>AF (AH 1 (An A6 A.1 O nz BP O λwa n0=>AF (Dw (cs:=[vI 80,vI 40]) FJ O O O O O O O A λwb wc jp et=>?_)))
   have jq:=jp.bxos (r:=AM.int) (l:=([80,40]:List Int)) .head ⟨_,_,O,⟨O,(iq (n:=80) O)⟩,⟨_,_,O,⟨O,(iq (n:=40) O)⟩,O⟩⟩ (by simp [maxLen])
   obtain⟨wd,du,eu,n1⟩:=jq.pubs .head
   refine BZ O O O Iw O du (BF (St.all _) ((n0.mono' (et.trans eu)).mono (λb hb=>du.1 b hb) (λ_ _=>rfl)) (n1.mono (λb hb=>du.1 b hb) (λ_ _=>rfl)) b7) λwe wf wg ev hc wh p=>?_
   obtain⟨rfl,o3⟩:=p
   refine Gc bt (AH 1 (AA O (AF (AH 1 (AB O (AC HR O (AF (AH 1 (AB O (AS A6 ev O (mt (mt (mt mh))) O BP O (AF (F9 O O O (Dw (cs:=[vI 20,vI 10]) FJ O O O O O O O ev λwi wj jr hd=>F9 O O O ?_)))))))))))))
   have js:=jr.bxos (r:=AM.int) (l:=([20,10]:List Int)) .head ⟨_,_,O,⟨O,(iq (n:=20) O)⟩,⟨_,_,O,⟨O,(iq (n:=10) O)⟩,O⟩⟩ (by simp [maxLen])
   obtain⟨wk,dv,he,n2⟩:=js.pubs .head
   refine BZ O O O Iw O dv (BF (St.all _) ((bn.mono' (es.trans (et.trans (eu.trans (hc.trans (hd.trans he)))))).mono (λb hb=>dv.1 b hb) (λ_ _=>rfl)) (n2.mono (λb hb=>dv.1 b hb) (λ_ _=>rfl)) dr) λwl wm wn ew n3 wo p=>?_
   obtain⟨rfl,o4⟩:=p
   refine Gc b1 (AH 1 (AJ O (AF (AH 1 (AA O (AF (AH 1 (AB O (AC Id O (AF (AH 1 (AB O (AS A6 ew O (mt (mt (mt mh))) O Ag O (AF (AH 1 (AB O (BH O (AF (Gc cz (AH 1 (AJ O (AF (AH 1 (AA O (AF (AH 1 (Aw O (AF (AH 1 ?_)))))))))))))))))))))))))))))
   exact Aw O (AF (AH 1 (Aw O (AF (AH 1 (Aw O (AF (AH 1 (AJ O (AF (AH 1 (AY O (AF (AZ (kp [10,9,7,6,3,2,1] O) (WF.nil (λaa ww hf hw=>⟨_,_,hf.sub (kp [10,9,7,6,3,2,1] O),hw,ew,(et.trans (eu.trans (hc.trans (hd.trans (he.trans n3))))),trivial⟩))))))))))))))))
  have C:=GA cz C
  obtain⟨wp,jt,C⟩:=bd C
  obtain⟨wq,ju,C⟩:=bd C
  have n4:=Option.some.inj C
  subst n4
  refine EQ (AH 1 (AC D4 O (AF (AH 1 (AS A6 A O (mt (mt (mt mh))) O HN O (AF (AH 1 ?_)))))))
  have ey:=J.trans (K.trans (M.trans (ac.trans (Z.trans (Q.trans af)))))
  refine BD O O (ap.mono' ey) FO b6 O λwr n5=>AF (AH 1 (An A6 A.1 O n5 BP O λws n6=>AF (Dw (cs:=[vI 80,vI 40]) FJ O O O O O O O A λwt wu jv ez=>?_)))
  have jw:=jv.bxos (r:=AM.int) (l:=([80,40]:List Int)) .head ⟨_,_,O,⟨O,(iq (n:=80) O)⟩,⟨_,_,O,⟨O,(iq (n:=40) O)⟩,O⟩⟩ (by simp [maxLen])
  obtain⟨wv,dw,e0,n7⟩:=jw.pubs .head
  refine BZ O O O Iw O dw (BF (St.all _) ((n6.mono' (ez.trans e0)).mono (λb hb=>dw.1 b hb) (λ_ _=>rfl)) (n7.mono (λb hb=>dw.1 b hb) (λ_ _=>rfl)) b7) λwx wy wz e1 hg w0 p=>?_
  obtain⟨rfl,o5⟩:=p
  refine Gc bt (AH 1 (AA O (AF (AH 1 (AB O (AC HR O (AF (AH 1 (AB O (AS A6 e1 O (mt (mt (mt mh))) O BP O (AF (F9 O O O (Dw (cs:=[vI 20,vI 10]) FJ O O O O O O O e1 λw1 w2 jx hh=>F9 O O O ?_)))))))))))))
  have jy:=jx.bxos (r:=AM.int) (l:=([20,10]:List Int)) .head ⟨_,_,O,⟨O,(iq (n:=20) O)⟩,⟨_,_,O,⟨O,(iq (n:=10) O)⟩,O⟩⟩ (by simp [maxLen])
  obtain⟨w3,dx,hi,n8⟩:=jy.pubs .head
  have an:=ey.trans (ez.trans (e0.trans (hg.trans (hh.trans hi))))
  refine BZ O O O Iw O dx (BF (St.all _) ((bn.mono' an).mono (λb hb=>dx.1 b hb) (λ_ _=>rfl)) (n8.mono (λb hb=>dx.1 b hb) (λ_ _=>rfl)) dr) λw4 w5 w6 Y bu w7 p=>?_
  obtain⟨rfl,o6⟩:=p
  refine Gc b1 (AH 1 (AJ O (AF (AH 1 (AA O (AF (AH 1 (AB O (AC Id O (AF (AH 1 (AB O (AS A6 Y O (mt (mt (mt mh))) O Ag O (AF (AH 1 (AB O (BH O (AF (Gc cz (AH 1 (AJ O (AF (AH 1 (AA O (AF (AH 1 (AB O (DT (vs:=[vI i.1.Hour,az,a0,a1,a2,a3,a4]) A6 Y O (mt (mt (mt mh))) O O Gj O O (AF ?_)))))))))))))))))))))))))))))
  refine F9 O O O (BZ O O O XX O Y (KZ (St.all _) (CJ.mk (x:=i.1) ei ((ap.mono' (an.trans bu)).mono (λb hb=>Y.1 b hb) (λ_ _=>rfl)) ((d4.mono' (an.trans bu)).mono (λb hb=>Y.1 b hb) (λ_ _=>rfl)) ((d5.mono' (an.trans bu)).mono (λb hb=>Y.1 b hb) (λ_ _=>rfl)) ((d6.mono' (an.trans bu)).mono (λb hb=>Y.1 b hb) (λ_ _=>rfl)) ((d7.mono' (an.trans bu)).mono (λb hb=>Y.1 b hb) (λ_ _=>rfl)) ((bn.mono' (an.trans bu)).mono (λb hb=>Y.1 b hb) (λ_ _=>rfl))) jt) λw8 w9 xa o7 n9 oa p=>?_)
  have jz:=p
  have e2:=Y.join oa jz ⟨OS.flat (λ{_ _ _ _ _ _} k=>k),trivial⟩
  simp only[List.cons_append,List.nil_append] at e2
  refine F9 O O O (Dw (cs:=[vI 80,vI 40]) FJ O O O O O O O e2 λxb xc j0 ob=>F9 O O O ?_)
  have j1:=j0.bxos (r:=AM.int) (l:=([80,40]:List Int)) .head ⟨_,_,O,⟨O,(iq (n:=80) O)⟩,⟨_,_,O,⟨O,(iq (n:=40) O)⟩,O⟩⟩ (by simp [maxLen])
  obtain⟨xd,dy,oc,od⟩:=j1.pubs .head
  refine BZ O O O Iw O dy (BF (St.all _) (dy.oslAll mh) (od.mono (λb hb=>dy.1 b hb) (λ_ _=>rfl)) ju) λxe xf xg j2 oe xh p=>?_
  obtain⟨rfl,o8⟩:=p
  refine AH 1 (AJ O (AF (AH 1 (AY O (AF (AZ (kp [10,9,7,6,3,2,1] O) ?_))))))
  have j3:=j2.sel [1,1,1,1,1,1,1,1] 1 O
  exact WF.nil (λaa ww hf hw=>⟨_,_,hf.sub (kp [10,9,7,6,3,2,1] O),hw,j3,(ez.trans (e0.trans (hg.trans (hh.trans (hi.trans (bu.trans (n9.trans (ob.trans (oc.trans oe))))))))),trivial⟩)
 rintro aa ww ⟨hj,hk,hf,hw,j,bv,_⟩
 refine Ad ?_ hf hw
 clear hf hw ww aa
 refine AD ?_
 obtain⟨xi,b8,E⟩:=bd E
 obtain⟨og,ca,E⟩:=bd E
 obtain⟨xj,D,E⟩:=bd E
 obtain⟨xk,u,E⟩:=bd E
 obtain⟨dz,m,E⟩:=bd E
 refine Gs (λa w=>IV B hj hk (176,[]) a w [(11,.bool dz),(10,.bool b0),(9,.bool a5),(3,vP bx 0),(2,vP ee 0),(1,vP b9 0)] (Bx cq 36 [vI y.1.Hour,cr,ct,cu,cv,cw,cx]::OS BT 50 cp y.2.1::OS AM.int 3 ej y.2.2::Bx bx 36 [vI i.1.Hour,az,a0,a1,a2,a3,a4]::OS BT 50 eg i.2.1::OS AM.int 3 eh i.2.2::Bx ee 36 [vI ad.Hour,bg,bh,bi,bj,bk,bl]::Bx b9 31 [.string y1.Name,a7,vI y1.Cells,a8,a9,ba,bb,bc,be,bf,vI y1.Err]::L) λ_ _=>True) ?_ ?_
 ·rcases Xu (decide (og.Way=(-3))) with ao|ao
  ·have D:=GB ao D
   have j4:=Option.some.inj D
   subst j4
   have j5:=Option.some.inj u
   subst j5
   have j6:=Option.some.inj m
   subst j6
   refine EQ (AH 1 (AA O (AF (AH 1 (A4 j (mt mh) O O HO b8 O λo9 fk=>AF (AH 1 (GN O fk Ib O λpa fl=>AF (AH 1 ?_))))))))
   have j7:=j.epAt (mt mh) ca FK fl
   refine Ah A6 (λ_ x=>x) O j7 Ag O λpb=>AF (AH 1 (BH O (AF (Gc ao (AH 1 (AA O (AF (AH 1 (Aw O (AF (AH 1 (Aw O (AF (AH 1 (Aw O (AF (AH 1 (Aw O (AF (AH 1 (Aw O (AF (AH 1 (Aw O (AF (AH 1 (AJ O (AF ?_))))))))))))))))))))))))))))
   refine AH 1 (AA O (AF (AH 1 (Aw O (AF (AH 1 (Aw O (AF (AH 1 (Aw O (AF (AH 1 (Aw O (AF (AH 1 (Aw O (AF (AH 1 (Aw O (AF (AH 1 (AJ O (AF (AH 1 (AA O (AF (AH 1 (Aw O (AF ?_)))))))))))))))))))))))))))))
   exact AH 1 (Aw O (AF (AH 1 (Aw O (AF (AH 1 (Aw O (AF (AH 1 (Aw O (AF (AH 1 (Aw O (AF (AH 1 (AJ O (AF (AH 1 (AY O (AF (AZ (kp [11,10,9,3,2,1] O) (WF.nil (λaa ww hf hw=>⟨_,_,hf.sub (kp [11,10,9,3,2,1] O),hw,j,(B9.refl hj hk),trivial⟩)))))))))))))))))))))))
  have D:=GA ao D
  obtain⟨pc,cb,D⟩:=bd D
  obtain⟨pd,cc,D⟩:=bd D
  obtain⟨j8,cd,D⟩:=bd D
  have j9:=Option.some.inj D
  subst j9
  rcases Xu j8 with ar|ar
  ·have u:=GB ar u
   have ka:=Option.some.inj u
   subst ka
   have kb:=Option.some.inj m
   subst kb
   refine EQ (AH 1 (AA O (AF (AH 1 (A4 j (mt mh) O O HO b8 O λpe fm=>AF (AH 1 (GN O fm Ib O λpf fn=>AF (AH 1 ?_))))))))
   have kc:=j.epAt (mt mh) ca FK fn
   refine Ah A6 (λ_ x=>x) O kc Ag O λpg=>AF (AH 1 (BH O (AF (Gc ao (AH 1 (AA O (AF (AH 1 (AB O (AA O (AF (AH 1 (AB O (A4 j (mt mh) O O HO cb O λph fo=>AF (AH 1 (AB O (GN O fo Iz O λpi fp=>AF (AH 1 (AB O ?_)))))))))))))))))))
   have kd:=j.epAt (mt mh) cc Ae.f_Part fp
   refine An A6 (λ_ x=>x) O kd BP O λpj ke=>AF (F9 O O O (Dw (cs:=[vI 0,vI 50]) FJ O O O O O O O j λpk pl fq e3=>F9 O O O ?_))
   have fr:=fq.bxos (r:=AM.int) (l:=([0,50]:List Int)) .head ⟨_,_,O,⟨O,(iq (n:=0) O)⟩,⟨_,_,O,⟨O,(iq (n:=50) O)⟩,O⟩⟩ (by simp [maxLen])
   obtain⟨pm,ce,e4,kf⟩:=fr.pubs .head
   refine BZ O O O Iw O ce (BF (St.all _) ((ke.mono' (e3.trans e4)).mono (λb hb=>ce.1 b hb) (λ_ _=>rfl)) (kf.mono (λb hb=>ce.1 b hb) (λ_ _=>rfl)) cd) λpn po pp fs kg pq p=>?_
   obtain⟨rfl,oh⟩:=p
   refine Gc ar (AH 1 (AJ O (AF (AH 1 (AA O (AF (AH 1 (Aw O (AF (AH 1 (Aw O (AF (AH 1 (Aw O (AF (AH 1 (Aw O (AF (AH 1 (Aw O (AF (AH 1 (Aw O (AF (AH 1 (AJ O (AF (AH 1 (AA O ?_)))))))))))))))))))))))))))))
   exact AF (AH 1 (Aw O (AF (AH 1 (Aw O (AF (AH 1 (Aw O (AF (AH 1 (Aw O (AF (AH 1 (Aw O (AF (AH 1 (Aw O (AF (AH 1 (AJ O (AF (AH 1 (AY O (AF (AZ (kp [11,10,9,3,2,1] O) (WF.nil (λaa ww hf hw=>⟨_,_,hf.sub (kp [11,10,9,3,2,1] O),hw,fs,(e3.trans (e4.trans kg)),trivial⟩)))))))))))))))))))))))))))
  have u:=GA ar u
  obtain⟨pr,d8,u⟩:=bd u
  obtain⟨ps,d9,u⟩:=bd u
  obtain⟨kh,ea,u⟩:=bd u
  have ki:=Option.some.inj u
  subst ki
  rcases Xu kh with bw|bw
  ·have m:=GB bw m
   have kj:=Option.some.inj m
   subst kj
   refine EQ (AH 1 (AA O (AF (AH 1 (A4 j (mt mh) O O HO b8 O λpt ft=>AF (AH 1 (GN O ft Ib O λpu fu=>AF (AH 1 ?_))))))))
   have kk:=j.epAt (mt mh) ca FK fu
   refine Ah A6 (λ_ x=>x) O kk Ag O λpv=>AF (AH 1 (BH O (AF (Gc ao (AH 1 (AA O (AF (AH 1 (AB O (AA O (AF (AH 1 (AB O (A4 j (mt mh) O O HO cb O λpw fv=>AF (AH 1 (AB O (GN O fv Iz O λpx fw=>AF (AH 1 (AB O ?_)))))))))))))))))))
   have kl:=j.epAt (mt mh) cc Ae.f_Part fw
   refine An A6 (λ_ x=>x) O kl BP O λpy km=>AF (F9 O O O (Dw (cs:=[vI 0,vI 50]) FJ O O O O O O O j λpz p0 fx e6=>F9 O O O ?_))
   have fy:=fx.bxos (r:=AM.int) (l:=([0,50]:List Int)) .head ⟨_,_,O,⟨O,(iq (n:=0) O)⟩,⟨_,_,O,⟨O,(iq (n:=50) O)⟩,O⟩⟩ (by simp [maxLen])
   obtain⟨p1,cf,e7,kn⟩:=fy.pubs .head
   refine BZ O O O Iw O cf (BF (St.all _) ((km.mono' (e6.trans e7)).mono (λb hb=>cf.1 b hb) (λ_ _=>rfl)) (kn.mono (λb hb=>cf.1 b hb) (λ_ _=>rfl)) cd) λp2 p3 p4 cg ko p5 p=>?_
   obtain⟨rfl,oi⟩:=p
   refine Gc ar (AH 1 (AJ O (AF (AH 1 (AA O (AF (AH 1 (AB O (AA O (AF (AH 1 (AB O (A4 cg (mt mh) O O HO d8 O λp6 fz=>AF (AH 1 (AB O (GN O fz Iz O λp7 f0=>AF (AH 1 (AB O ?_))))))))))))))))))
   have kq:=cg.epAt (mt mh) d9 Ae.f_Part f0
   refine An A6 (λ_ x=>x) O kq BP O λp8 kr=>AF (F9 O O O (Dw (cs:=[vI 15,vI 0]) FJ O O O O O O O cg λp9 qa f1 e8=>F9 O O O ?_))
   have f2:=f1.bxos (r:=AM.int) (l:=([15,0]:List Int)) .head ⟨_,_,O,⟨O,(iq (n:=15) O)⟩,⟨_,_,O,⟨O,(iq (n:=0) O)⟩,O⟩⟩ (by simp [maxLen])
   obtain⟨qb,ch,e9,ks⟩:=f2.pubs .head
   refine BZ O O O Iw O ch (BF (St.all _) ((kr.mono' (e8.trans e9)).mono (λb hb=>ch.1 b hb) (λ_ _=>rfl)) (ks.mono (λb hb=>ch.1 b hb) (λ_ _=>rfl)) ea) λqc qd qe f3 kt qf p=>?_
   obtain⟨rfl,oj⟩:=p
   refine Gc bw (AH 1 (AJ O (AF (AH 1 (AA O (AF (AH 1 (Aw O (AF (AH 1 (Aw O (AF (AH 1 (Aw O (AF (AH 1 (Aw O (AF (AH 1 (Aw O (AF (AH 1 (Aw O (AF (AH 1 (AJ O (AF (AH 1 (AY O ?_)))))))))))))))))))))))))))))
   exact AF (AZ (kp [11,10,9,3,2,1] O) (WF.nil (λaa ww hf hw=>⟨_,_,hf.sub (kp [11,10,9,3,2,1] O),hw,f3,(e6.trans (e7.trans (ko.trans (e8.trans (e9.trans kt))))),trivial⟩)))
  have m:=GA bw m
  obtain⟨qg,f4,m⟩:=bd m
  obtain⟨qh,f5,m⟩:=bd m
  have ku:=Option.some.inj m
  subst ku
  refine EQ (AH 1 (AA O (AF (AH 1 (A4 j (mt mh) O O HO b8 O λqi f6=>AF (AH 1 (GN O f6 Ib O λqj f7=>AF (AH 1 ?_))))))))
  have kv:=j.epAt (mt mh) ca FK f7
  refine Ah A6 (λ_ x=>x) O kv Ag O λqk=>AF (AH 1 (BH O (AF (Gc ao (AH 1 (AA O (AF (AH 1 (AB O (AA O (AF (AH 1 (AB O (A4 j (mt mh) O O HO cb O λql f8=>AF (AH 1 (AB O (GN O f8 Iz O λqm f9=>AF (AH 1 (AB O ?_)))))))))))))))))))
  have kw:=j.epAt (mt mh) cc Ae.f_Part f9
  refine An A6 (λ_ x=>x) O kw BP O λqn kx=>AF (F9 O O O (Dw (cs:=[vI 0,vI 50]) FJ O O O O O O O j λqo qp ga d0=>F9 O O O ?_))
  have gb:=ga.bxos (r:=AM.int) (l:=([0,50]:List Int)) .head ⟨_,_,O,⟨O,(iq (n:=0) O)⟩,⟨_,_,O,⟨O,(iq (n:=50) O)⟩,O⟩⟩ (by simp [maxLen])
  obtain⟨qq,ci,d1,ky⟩:=gb.pubs .head
  refine BZ O O O Iw O ci (BF (St.all _) ((kx.mono' (d0.trans d1)).mono (λb hb=>ci.1 b hb) (λ_ _=>rfl)) (ky.mono (λb hb=>ci.1 b hb) (λ_ _=>rfl)) cd) λqr qs qt cj fa qu p=>?_
  obtain⟨rfl,ok⟩:=p
  refine Gc ar (AH 1 (AJ O (AF (AH 1 (AA O (AF (AH 1 (AB O (AA O (AF (AH 1 (AB O (A4 cj (mt mh) O O HO d8 O λqv gc=>AF (AH 1 (AB O (GN O gc Iz O λqw gd=>AF (AH 1 (AB O ?_))))))))))))))))))
  have kz:=cj.epAt (mt mh) d9 Ae.f_Part gd
  refine An A6 (λ_ x=>x) O kz BP O λqx k0=>AF (F9 O O O (Dw (cs:=[vI 15,vI 0]) FJ O O O O O O O cj λqy q0 ge d2=>F9 O O O ?_))
  have gf:=ge.bxos (r:=AM.int) (l:=([15,0]:List Int)) .head ⟨_,_,O,⟨O,(iq (n:=15) O)⟩,⟨_,_,O,⟨O,(iq (n:=0) O)⟩,O⟩⟩ (by simp [maxLen])
  obtain⟨q1,ck,d3,k1⟩:=gf.pubs .head
  refine BZ O O O Iw O ck (BF (St.all _) ((k0.mono' (d2.trans d3)).mono (λb hb=>ck.1 b hb) (λ_ _=>rfl)) (k1.mono (λb hb=>ck.1 b hb) (λ_ _=>rfl)) ea) λq2 q3 q4 cl fb q5 p=>?_
  obtain⟨rfl,ol⟩:=p
  refine Gc bw (AH 1 (AJ O (AF (AH 1 (AA O (AF (AH 1 (AB O (AC D4 O (AF (AH 1 (AB O (AS A6 cl O mh O HN O (AF (AH 1 (AB O (BD O O (ek.mono' (Q.trans (af.trans (bv.trans (d0.trans (d1.trans (fa.trans (d2.trans (d3.trans fb))))))))) FO f4 O λq6 k2=>AF (AH 1 (AB O (An A6 cl.1 O k2 BP O λq7 k3=>AF (F9 O O O (Dw (cs:=[vI 85,vI 0]) FJ O O O O O O O cl λq8 q9 gg fc=>F9 O O O ?_))))))))))))))))))))))
  have gh:=gg.bxos (r:=AM.int) (l:=([85,0]:List Int)) .head ⟨_,_,O,⟨O,(iq (n:=85) O)⟩,⟨_,_,O,⟨O,(iq (n:=0) O)⟩,O⟩⟩ (by simp [maxLen])
  obtain⟨ra,cm,fd,k4⟩:=gh.pubs .head
  refine BZ O O O Iw O cm (BF (St.all _) ((k3.mono' (fc.trans fd)).mono (λb hb=>cm.1 b hb) (λ_ _=>rfl)) (k4.mono (λb hb=>cm.1 b hb) (λ_ _=>rfl)) f5) λrd re rf gi k5 rg p=>?_
  obtain⟨rfl,om⟩:=p
  exact AH 1 (AJ O (AF (AH 1 (AY O (AF (AZ (kp [11,10,9,3,2,1] O) (WF.nil (λaa ww hf hw=>⟨_,_,hf.sub (kp [11,10,9,3,2,1] O),hw,gi,(d0.trans (d1.trans (fa.trans (d2.trans (d3.trans (fb.trans (fc.trans (fd.trans k5)))))))),trivial⟩))))))))
 rintro aa ww ⟨rh,ri,hf,hw,c,au,_⟩
 refine Ad ?_ hf hw
 clear hf hw ww aa
 refine AD (Bl (.inl O) c (AA O (AA O (AV 2 156 (.bool (a5&&b0)) ?_ ?_))))
 ·cases rj:a5
  ·exact Aa O O
  exact AB O (AA O (AJ O (AU O)))
 refine AA O (AV 2 159 (.bool ((a5&&b0)&&dz)) ?_ ?_)
 ·cases rk:(a5&&b0)
  ·exact Aa O O
  exact AB O (AA O (AJ O (AU O)))
 refine AA O ?_
 obtain⟨fe,U,E⟩:=bd E
 refine AV 4 164 (.bool fe) ?_ ?_
 ·cases ff:((a5&&b0)&&dz)
  ·have U:=GB ff U
   cases U
   exact Aa O O
  have U:=GA ff U
  refine AB O (DT (vs:=[vI ad.Hour,bg,bh,bi,bj,bk,bl]) Bb c O (mt (mt (mt (mt (mt (mt mh)))))) O O Gj O O (AB O (DT (vs:=[vI ad.Hour,bg,bh,bi,bj,bk,bl]) Bb c O (mt (mt (mt (mt (mt (mt mh)))))) O O Gj O O (AB O ?_))))
  have s:=F.trans (I.trans (bm.trans (ay.trans (J.trans (K.trans (M.trans (ac.trans (Z.trans (Q.trans (af.trans (bv.trans au)))))))))))
  obtain⟨rm,gj,U⟩:=bd U
  refine Az O O O Zi O (λh' o=>M9 (St.all h') (CJ.mk (x:=ad) ef ((co.mono' s).mono' (o.all c.1)) ((c9.mono' s).mono' (o.all c.1)) ((da.mono' s).mono' (o.all c.1)) ((db.mono' s).mono' (o.all c.1)) ((dc.mono' s).mono' (o.all c.1)) ((dd.mono' s).mono' (o.all c.1))) (CJ.mk (x:=ad) ef ((co.mono' s).mono' (o.all c.1)) ((c9.mono' s).mono' (o.all c.1)) ((da.mono' s).mono' (o.all c.1)) ((db.mono' s).mono' (o.all c.1)) ((dc.mono' s).mono' (o.all c.1)) ((dd.mono' s).mono' (o.all c.1))) gj) (AJ O ?_)
  cases U
  exact AU O
 refine AA O ?_
 obtain⟨fg,V,E⟩:=bd E
 refine AV 5 170 (.bool fg) ?_ ?_
 ·cases fh:fe
  ·have V:=GB fh V
   cases V
   exact Aa O O
  have V:=GA fh V
  refine AB O (DT (vs:=[vI ad.Hour,bg,bh,bi,bj,bk,bl]) Bb c O (mt (mt (mt (mt (mt (mt mh)))))) O O Gj O O (AB O (DT (vs:=[vI i.1.Hour,az,a0,a1,a2,a3,a4]) Bb c O (mt (mt (mt mh))) O O Gj O O (AB O ?_))))
  have ah:=F.trans (I.trans (bm.trans (ay.trans (J.trans (K.trans (M.trans (ac.trans (Z.trans (Q.trans (af.trans (bv.trans au)))))))))))
  have ai:=J.trans (K.trans (M.trans (ac.trans (Z.trans (Q.trans (af.trans (bv.trans au)))))))
  obtain⟨rn,gl,V⟩:=bd V
  refine Az O O O Zi O (λh' o=>M9 (St.all h') (CJ.mk (x:=ad) ef ((co.mono' ah).mono' (o.all c.1)) ((c9.mono' ah).mono' (o.all c.1)) ((da.mono' ah).mono' (o.all c.1)) ((db.mono' ah).mono' (o.all c.1)) ((dc.mono' ah).mono' (o.all c.1)) ((dd.mono' ah).mono' (o.all c.1))) (CJ.mk (x:=i.1) ei ((ap.mono' ai).mono' (o.all c.1)) ((d4.mono' ai).mono' (o.all c.1)) ((d5.mono' ai).mono' (o.all c.1)) ((d6.mono' ai).mono' (o.all c.1)) ((d7.mono' ai).mono' (o.all c.1)) ((bn.mono' ai).mono' (o.all c.1))) gl) (AB O (BV O (AJ O ?_)))
  cases V
  exact AU O
 refine AA O ?_
 obtain⟨k6,W,E⟩:=bd E
 refine AV 4 175 (.bool k6) ?_ ?_
 ·cases fi:fg
  ·have W:=GB fi W
   cases W
   exact Aa O O
  have W:=GA fi W
  refine AB O (DT (vs:=[.string y1.Name,a7,vI y1.Cells,a8,a9,ba,bb,bc,be,bf,vI y1.Err]) Bb c O (mt (mt (mt (mt (mt (mt (mt mh))))))) O O G8 O O (AB O (DT (vs:=[vI i.1.Hour,az,a0,a1,a2,a3,a4]) Bb c O (mt (mt (mt mh))) O O Gj O O (AB O ?_))))
  have X:=ak.trans (c8.trans (cn.trans (F.trans (I.trans (bm.trans (ay.trans (J.trans (K.trans (M.trans (ac.trans (Z.trans (Q.trans (af.trans (bv.trans au))))))))))))))
  have aj:=J.trans (K.trans (M.trans (ac.trans (Z.trans (Q.trans (af.trans (bv.trans au)))))))
  obtain⟨ro,gm,W⟩:=bd W
  refine Az O O O XW O (λh' o=>Ka (St.all h') (B3.mk (x:=y1) eb ((c0.mono' X).mono' (o.all c.1)) ec ((c1.mono' X).mono' (o.all c.1)) ((c2.mono' X).mono' (o.all c.1)) ((c3.mono' X).mono' (o.all c.1)) ((c4.mono' X).mono' (o.all c.1)) ((c5.mono' X).mono' (o.all c.1)) ((c6.mono' X).mono' (o.all c.1)) ((c7.mono' X).mono' (o.all c.1)) ed) (CJ.mk (x:=i.1) ei ((ap.mono' aj).mono' (o.all c.1)) ((d4.mono' aj).mono' (o.all c.1)) ((d5.mono' aj).mono' (o.all c.1)) ((d6.mono' aj).mono' (o.all c.1)) ((d7.mono' aj).mono' (o.all c.1)) ((bn.mono' aj).mono' (o.all c.1))) gm) (AJ O ?_)
  cases W
  exact AU O
 refine AY O (BJ (kp [0] O) λrp gn k8=>Ac (λaa ww hf hw=>?_))
 have gp:=gn.sel [] 8 O
 cases E
 exact Dm hf hw O O (e5.trans (fj.trans (ak.trans (c8.trans (cn.trans (F.trans (I.trans (bm.trans (ay.trans (J.trans (K.trans (M.trans (ac.trans (Z.trans (Q.trans (af.trans (bv.trans (au.trans k8)))))))))))))))))) ⟨O,gp⟩
end Go.Proofs.YtblcgjadhemlbaaGreat
