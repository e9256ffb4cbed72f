import Derived.Test.YtblcgjadhemlbaaGreatQWalk13
namespace Go.Proofs.YtblcgjadhemlbaaGreat
open Go.RowKit
set_option linter.unusedVariables false
set_option linter.unusedSimpArgs false
set_option maxRecDepth 10000
set_option maxHeartbeats 2000000
variable {N:Nat}{S:Nat→Prop}{L:List HP}{h:Aq}
theorem BE (hs:St S L h) {b:Value}{k:(List Int)}(d:Sl S h AN.int b k) {c:Value}{m:(List Int)}(i:Sl S h AN.int c m) {r:Bool}(E:Ch N k m=some r):
 CG Tryz.prog 18 #[b,c] S h (λv S' h'=>v= .bool r∧St S' (L) h'):=by
 refine BC (l:=[b,c]) 26 Tryz.func18 O Tryz.ntmps18 O λB=>?_
 rw[Ch] at E
 refine AA (AG (.inl O) (AF O O (AD (kp [0,1] O) (AA (AA (AG (.inl O) (AB O O (Ag O d BP O λX=>AB O O (Ag O i BP O λY=>CH O O O (AD (kp [10,0,1] O) (AW O (λx=>?_) (λx=>?_))))))))))))
 ·have E:=BU x E
  refine AA (AG (.inl O) (AF O O (AD (kp [4] O) (Ab (λaa ww hf hw=>?_)))))
  cases E
  exact Dp hf hw O O (B8.refl S h) ⟨O,hs⟩
 have E:=BV x E
 refine AT (AA (AA (AG (.inl O) (AF O O (AD (kp [5,0,1] O) (Aj (λa w=>IV B S h (26,[]) a w [] (L) λ_ _=>GZ N=some r) ?_ ?_))))))
 ·refine Ay (λG=>λa w=>∃(q:Int),IV B S h (26,[]) a w [(0,b),(1,c),(5,.int .i64 q)] (L) λ_ _=>AI q∧FW N k m (GZ N) G q=some r) N ?_ ?_ ?_
  ·intro aa ww hf hw
   exact⟨0,_,_,hf.sub (kp [0,1,5] O),hw,hs,(B8.refl S h),(iq (n:=0) O),E⟩
  ·rintro aa ww ⟨_,_,_,_,_,_,_,_,E⟩
   rw[FW] at E;cases E
  rintro G aa ww ⟨q,Z,h9,hf,hw,g,j,r7,E⟩
  refine Ad ?_ hf hw
  clear hf hw ww aa
  rw[FW] at E
  refine AA (AA (AG (.inl O) (AB O O (AB O O ?_))))
  have y:=d.mono' j
  refine Ag O y BP O λH=>A0 O O O (AD (kp [14,0,1,5] O) (AW O (λo=>?_) (λo=>?_)))
  ·have E:=BU o E
   refine AT (AA (A6 (AA (AG (.inr ⟨mo,by kernel_rfl⟩) (AB O O (AB O O ?_))))))
   have z:=d.mono' j
   obtain⟨I,s,E⟩:=bd E
   refine A8 O O z BP s O λJ A=>Af A3 g.1 O A Ae O λK=>AB O O (AB O O ?_)
   have C:=i.mono' j
   obtain⟨M,t,E⟩:=bd E
   refine A8 O O C BP t O λQ D=>Af A3 g.1 O D Ae O λU=>CH O O O (AD (kp [25,0,1,5] O) (AW O (λp=>?_) (λp=>?_)))
   ·have E:=BU p E
    refine AA (AG (.inl O) (AF O O (AD (kp [4] O) (Ab (λaa ww hf hw=>?_)))))
    cases E
    exact Dp hf hw O O j ⟨O,g⟩
   have E:=BV p E
   refine AT (BJ (AG (.inl O) (AB O O (Ap O O O (AF O O (AD (kp [5,0,1] O) (WF.nil (λaa ww hf hw=>?_))))))))
   exact⟨(BD (q+1)),_,_,hf.sub (kp [0,1,5] O),hw,g,j,(BG _),E⟩
  have E:=BV o E
  refine BB O (λaa ww hf hw=>?_)
  exact⟨_,_,hf.sub OG,hw,g,j,E⟩
 rintro aa ww ⟨V,W,hf,hw,u,F,E⟩
 refine Ad ?_ hf hw
 clear hf hw ww aa
 rw[GZ] at E
 refine AA (AG (.inl O) (AF O O (AD (kp [4] O) (Ab (λaa ww hf hw=>?_)))))
 cases E
 exact Dp hf hw O O F ⟨O,u⟩
theorem Km {g:Nat}{c1_:(List Int)}{c:Value}(hs:St S (Bx g 29 [c]::OS AN.int 3 c c1_::L) h) {b:Value}{d:(List Int)}(k:Sl S h AN.int b d) {r:(List Int)}(E:I1 N c1_ d=some r):
 CG Tryz.prog 35 #[b,.pointer (some ⟨g,0,none⟩)] S h (λv S' h'=>∃w_0_0:Value,v= .tuple #[]∧St S' (Bx g 29 [w_0_0]::OS AN.int 3 w_0_0 r::L) h'):=by
 refine BC (l:=[b,.pointer (some ⟨g,0,none⟩)]) 25 Tryz.func35 O Tryz.ntmps35 O λB=>?_
 rw[I1] at E
 refine AA (AG (.inl O) (AS A3 hs O mh O BY O (LJ hs (mt mh) O BP O λb1=>AB O O (Ag O k BP O λb2=>Qs O O O (AB O O (AD (kp [9,8,0,1] O) (A6 (Ay (λn0=>λa w=>∃(m:Int) (s:List Int),IV B S h (25,[]) a w [(8,.int .i64 (min (↑c1_.length:Int) (↑d.length:Int))),(0,b),(1,.pointer (some ⟨g,0,none⟩)),(9,.int .i64 m)] (Bx g 29 [c]::OS AN.int 3 c s::L) λ_ _=>AI m∧Gw N d c1_ n0 m s=some r) N ?_ ?_ ?_))))))))
 ·intro aa ww hf hw
  exact⟨0,c1_,_,_,hf.sub (kp [8,0,1,9] O),hw,hs,(B8.refl S h),(iq (n:=0) O),E⟩
 ·rintro aa ww ⟨_,_,_,_,_,_,_,_,_,E⟩
  rw[Gw] at E;cases E
 rintro n0 aa ww ⟨m,s,S9,ac,hf,hw,j,p,r7,E⟩
 refine Ad ?_ hf hw
 clear hf hw ww aa
 rw[Gw] at E
 refine AA (AG (.inl O) (A0 O O O (AD (kp [10,8,0,1,9] O) (AA (AW O (λq=>?_) (λq=>?_))))))
 ·have E:=BU q E
  refine AT (AA (A6 (AA (AG (.inl O) (AB O O (AF O O (AD (kp [3,8,0,1,9] O) (JM 12 mo (by kernel_rfl) O j (AS BZ j O mh O BY O (AB O O (AS BZ j O mh O BY O (AB O O ?_))))))))))))
  obtain⟨ad,t,E⟩:=bd E
  refine A5 j (mt mh) O O BP t O λae u=>?_
  obtain⟨af,y,E⟩:=bd E
  have K:=j.epAt (mt mh) y El.id u
  refine Af BZ (λ_ x=>x) O K Ae O λM=>AB O O (AB O O ?_)
  have Q:=k.mono' p
  obtain⟨ag,z,E⟩:=bd E
  refine A8 O O Q BP z O λah U=>Af BZ j.1 O U Ae O λV=>?_
  obtain⟨A,C,E⟩:=bd E
  refine CM O O O P1 O (λh' o=>Hp (St.all h') M V C) λW=>?_
  have X:=W
  obtain⟨ai,D,E⟩:=bd E
  refine A5 j (mt mh) O O BP D O λaj F=>IJ λak G Y=>?_
  obtain⟨Z,H,E⟩:=bd E
  refine Ef (r:=AN.int) (l:=s) (i:=m) (x:=Z) O O (⟨_,O,O,X⟩:Rd _ _ AN.int _ A) F H LG.id Ae (λ_=>rfl) G (.tail .head) λal I ab=>AX (kp [8,0,1,9] O) (BJ (AG (.inl O) (Ap O O O (AB O O (AD (kp [9,8,0,1] O) (WF.nil (λaa ww hf hw=>?_)))))))
  have J:=p.trans (Y.trans ab)
  exact⟨(BD (m+1)),(upd s m A),_,_,hf.sub (kp [8,0,1,9] O),hw,I,J,(BG _),E⟩
 have E:=BV q E
 refine KI O (WF.nil (λaa ww hf hw=>?_))
 cases E
 exact Jn hf O hw Jm O p ⟨_,O,j⟩
theorem Og (hs:St S L h) {d:Value}{b:Al}(x:Rd S h CL d b) {r:(List Int)}(E:LA N b=some r):
 CG Tryz.prog 12 #[d] S h (λv S' h'=>St S' (OS AN.int 3 v r::L) h'):=by
 refine BC (l:=[d]) 38 Tryz.func12 O Tryz.ntmps12 O λB=>?_
 rw[LA] at E
 refine AA (Am (B1 O x (λe=>by cases e) O hs λq1 S2 h3 ak e5 k6=>AJ 1 (AF O O (AE (AX (kp [1] O) (AA (Am (AJ 3 (Ac O k6 Jk Jz O λq7 k8=>Ah A3 ak.1 O k8 BY O λv9 be=>Ag O be BP O λb2=>AE ?_)))))))))
 obtain⟨am,E⟩:=Ly E
 refine Iq (r:=AN.int) (zx:=0) E4 O ⟨O,by unfold AI;omega⟩ O O am O O ak λb3 b4 an ao=>Cg T9 O an λc b5 F ap=>?_
 obtain⟨G,g,rfl,b6⟩:=F.oslen (mt mh)
 refine DD (vs:=[(.slice G (List.replicate ((↑b.In.length:Int):Int).toNat (0:Int)).length g)]) O O O O BY O F .head O λQ H aq=>AX (kp [3,1] O) (AA (AG (.inl O) (Ns O O O (AF O O (AD (kp [4,3,1] O) (AA (AA (AG (.inl O) ?_))))))))
 have ar:=ao.trans (ap.trans aq)
 have au:=k6.mono ar
 refine Ac O au JA D3 O λb7 bf=>Ah A3 H.1 O bf G3 O λbg av=>Ag O av E8 O λb8=>AB O O (AD (kp [17,16,15,4,3,1] O) (Aj (λa w=>∃(y:Value) (z:List Int),IV B S2 Q (38,[]) a w [(4,.func (.func 35) #[] #[.pointer (some ⟨c,0,none⟩)]),(3,.pointer (some ⟨c,0,none⟩)),(1,q1)] (OS AN.int 3 y z::Bx c 29 [y]::L) λ_ _=>Ih N b z=some r) ?_ ?_))
 ·refine Ay (λn1=>λa w=>∃(i:Int) (A:Value) (j:List Int),IV B S2 Q (38,[]) a w [(16,.int .i64 (↑b.Own.length:Int)),(15,bg),(4,.func (.func 35) #[] #[.pointer (some ⟨c,0,none⟩)]),(3,.pointer (some ⟨c,0,none⟩)),(1,q1),(17,.int .i64 i)] (OS AN.int 3 A j::Bx c 29 [A]::L) λ_ _=>AI i∧Hd N b (Ih N b) n1 i j=some r) N ?_ ?_ ?_
  ·intro aa ww hf hw
   have aw:=H.sel [1,0] 0 O
   exact⟨0,(.slice G (List.replicate ((↑b.In.length:Int):Int).toNat (0:Int)).length g),(List.replicate ((↑b.In.length:Int):Int).toNat (0:Int)),_,_,hf.sub (kp [16,15,4,3,1,17] O),hw,aw,(B8.refl S2 Q),(iq (n:=0) O),E⟩
  ·rintro aa ww ⟨_,_,_,_,_,_,_,_,_,_,E⟩
   rw[Hd] at E;cases E
  rintro n1 aa ww ⟨i,A,j,b9,ca,hf,hw,k,U,cb,E⟩
  refine Ad ?_ hf hw
  clear hf hw ww aa
  rw[Hd] at E
  refine AA (AG (.inl O) (A0 O O O (AD (kp [18,16,15,4,3,1,17] O) (AA (AW O (λV=>?_) (λV=>?_))))))
  ·have E:=BU V E
   refine AT (AA (A6 (AA (AG (.inl O) ?_))))
   have bh:=av.mono' U
   obtain⟨cc,ax,E⟩:=bd E
   refine A8 O O bh E8 ax O λcd bi=>Ah A3 k.1 O bi BY O λce bj=>AF O O (AD (kp [6,16,15,4,3,1,17] O) (Am (AJ 2 (AB O O (AB O O (AE ?_))))))
   have ay:=k.sel [1,0] 0 O
   obtain⟨bk,az,E⟩:=bd E
   refine Cr O O O Xo O (Km (c1_:=j) ay bj az) λcf cg ch bl p=>?_
   obtain⟨bm,rfl,a0⟩:=p
   refine AX (kp [16,15,4,3,1,17] O) (BJ (AG (.inl O) (Ap O O O (AB O O (AD (kp [17,16,15,4,3,1] O) (WF.nil (λaa ww hf hw=>?_)))))))
   have a1:=a0.sel [1,0] 0 O
   exact⟨(BD (i+1)),bm,bk,_,_,hf.sub (kp [16,15,4,3,1,17] O),hw,a1,(U.trans bl),(BG _),E⟩
  have E:=BV V E
  refine BB O (λaa ww hf hw=>?_)
  exact⟨A,j,_,_,hf.sub (kp [4,3,1] O),hw,k,U,E⟩
 rintro aa ww ⟨y,z,W,X,hf,hw,I,a2,E⟩
 refine Ad ?_ hf hw
 clear hf hw ww aa
 rw[Ih] at E
 refine AA (AA (AG (.inl O) ?_))
 have bn:=au.mono a2
 refine Ac O bn IA JR O λci bo=>Ah A3 I.1 O bo Kk O λbp a3=>Ag O a3 JF O λcj=>AB O O (AD (kp [28,27,26,4,3] O) (Aj (λa w=>∃(Y:Value) (Z:List Int),IV B W X (38,[]) a w [(3,.pointer (some ⟨c,0,none⟩))] (OS AN.int 3 Y Z::Bx c 29 [Y]::L) λ_ _=>Ig N Z=some r) ?_ ?_))
 ·refine Ay (λn3=>λa w=>∃(m:Int) (C:Value) (o:List Int),IV B W X (38,[]) a w [(27,.int .i64 (↑b.Queue.length:Int)),(26,bp),(4,.func (.func 35) #[] #[.pointer (some ⟨c,0,none⟩)]),(3,.pointer (some ⟨c,0,none⟩)),(28,.int .i64 m)] (OS AN.int 3 C o::Bx c 29 [C]::L) λ_ _=>AI m∧Hc N b (Ig N) n3 m o=some r) N ?_ ?_ ?_
  ·intro aa ww hf hw
   exact⟨0,y,z,_,_,hf.sub (kp [27,26,4,3,28] O),hw,I,(B8.refl W X),(iq (n:=0) O),E⟩
  ·rintro aa ww ⟨_,_,_,_,_,_,_,_,_,_,E⟩
   rw[Hc] at E;cases E
  rintro n3 aa ww ⟨m,C,o,ck,cl,hf,hw,s,ab,cm,E⟩
  refine Ad ?_ hf hw
  clear hf hw ww aa
  rw[Hc] at E
  refine AA (AG (.inl O) (A0 O O O (AD (kp [29,27,26,4,3,28] O) (AA (AW O (λac=>?_) (λac=>?_))))))
  ·have E:=BU ac E
   refine AT (AA (A6 (AA (Am (AJ 2 ?_)))))
   have bq:=a3.mono' ab
   obtain⟨D,a4,E⟩:=bd E
   refine A8 O O bq JF a4 O λcn br=>Bw A3 s.1 O br KP (λe=>by cases e) O λco bs=>AE (Cg Pe O s λcp cq a5 a6=>?_)
   have a7:=bs.mono a6
   obtain⟨J,rfl,bt,bu,K⟩:=An.ex a7
   refine Ge (vs:=[.int .i64 D.At,.int .i64 D.To,J]) (cs':=[.int .i64 D.At,.int .i64 D.To,J]) O O O (AH O (AH O (AH K.one D2))) KP O a5 .head O O λbv t M=>AX (kp [8,27,26,4,3,28] O) (Am (AJ 3 (AB O O (AL O KW O (AS A3 t O mh O BY O (AE ?_))))))
   have ad:=t.sel [2,1,0] 0 O
   have a8:=K.mono' M
   obtain⟨a9,ae,E⟩:=bd E
   refine Cr O O O Xo O (Km (c1_:=o) ad a8 ae) λbw bx bz ba p=>?_
   obtain⟨bb,rfl,af⟩:=p
   refine AX (kp [27,26,4,3,28] O) (BJ (AG (.inl O) (Ap O O O (AB O O (AD (kp [28,27,26,4,3] O) (WF.nil (λaa ww hf hw=>?_)))))))
   have ag:=af.sel [1,0] 1 O
   have ah:=ab.trans (a6.trans (M.trans ba))
   exact⟨(BD (m+1)),bb,a9,_,_,hf.sub (kp [27,26,4,3,28] O),hw,ag,ah,(BG _),E⟩
  have E:=BV ac E
  refine BB O (λaa ww hf hw=>?_)
  exact⟨C,o,_,_,hf.sub (kp [3] O),hw,s,ab,E⟩
 rintro aa ww ⟨Y,Z,b0,b1,hf,hw,u,bc,E⟩
 refine Ad ?_ hf hw
 clear hf hw ww aa
 rw[Ig] at E
 refine AA (AG (.inl O) (AS A3 u O (mt mh) O BY O (AF O O (AD (kp [2] O) (Ab (λaa ww hf hw=>?_))))))
 have ai:=u.drop (.tail .head)
 cases E
 have aj:=e5.trans (ao.trans (ap.trans (aq.trans (a2.trans bc))))
 exact Dp hf hw O O aj ai
theorem IM (hs:St S L h) {c:Value}{k:(List (List Int))}(i:Sl S h (AN.sl AN.int) c k) {d:Value}{q:(List (List Int))}(m:Sl S h (AN.sl AN.int) d q) {j:Value}{s:(((List Int)×(List Int))→Option Bool)}(t:Rd S h (AN.fnr Tryz.prog (λS h vs (x:((List Int)×(List Int)))=>∃w0 w1:Value,vs=[w0,w1]∧Sl S h AN.int w0 x.1∧Sl S h AN.int w1 x.2) (λS h v (y:Bool)=>v= .bool y)) j s) {r:Bool}(E:Em N k q s=some r):
 CG Tryz.prog 40 #[c,d,j] S h (λv S' h'=>v= .bool r∧St S' (L) h'):=by
 refine BC (l:=[c,d,j]) 32 Tryz.func40 O Tryz.ntmps40 O λB=>?_
 rw[Em] at E
 obtain⟨J,K,rfl,M,Q⟩:=t.fnr
 refine AA (AG (.inl O) (AF O O (AD (kp [0,1,2] O) (AA (AA (AG (.inl O) (AB O O (Ag O i E8 O λb5=>AB O O (Ag O m E8 O λb6=>CH O O O (AD (kp [14,0,1,2] O) (AW O (λU=>?_) (λU=>?_))))))))))))
 ·have E:=BU U E
  refine AA (AG (.inl O) (AF O O (AD (kp [6] O) (Ab (λaa ww hf hw=>?_)))))
  cases E
  exact Dp hf hw O O (B8.refl S h) ⟨O,hs⟩
 have E:=BV U E
 refine AT (AA (AA (AG (.inl O) (AB O O (Ag O i E8 O λb8=>AB O O (AD (kp [17,16,15,1,2] O) (Aj (λa w=>IV B S h (32,[]) a w [] (L) λ_ _=>DE N=some r) ?_ ?_)))))))
 ·refine Ay (λn1=>λa w=>∃(u:Int),IV B S h (32,[]) a w [(16,.int .i64 (↑k.length:Int)),(15,c),(1,d),(2,(.func (.func J) #[] K)),(17,.int .i64 u)] (L) λ_ _=>AI u∧CT N k q s (DE N) n1 u=some r) N ?_ ?_ ?_
  ·intro aa ww hf hw
   exact⟨0,_,_,hf.sub (kp [16,15,1,2,17] O),hw,hs,(B8.refl S h),(iq (n:=0) O),E⟩
  ·rintro aa ww ⟨_,_,_,_,_,_,_,_,E⟩
   rw[CT] at E;cases E
  rintro n1 aa ww ⟨u,af,ag,hf,hw,g,p,ah,E⟩
  refine Ad ?_ hf hw
  clear hf hw ww aa
  rw[CT] at E
  refine AA (AG (.inl O) (A0 O O O (AD (kp [18,16,15,1,2,17] O) (AA (AW O (λA=>?_) (λA=>?_))))))
  ·have E:=BU A E
   refine AT (AA (A6 (AA (AG (.inl O) (AB O O ?_)))))
   have V:=i.mono' p
   obtain⟨W,D,E⟩:=bd E
   refine A8 O O V E8 D O λai X=>Ah A3 g.1 O X BY O λaj Y=>AF O O (AF O O (AD (kp [8,7,16,15,1,2,17] O) (AA (AG (.inl O) (AB O O (AB O O ?_))))))
   have Z:=m.mono' p
   obtain⟨ab,F,E⟩:=bd E
   refine A8 O O Z E8 F O λak ac=>Ah A3 g.1 O ac BY O λal ad=>AF O O (AD (kp [9,8,16,15,1,2,17] O) (AA (Bn (.inl O) g (AB O O (AB O O (AB O O ?_))))))
   obtain⟨am,G,E⟩:=bd E
   refine Aw O O O M O (λh' o=>Q _ h' (λb hb=>Nat.lt_of_lt_of_le (g.1 b (p.sub b hb)) o.siz) (λb hb=>(o.same b (g.1 b (p.sub b hb))).trans (p.same b hb)) [] (St.all h') (W,ab) _ _ ⟨_,_,O,(Y.mono' (o.all g.1)),(ad.mono' (o.all g.1))⟩ G) (Bv O O (BK (kp [30,16,15,1,2,17] O) λan z H=>AW O (λC=>?_) (λC=>?_)))
   ·have E:=BU C E
    refine AA (AG (.inl O) (AF O O (AD (kp [6] O) (Ab (λaa ww hf hw=>?_)))))
    cases E
    exact Dp hf hw O O (p.trans H) ⟨O,z⟩
   have E:=BV C E
   refine AT (BJ (AG (.inl O) (Ap O O O (AB O O (AD (kp [17,16,15,1,2] O) (WF.nil (λaa ww hf hw=>?_)))))))
   exact⟨(BD (u+1)),_,_,hf.sub (kp [16,15,1,2,17] O),hw,z,(p.trans H),(BG _),E⟩
  have E:=BV A E
  refine BB O (λaa ww hf hw=>?_)
  exact⟨_,_,hf.sub OG,hw,g,p,E⟩
 rintro aa ww ⟨ao,ap,hf,hw,I,ae,E⟩
 refine Ad ?_ hf hw
 clear hf hw ww aa
 rw[DE] at E
 refine AA (AG (.inl O) (AF O O (AD (kp [6] O) (Ab (λaa ww hf hw=>?_)))))
 cases E
 exact Dp hf hw O O ae ⟨O,I⟩
theorem EZ (hs:St S L h) {b:Value}{g:(List Int)}(d:Sl S h AN.int b g) {c:Value}{k:(List Int)}(i:Sl S h AN.int c k) {r:Bool}(E:C2 N g k=some r):
 CG Tryz.prog 41 #[b,c] S h (λv S' h'=>v= .bool r∧St S' (L) h'):=by
 refine BC (l:=[b,c]) 26 Tryz.func41 O Tryz.ntmps41 O λB=>?_
 rw[C2] at E
 refine AA (AG (.inl O) (AF O O (AD (kp [0,1] O) (AA (AA (AG (.inl O) (AB O O (Ag O d BP O λW=>AB O O (Ag O i BP O λX=>CH O O O (AD (kp [10,0,1] O) (AW O (λx=>?_) (λx=>?_))))))))))))
 ·have E:=BU x E
  refine AA (AG (.inl O) (AF O O (AD (kp [4] O) (Ab (λaa ww hf hw=>?_)))))
  cases E
  exact Dp hf hw O O (B8.refl S h) ⟨O,hs⟩
 have E:=BV x E
 refine AT (AA (AA (AG (.inl O) (AB O O (Ag O d BP O λY=>AB O O (AD (kp [13,12,0,1] O) (Aj (λa w=>IV B S h (26,[]) a w [] (L) λ_ _=>FU N=some r) ?_ ?_)))))))
 ·refine Ay (λF=>λa w=>∃(q:Int),IV B S h (26,[]) a w [(12,.int .i64 (↑g.length:Int)),(0,b),(1,c),(13,.int .i64 q)] (L) λ_ _=>AI q∧EM N g k (FU N) F q=some r) N ?_ ?_ ?_
  ·intro aa ww hf hw
   exact⟨0,_,_,hf.sub (kp [12,0,1,13] O),hw,hs,(B8.refl S h),(iq (n:=0) O),E⟩
  ·rintro aa ww ⟨_,_,_,_,_,_,_,_,E⟩
   rw[EM] at E;cases E
  rintro F aa ww ⟨q,Z,G,hf,hw,j,m,r8,E⟩
  refine Ad ?_ hf hw
  clear hf hw ww aa
  rw[EM] at E
  refine AA (AG (.inl O) (A0 O O O (AD (kp [14,12,0,1,13] O) (AA (AW O (λo=>?_) (λo=>?_))))))
  ·have E:=BU o E
   refine AT (AA (A6 (AA (AG (.inl O) (AB O O (AF O O (AD (kp [5,12,0,1,13] O) (AA (AG (.inr ⟨mo,by kernel_rfl⟩) (AB O O (AB O O ?_)))))))))))
   have y:=d.mono' m
   obtain⟨H,s,E⟩:=bd E
   refine A8 O O y BP s O λI z=>Af A3 j.1 O z Ae O λJ=>AB O O (AB O O ?_)
   have A:=i.mono' m
   obtain⟨K,t,E⟩:=bd E
   refine A8 O O A BP t O λM C=>Af A3 j.1 O C Ae O λQ=>CH O O O (AD (kp [24,12,0,1,13] O) (AW O (λp=>?_) (λp=>?_)))
   ·have E:=BU p E
    refine AA (AG (.inl O) (AF O O (AD (kp [4] O) (Ab (λaa ww hf hw=>?_)))))
    cases E
    exact Dp hf hw O O m ⟨O,j⟩
   have E:=BV p E
   refine AT (BJ (AG (.inl O) (Ap O O O (AB O O (AD (kp [13,12,0,1] O) (WF.nil (λaa ww hf hw=>?_)))))))
   exact⟨(BD (q+1)),_,_,hf.sub (kp [12,0,1,13] O),hw,j,m,(BG _),E⟩
  have E:=BV o E
  refine BB O (λaa ww hf hw=>?_)
  exact⟨_,_,hf.sub OG,hw,j,m,E⟩
 rintro aa ww ⟨U,V,hf,hw,u,D,E⟩
 refine Ad ?_ hf hw
 clear hf hw ww aa
 rw[FU] at E
 refine AA (AG (.inl O) (AF O O (AD (kp [4] O) (Ab (λaa ww hf hw=>?_)))))
 cases E
 exact Dp hf hw O O D ⟨O,u⟩
theorem DV (hs:St S L h) {c:Value}{k:(List Az)}(g:Sl S h An c k) {d:Value}{t:(List Az)}(m:Sl S h An d t) {i:Value}{u:((Az×Az)→Option Bool)}(z:Rd S h (AN.fnr Tryz.prog (λS h vs (x:(Az×Az))=>∃w0 w1:Value,vs=[w0,w1]∧Rd S h An w0 x.1∧Rd S h An w1 x.2) (λS h v (y:Bool)=>v= .bool y)) i u) {r:Bool}(E:BW N k t u=some r):
 CG Tryz.prog 42 #[c,d,i] S h (λv S' h'=>v= .bool r∧St S' (L) h'):=by
 refine BC (l:=[c,d,i]) 32 Tryz.func42 O Tryz.ntmps42 O λB=>?_
 rw[BW] at E
 obtain⟨ao,ap,rfl,aq,ar⟩:=z.fnr
 refine AA (AG (.inl O) (AF O O (AD (kp [0,1,2] O) (AA (AA (AG (.inl O) (AB O O (Ag O g JF O λb5=>AB O O (Ag O m JF O λb6=>CH O O O (AD (kp [14,0,1,2] O) (AW O (λc7=>?_) (λc7=>?_))))))))))))
 ·have E:=BU c7 E
  refine AA (AG (.inl O) (AF O O (AD (kp [6] O) (Ab (λaa ww hf hw=>?_)))))
  cases E
  exact Dp hf hw O O (B8.refl S h) ⟨O,hs⟩
 have E:=BV c7 E
 refine AT (AA (AA (AG (.inl O) (AB O O (Ag O g JF O λb8=>AB O O (AD (kp [17,16,15,1,2] O) (Aj (λa w=>IV B S h (32,[]) a w [] (L) λ_ _=>A9 N=some r) ?_ ?_)))))))
 ·refine Ay (λn1=>λa w=>∃(A:Int),IV B S h (32,[]) a w [(16,.int .i64 (↑k.length:Int)),(15,c),(1,d),(2,(.func (.func ao) #[] ap)),(17,.int .i64 A)] (L) λ_ _=>AI A∧Ar N k t u (A9 N) n1 A=some r) N ?_ ?_ ?_
  ·intro aa ww hf hw
   exact⟨0,_,_,hf.sub (kp [16,15,1,2,17] O),hw,hs,(B8.refl S h),(iq (n:=0) O),E⟩
  ·rintro aa ww ⟨_,_,_,_,_,_,_,_,E⟩
   rw[Ar] at E;cases E
  rintro n1 aa ww ⟨A,a9,ba,hf,hw,C,D,bb,E⟩
  refine Ad ?_ hf hw
  clear hf hw ww aa
  rw[Ar] at E
  refine AA (AG (.inl O) (A0 O O O (AD (kp [18,16,15,1,2,17] O) (AA (AW O (λU=>?_) (λU=>?_))))))
  ·have E:=BU U E
   refine AT (AA (A6 (AA (Am (AJ 3 (AB O O ?_))))))
   have au:=g.mono' D
   obtain⟨p,Y,E⟩:=bd E
   refine A8 O O au JF Y O λbc av=>Bw A3 C.1 O av KP (λe=>by cases e) O λbe aw=>AE (Cg Pe O C λbf bg Z I=>AJ 1 (AF O O (AE ?_)))
   have ax:=aw.mono I
   obtain⟨V,rfl,ay,az,ab⟩:=An.ex ax
   refine Ge (vs:=[.int .i64 p.At,.int .i64 p.To,V]) (cs':=[.int .i64 p.At,.int .i64 p.To,V]) O O O (AH O (AH O (AH ab.one D2))) KP O Z .head O O λbh K J=>AX (kp [7,8,16,15,1,2,17] O) (AA (Am (AJ 4 (AB O O (AB O O ?_)))))
   have M:=D.trans (I.trans J)
   have a0:=m.mono' M
   obtain⟨s,ac,E⟩:=bd E
   refine A8 O O a0 JF ac O λbi a1=>Bw A3 K.1 O a1 KP (λe=>by cases e) O λbj a2=>AE (Cg Pe O K λbk bl ad F=>?_)
   have a3:=a2.mono F
   obtain⟨W,rfl,a4,a5,ae⟩:=An.ex a3
   refine Ge (vs:=[.int .i64 s.At,.int .i64 s.To,W]) (cs':=[.int .i64 s.At,.int .i64 s.To,W]) O O O (AH O (AH O (AH ae.one D2))) KP O ad .head O O λbm j G=>AX (kp [9,8,16,15,1,2,17] O) (AA (Bn (.inl O) j (AB O O (Cj (vs:=[.int .i64 p.At,.int .i64 p.To,V]) BZ j O (mt mh) O O KP O O (Cj (vs:=[.int .i64 s.At,.int .i64 s.To,W]) BZ j O mh O O KP O O ?_)))))
   have af:=J.trans (F.trans G)
   have a6:=ab.mono' af
   have a7:=ae.mono' G
   have H:=M.trans (F.trans G)
   obtain⟨bn,ag,E⟩:=bd E
   refine Aw O O O aq O (λh' o=>ar _ h' (λb hb=>Nat.lt_of_lt_of_le (j.1 b (H.sub b hb)) o.siz) (λb hb=>(o.same b (j.1 b (H.sub b hb))).trans (H.same b hb)) [] (St.all h') (p,s) _ _ ⟨_,_,O,(An.mk (x:=p) ay az (a6.mono' (o.all j.1))),(An.mk (x:=s) a4 a5 (a7.mono' (o.all j.1)))⟩ ag) (Bv O O (BK (kp [30,16,15,1,2,17] O) λbo Q ah=>AW O (λX=>?_) (λX=>?_)))
   ·have E:=BU X E
    refine AA (AG (.inl O) (AF O O (AD (kp [6] O) (Ab (λaa ww hf hw=>?_)))))
    have ai:=Q.sel [] 2 O
    cases E
    have aj:=D.trans (I.trans (J.trans (F.trans (G.trans ah))))
    exact Dp hf hw O O aj ⟨O,ai⟩
   have E:=BV X E
   refine AT (BJ (AG (.inl O) (Ap O O O (AB O O (AD (kp [17,16,15,1,2] O) (WF.nil (λaa ww hf hw=>?_)))))))
   have ak:=Q.sel [] 2 O
   have am:=D.trans (I.trans (J.trans (F.trans (G.trans ah))))
   exact⟨(BD (A+1)),_,_,hf.sub (kp [16,15,1,2,17] O),hw,ak,am,(BG _),E⟩
  have E:=BV U E
  refine BB O (λaa ww hf hw=>?_)
  exact⟨_,_,hf.sub OG,hw,C,D,E⟩
 rintro aa ww ⟨bp,bq,hf,hw,an,a8,E⟩
 refine Ad ?_ hf hw
 clear hf hw ww aa
 rw[A9] at E
 refine AA (AG (.inl O) (AF O O (AD (kp [6] O) (Ab (λaa ww hf hw=>?_)))))
 cases E
 exact Dp hf hw O O a8 ⟨O,an⟩
theorem Gf (hs:St S L h) {b:Value}{g:(List Ak)}(d:Sl S h A4 b g) {c:Value}{k:(List Ak)}(i:Sl S h A4 c k) {r:Bool}(E:DC N g k=some r):
 CG Tryz.prog 44 #[b,c] S h (λv S' h'=>v= .bool r∧St S' (L) h'):=by
 refine BC (l:=[b,c]) 26 Tryz.func44 O Tryz.ntmps44 O λB=>?_
 rw[DC] at E
 refine AA (AG (.inl O) (AF O O (AD (kp [0,1] O) (AA (AA (AG (.inl O) (AB O O (Ag O d IL O λb1=>AB O O (Ag O i IL O λb2=>CH O O O (AD (kp [10,0,1] O) (AW O (λx=>?_) (λx=>?_))))))))))))
 ·have E:=BU x E
  refine AA (AG (.inl O) (AF O O (AD (kp [4] O) (Ab (λaa ww hf hw=>?_)))))
  cases E
  exact Dp hf hw O O (B8.refl S h) ⟨O,hs⟩
 have E:=BV x E
 refine AT (AA (AA (AG (.inl O) (AB O O (Ag O d IL O λb4=>AB O O (AD (kp [13,12,0,1] O) (Aj (λa w=>IV B S h (26,[]) a w [] (L) λ_ _=>CD N=some r) ?_ ?_)))))))
 ·refine Ay (λH=>λa w=>∃(q:Int),IV B S h (26,[]) a w [(12,.int .i64 (↑g.length:Int)),(0,b),(1,c),(13,.int .i64 q)] (L) λ_ _=>AI q∧Bi N g k (CD N) H q=some r) N ?_ ?_ ?_
  ·intro aa ww hf hw
   exact⟨0,_,_,hf.sub (kp [12,0,1,13] O),hw,hs,(B8.refl S h),(iq (n:=0) O),E⟩
  ·rintro aa ww ⟨_,_,_,_,_,_,_,_,E⟩
   rw[Bi] at E;cases E
  rintro H aa ww ⟨q,S9,I,hf,hw,j,m,r8,E⟩
  refine Ad ?_ hf hw
  clear hf hw ww aa
  rw[Bi] at E
  refine AA (AG (.inl O) (A0 O O O (AD (kp [14,12,0,1,13] O) (AA (AW O (λo=>?_) (λo=>?_))))))
  ·have E:=BU o E
   refine AT (AA (A6 (AA (AG (.inl O) (AB O O (AF O O (AD (kp [5,12,0,1,13] O) (AA (AG (.inr ⟨mo,by kernel_rfl⟩) (AB O O (AB O O ?_)))))))))))
   have y:=d.mono' m
   obtain⟨J,s,E⟩:=bd E
   refine A8 O O y IL s O λK z=>Bw A3 j.1 O z Eo (λe=>by cases e) O λM A=>AB O O (AB O O ?_)
   have C:=i.mono' m
   obtain⟨Q,t,E⟩:=bd E
   refine A8 O O C IL t O λU D=>Bw A3 j.1 O D Eo (λe=>by cases e) O λV F=>?_
   obtain⟨rfl,⟨W,X⟩⟩:=A4.ex A
   obtain⟨rfl,⟨Y,Z⟩⟩:=A4.ex F
   refine Vy O O Xa O O O O (AD (kp [24,12,0,1,13] O) (AW O (λp=>?_) (λp=>?_)))
   ·have E:=BU p E
    refine AA (AG (.inl O) (AF O O (AD (kp [4] O) (Ab (λaa ww hf hw=>?_)))))
    cases E
    exact Dp hf hw O O m ⟨O,j⟩
   have E:=BV p E
   refine AT (BJ (AG (.inl O) (Ap O O O (AB O O (AD (kp [13,12,0,1] O) (WF.nil (λaa ww hf hw=>?_)))))))
   exact⟨(BD (q+1)),_,_,hf.sub (kp [12,0,1,13] O),hw,j,m,(BG _),E⟩
  have E:=BV o E
  refine BB O (λaa ww hf hw=>?_)
  exact⟨_,_,hf.sub OG,hw,j,m,E⟩
 rintro aa ww ⟨ab,ac,hf,hw,u,G,E⟩
 refine Ad ?_ hf hw
 clear hf hw ww aa
 rw[CD] at E
 refine AA (AG (.inl O) (AF O O (AD (kp [4] O) (Ab (λaa ww hf hw=>?_)))))
 cases E
 exact Dp hf hw O O G ⟨O,u⟩
theorem M5 (hs:St S L h) {g:Value}{c:Az}(j:Rd S h An g c) {i:Value}{d:Az}(k:Rd S h An i d) {r:Bool}(E:If N c d=some r):
 CG Tryz.prog 43 #[g,i] S h (λv S' h'=>v= .bool r∧St S' (L) h'):=by
 refine BC (l:=[g,i]) 24 Tryz.func43 O Tryz.ntmps43 O λB=>?_
 rw[If] at E
 refine AA (Am (B1 O j (λe=>by cases e) O hs λq1 S2 h3 x K M=>?_))
 have Q:=k.mono K
 refine B1 O Q (λe=>by cases e) O x λq8 S9 U a p m=>AJ 1 (AF O O (AE (AX (kp [3,2] O) (AA (Bn (.inl O) a ?_)))))
 have n:=M.mono p
 refine Ac O n PK NP O λV y=>Af BZ a.1 O y Ae O λW=>Ac O m PK NP O λX z=>Af BZ a.1 O z Ae O λY=>Bd O O O (AB O O (AV 6 16 (.bool ((decide (c.At=d.At))&&(decide (c.To=d.To)))) ?_ ?_))
 ·cases Z:(decide (c.At=d.At))
  ·exact Aa O O
  exact AC O O O (Ac O n Az.f_To KX O λab A=>AC O O O (Af BZ a.1 O A Ae O λac=>AC O O O (Ac O m Az.f_To KX O λad C=>AC O O O (Af BZ a.1 O C Ae O λae=>AC O O O (Bd O O O (AO O O O (AU O)))))))
 refine AB O O ?_
 obtain⟨D,b,E⟩:=bd E
 refine AV 6 23 (.bool D) ?_ ?_
 ·cases s:((decide (c.At=d.At))&&(decide (c.To=d.To)))
  ·have b:=BV s b
   cases b
   exact Aa O O
  have b:=BU s b
  refine AC O O O (Ac O n Az.f_Part KW O λaf F=>AC O O O (Ah BZ a.1 O F BY O λag G=>AC O O O (Ac O m Az.f_Part KW O λah H=>AC O O O (Ah BZ a.1 O H BY O λai I=>AC O O O ?_))))
  obtain⟨aj,t,b⟩:=bd b
  refine Aw O O O Rq O (λh' o=>EZ (St.all h') (G.mono' (o.all a.1)) (I.mono' (o.all a.1)) t) (AO O O O ?_)
  cases b
  exact AU O
 refine AF O O (BK (kp [4] O) λak u J=>Ab (λaa ww hf hw=>?_))
 cases E
 have w:=K.trans (p.trans J)
 exact Dp hf hw O O w ⟨O,u⟩
theorem Mg (hs:St S L h) {k:Value}{t:Al}(w:Rd S h CL k t) {m:Value}{u:Al}(z:Rd S h CL m u) {r:Bool}(E:KZ N t u=some r):
 CG Tryz.prog 20 #[k,m] S h (λv S' h'=>v= .bool r∧St S' (L) h'):=by
 refine BC (l:=[k,m]) 52 Tryz.func20 O Tryz.ntmps20 O λB=>?_
 rw[KZ] at E
 refine AA (Am (B1 O w (λe=>by cases e) O hs λq1 S2 h3 aj e5 k6=>?_))
 have k7:=z.mono e5
 refine B1 O k7 (λe=>by cases e) O aj λq8 S9 D a F n=>AJ 1 (AF O O (AE (AX (kp [3,2] O) (AA (Bn (.inl O) a ?_)))))
 have s:=k6.mono F
 refine Ac O s Al.f_Hour ID O λbh ak=>Af BZ a.1 O ak Ae O λbi=>Ac O n Al.f_Hour ID O λbj al=>Af BZ a.1 O al Ae O λbk=>Bd O O O (AB O O ?_)
 obtain⟨G,b,E⟩:=bd E
 refine AV 6 16 (.bool G) ?_ ?_
 ·cases H:(decide (t.Hour=u.Hour))
  ·have b:=BV H b
   cases b
   exact Aa O O
  have b:=BU H b
  refine AC O O O (Ac O s JA D3 O λbl am=>AC O O O (Ah BZ a.1 O am G3 O λbm an=>AC O O O (Ac O n JA D3 O λbn ao=>AC O O O (Ah BZ a.1 O ao G3 O λbo ap=>AC O O O ?_))))
  have I:Rd S9 D (AN.fnr Tryz.prog (λS h vs (x:((List Int)×(List Int)))=>∃A C:Value,vs=[A,C]∧Sl S h AN.int A x.1∧Sl S h AN.int C x.2) (λS h v (y:Bool)=>v= .bool y)) (.func (.func 41) #[] #[]) (λx=>C2 N x.1 x.2):=Jj 41 #[] Rq λS' h' s' e' L hs x y vs h1 h2=>by obtain⟨A,C,rfl,a0,a1⟩:=h1;exact(EZ hs a0 a1 h2).mono λ_ _ _ _ p=>p
  obtain⟨bp,J,b⟩:=bd b
  refine Aw O O O bM O (λh' o=>IM (St.all h') (an.mono' (o.all a.1)) (ap.mono' (o.all a.1)) (I.mono (o.all a.1)) J) (AO O O O ?_)
  cases b
  exact AU O
 refine AB O O ?_
 obtain⟨K,c,E⟩:=bd E
 refine AV 6 23 (.bool K) ?_ ?_
 ·cases M:G
  ·have c:=BV M c
   cases c
   exact Aa O O
  have c:=BU M c
  refine AC O O O (Ac O s I9 JS O λbq aq=>AC O O O (Ah BZ a.1 O aq BY O λbr ar=>AC O O O (Ac O n I9 JS O λbs au=>AC O O O (Ah BZ a.1 O au BY O λbt av=>AC O O O ?_))))
  obtain⟨bu,Q,c⟩:=bd c
  refine Aw O O O Rq O (λh' o=>EZ (St.all h') (ar.mono' (o.all a.1)) (av.mono' (o.all a.1)) Q) (AO O O O ?_)
  cases c
  exact AU O
 refine AB O O ?_
 obtain⟨U,d,E⟩:=bd E
 refine AV 6 30 (.bool U) ?_ ?_
 ·cases V:K
  ·have d:=BV V d
   cases d
   exact Aa O O
  have d:=BU V d
  refine AC O O O (Ac O s IA JR O λbv aw=>AC O O O (Ah BZ a.1 O aw Kk O λbw ax=>AC O O O (Ac O n IA JR O λbx ay=>AC O O O (Ah BZ a.1 O ay Kk O λbz az=>AC O O O ?_))))
  have W:Rd S9 D (AN.fnr Tryz.prog (λS h vs (x:(Az×Az))=>∃A C:Value,vs=[A,C]∧Rd S h An A x.1∧Rd S h An C x.2) (λS h v (y:Bool)=>v= .bool y)) (.func (.func 43) #[] #[]) (λx=>If N x.1 x.2):=Jj 43 #[] bK λS' h' s' e' L hs x y vs h1 h2=>by obtain⟨A,C,rfl,a0,a1⟩:=h1;exact(M5 hs a0 a1 h2).mono λ_ _ _ _ p=>p
  obtain⟨b0,X,d⟩:=bd d
  refine Aw O O O bL O (λh' o=>DV (St.all h') (ax.mono' (o.all a.1)) (az.mono' (o.all a.1)) (W.mono (o.all a.1)) X) (AO O O O ?_)
  cases d
  exact AU O
 refine AB O O ?_
 obtain⟨Y,g,E⟩:=bd E
 refine AV 6 37 (.bool Y) ?_ ?_
 ·cases Z:U
  ·have g:=BV Z g
   cases g
   exact Aa O O
  have g:=BU Z g
  refine AC O O O (Ac O s GY Fb O λb1 a2=>AC O O O (Ah BZ a.1 O a2 IQ O λb2 a3=>AC O O O (Ac O n GY Fb O λb3 a4=>AC O O O (Ah BZ a.1 O a4 IQ O λb4 a5=>AC O O O ?_))))
  obtain⟨b5,ab,g⟩:=bd g
  refine Aw O O O bJ O (λh' o=>Gf (St.all h') (a3.mono' (o.all a.1)) (a5.mono' (o.all a.1)) ab) (AO O O O ?_)
  cases g
  exact AU O
 refine AB O O ?_
 obtain⟨ac,i,E⟩:=bd E
 refine AV 6 44 (.bool ac) ?_ ?_
 ·cases ad:Y
  ·have i:=BV ad i
   cases i
   exact Aa O O
  have i:=BU ad i
  refine AC O O O (Ac O s Jk Jz O λb6 a6=>AC O O O (Ah BZ a.1 O a6 BY O λb7 a7=>AC O O O (Ac O n Jk Jz O λb8 a8=>AC O O O (Ah BZ a.1 O a8 BY O λb9 a9=>AC O O O ?_))))
  obtain⟨ca,ae,i⟩:=bd i
  refine Aw O O O Rq O (λh' o=>EZ (St.all h') (a7.mono' (o.all a.1)) (a9.mono' (o.all a.1)) ae) (AO O O O ?_)
  cases i
  exact AU O
 refine AB O O ?_
 obtain⟨ba,j,E⟩:=bd E
 refine AV 6 51 (.bool ba) ?_ ?_
 ·cases af:ac
  ·have j:=BV af j
   cases j
   exact Aa O O
  have j:=BU af j
  refine AC O O O (Ac O s J2 I0 O λcb bb=>AC O O O (Ah BZ a.1 O bb BY O λcc bc=>AC O O O (Ac O n J2 I0 O λcd be=>AC O O O (Ah BZ a.1 O be BY O λce bf=>AC O O O ?_))))
  obtain⟨cf,ag,j⟩:=bd j
  refine Aw O O O Rq O (λh' o=>EZ (St.all h') (bc.mono' (o.all a.1)) (bf.mono' (o.all a.1)) ag) (AO O O O ?_)
  cases j
  exact AU O
 refine AF O O (BK (kp [4] O) λcg ah bg=>Ab (λaa ww hf hw=>?_))
 cases E
 have ai:=e5.trans (F.trans bg)
 exact Dp hf hw O O ai ⟨O,ah⟩
theorem LW (hs:St S L h) {r:Bool}(E:GA N=some r):
 CG Tryz.prog 9 #[] S h (λv S' h'=>v= .bool r∧St S' (L) h'):=by
 refine BC (l:=[]) 176 Tryz.func9 O Tryz.ntmps9 O λB=>?_
 rw[GA] at E
 refine AA (AG (.inl O) (AF O O (AD OG (AA (Am ?_)))))
 obtain⟨y1,sa,E⟩:=bd E
 refine Cr O O O bV O (LD hs sa) λv2 S3 h4 e5 p=>?_
 obtain⟨k7,sc⟩:=p
 refine Cg XE O sc λb9 bat m9 fl=>?_
 have sd:=k7.mono fl
 obtain⟨a7,a8,a9,ba,bb,bc,be,bf,rfl,eb,c0,ec,c1,c2,c3,c4,c5,c6,c7,ed⟩:=B0.ex sd
 refine Ge (vs:=[.string y1.Name,a7,.int .i64 y1.Cells,a8,a9,ba,bb,bc,be,bf,.int .i64 y1.Err]) (cs':=[.string y1.Name,a7,.int .i64 y1.Cells,a8,a9,ba,bb,bc,be,bf,.int .i64 y1.Err]) O O O (AH O (AH c0.one (AH O (AH c1.one (AH c2.one (AH c3.one (AH c4.one (AH c5.one (AH c6.one (AH c7.one (AH O D2))))))))))) Gp O m9 .head O O λbau gw ak=>AX (kp [1] O) (AA (Am (AJ 1 (Cj (vs:=[.string y1.Name,a7,.int .i64 y1.Cells,a8,a9,ba,bb,bc,be,bf,.int .i64 y1.Err]) A3 gw O mh O O Gp O O (AE ?_)))))
 have se:=c0.mono' ak
 have sf:=c1.mono' ak
 have sg:=c2.mono' ak
 have sh:=c3.mono' ak
 have si:=c4.mono' ak
 have sj:=c5.mono' ak
 have sk:=c6.mono' ak
 have sm:=c7.mono' ak
 obtain⟨ad,na,E⟩:=bd E
 refine Cr O O O bW O (Oh gw (B0.mk (x:=y1) eb se ec sf sg sh si sj sk sm ed) (iq (n:=5) O) na) λbav baw bax c8 p=>?_
 obtain⟨sn,nb⟩:=p
 refine Cg Nw O nb λee bay nc cn=>?_
 have so:=sn.mono cn
 obtain⟨bg,bh,bi,bj,bk,bl,rfl,ef,co,c9,da,db,dc,dd⟩:=CL.ex so
 refine Ge (vs:=[.int .i64 ad.Hour,bg,bh,bi,bj,bk,bl]) (cs':=[.int .i64 ad.Hour,bg,bh,bi,bj,bk,bl]) O O O (AH O (AH co.one (AH c9.one (AH da.one (AH db.one (AH dc.one (AH dd.one D2))))))) Gn O nc .head O O λbaz g F=>AX (kp [2,1] O) (AA (AA (Bn (.inl O) g (Cj (vs:=[.string y1.Name,a7,.int .i64 y1.Cells,a8,a9,ba,bb,bc,be,bf,.int .i64 y1.Err]) BZ g O (mt mh) O O Gp O O ?_))))
 have av:=ak.trans (c8.trans (cn.trans F))
 have sp:=c0.mono' av
 have sq:=c1.mono' av
 have sr:=c2.mono' av
 have ss:=c3.mono' av
 have su:=c4.mono' av
 have sv:=c5.mono' av
 have sw:=c6.mono' av
 have sx:=c7.mono' av
 obtain⟨sy,nd,E⟩:=bd E
 refine Aw O O O Xp O (λh' o=>LP (St.all h') (B0.mk (x:=y1) eb (sp.mono' (o.all g.1)) ec (sq.mono' (o.all g.1)) (sr.mono' (o.all g.1)) (ss.mono' (o.all g.1)) (su.mono' (o.all g.1)) (sv.mono' (o.all g.1)) (sw.mono' (o.all g.1)) (sx.mono' (o.all g.1)) ed) nd) (Bv O O (AB O O ?_))
 obtain⟨hr,aw,E⟩:=bd E
 refine AV 5 23 (.bool hr) ?_ ?_
 ·cases ne:(!sy)
  ·have aw:=BV ne aw
   refine AC O O O (Cj (vs:=[.string y1.Name,a7,.int .i64 y1.Cells,a8,a9,ba,bb,bc,be,bf,.int .i64 y1.Err]) BZ g O (mt mh) O O Gp O O (AC O O O (Cj (vs:=[.int .i64 ad.Hour,bg,bh,bi,bj,bk,bl]) BZ g O mh O O Gn O O (AC O O O ?_))))
   have ax:=ak.trans (c8.trans (cn.trans F))
   have sz:=c0.mono' ax
   have s0:=c1.mono' ax
   have s1:=c2.mono' ax
   have s2:=c3.mono' ax
   have s3:=c4.mono' ax
   have s4:=c5.mono' ax
   have s5:=c6.mono' ax
   have s6:=c7.mono' ax
   have s7:=co.mono' F
   have s8:=c9.mono' F
   have s9:=da.mono' F
   have nf:=db.mono' F
   have ng:=dc.mono' F
   have nh:=dd.mono' F
   obtain⟨v6,ht,aw⟩:=bd aw
   refine Aw O O O Vm O (λh' o=>J7 (St.all h') (B0.mk (x:=y1) eb (sz.mono' (o.all g.1)) ec (s0.mono' (o.all g.1)) (s1.mono' (o.all g.1)) (s2.mono' (o.all g.1)) (s3.mono' (o.all g.1)) (s4.mono' (o.all g.1)) (s5.mono' (o.all g.1)) (s6.mono' (o.all g.1)) ed) (CL.mk (x:=ad) ef (s7.mono' (o.all g.1)) (s8.mono' (o.all g.1)) (s9.mono' (o.all g.1)) (nf.mono' (o.all g.1)) (ng.mono' (o.all g.1)) (nh.mono' (o.all g.1))) ht) (AC O O O (Bv O O (AO O O O ?_)))
   cases aw
   exact AU O
  have aw:=BU ne aw
  cases aw
  exact Aa O O
 refine AB O O (AV 5 29 (.bool (hr||(decide ((↑ad.Own.length:Int)≠1)))) ?_ ?_)
 ·cases v7:hr
  ·refine AC O O O (AL O D3 O (AC O O O (AS BZ g O mh O G3 O (AC O O O ?_))))
   have ni:=co.mono' F
   exact Ag O ni E8 O λv8=>AC O O O (CH O O O (AO O O O (AU O)))
  exact Aa O O
 refine BK (kp [29,2,1] O) λv9 b2 I=>AW O (λeg=>?_) (λeg=>?_)
 ·have E:=BU eg E
  refine AA (AG (.inl O) (AF O O (AD (kp [0] O) (Ab (λaa ww hf hw=>?_)))))
  have hu:=b2.sel [] 2 O
  cases E
  have hv:=e5.trans (fl.trans (ak.trans (c8.trans (cn.trans (F.trans I)))))
  exact Dp hf hw O O hv ⟨O,hu⟩
 have E:=BV eg E
 refine AT (AA (Am (AJ 3 (Cj (vs:=[.string y1.Name,a7,.int .i64 y1.Cells,a8,a9,ba,bb,bc,be,bf,.int .i64 y1.Err]) A3 b2 O (mt mh) O O Gp O O (Cj (vs:=[.int .i64 ad.Hour,bg,bh,bi,bj,bk,bl]) A3 b2 O mh O O Gn O O (HX (cs:=[.slice none 0 0,.slice none 0 0,.slice none 0 0,.slice none 0 0,.slice none 0 0]) XP O O O (AE ?_)))))))
 have ab:=ak.trans (c8.trans (cn.trans (F.trans I)))
 have nj:=c0.mono' ab
 have nk:=c1.mono' ab
 have nl:=c2.mono' ab
 have nm:=c3.mono' ab
 have nn:=c4.mono' ab
 have no:=c5.mono' ab
 have np:=c6.mono' ab
 have nq:=c7.mono' ab
 have nr:=co.mono' (F.trans I)
 have ns:=c9.mono' (F.trans I)
 have nt:=da.mono' (F.trans I)
 have nu:=db.mono' (F.trans I)
 have nv:=dc.mono' (F.trans I)
 have nw:=dd.mono' (F.trans I)
 obtain⟨i,hx,E⟩:=bd E
 refine Cr O O O Vn O (Kd b2 (B0.mk (x:=y1) eb nj ec nk nl nm nn no np nq ed) (CL.mk (x:=ad) ef nr ns nt nu nv nw) (FV.mk (x:=(⟨[],[],[],[],[]⟩:Ca)) (.inl ⟨O,O⟩) (.inl ⟨O,O⟩) (.inl ⟨O,O⟩) (.inl ⟨O,O⟩) (.inl ⟨O,O⟩)) hx) λwa wb wc bm p=>?_
 obtain⟨wd,eh,ei,rfl,nx,hy⟩:=p
 refine AJ 4 (AB O O (CJ O O O (CJ O O O (CJ O O O (AE (Cg Nw O hy λbx we hz ay=>?_))))))
 have ny:=nx.mono ay
 obtain⟨az,a0,a1,a2,a3,a4,rfl,ej,ap,d4,d5,d6,d7,bn⟩:=CL.ex ny
 refine Ge (vs:=[.int .i64 i.1.Hour,az,a0,a1,a2,a3,a4]) (cs':=[.int .i64 i.1.Hour,az,a0,a1,a2,a3,a4]) O O O (AH O (AH ap.one (AH d4.one (AH d5.one (AH d6.one (AH d7.one (AH bn.one D2))))))) Gn O hz .head O O λwf de J=>AJ 2 (AF O O (AF O O (AE (AX (kp [5,4,3,2,1] O) (AA (Am (AJ 3 (Cj (vs:=[.string y1.Name,a7,.int .i64 y1.Cells,a8,a9,ba,bb,bc,be,bf,.int .i64 y1.Err]) A3 de O (mt (mt (mt (mt mh)))) O O Gp O O (Cj (vs:=[.int .i64 ad.Hour,bg,bh,bi,bj,bk,bl]) A3 de O (mt (mt (mt mh))) O O Gn O O (HX (cs:=[.int .i64 0,.int .i64 1,.int .i64 60,.int .i64 (-1)]) ZU O O O (AE (Dw (cs:=[.int .i64 0,.int .i64 1,.int .i64 60,.int .i64 (-1)]) Z9 O O O O O O O de λnz wg h0 K=>AJ 1 ?_))))))))))))
 have h1:=h0.bxos (r:=FJ) (l:=([(⟨0,1,60,(-1)⟩:Hw)]:List Hw)) .head ⟨_,_,O,⟨O,⟨(iq (n:=0) O),(iq (n:=1) O),(iq (n:=60) O),(iq (n:=(-1)) O)⟩⟩,O⟩ (by simp [maxLen])
 obtain⟨wh,h2,M,n0⟩:=h1.pubs .head
 refine HX (cs:=[.slice none 0 0,.slice none 0 0,.slice none 0 0,(.slice (some ⟨nz,0,none⟩) 1 1),.slice none 0 0]) XP O O O (AE ?_)
 have ae:=ab.trans (bm.trans (ay.trans (J.trans (K.trans M))))
 have n1:=c0.mono' ae
 have n2:=c1.mono' ae
 have n3:=c2.mono' ae
 have n4:=c3.mono' ae
 have n5:=c4.mono' ae
 have n6:=c5.mono' ae
 have n7:=c6.mono' ae
 have n8:=c7.mono' ae
 have aq:=F.trans (I.trans (bm.trans (ay.trans (J.trans (K.trans M)))))
 have n9:=co.mono' aq
 have oa:=c9.mono' aq
 have ob:=da.mono' aq
 have oc:=db.mono' aq
 have od:=dc.mono' aq
 have oe:=dd.mono' aq
 obtain⟨y,h3,E⟩:=bd E
 refine Cr O O O Vn O (Kd h2 (B0.mk (x:=y1) eb n1 ec n2 n3 n4 n5 n6 n7 n8 ed) (CL.mk (x:=ad) ef n9 oa ob oc od oe) (FV.mk (x:=(⟨[],[],[],([(⟨0,1,60,(-1)⟩:Hw)]:List Hw),[]⟩:Ca)) (.inl ⟨O,O⟩) (.inl ⟨O,O⟩) (.inl ⟨O,O⟩) n0 (.inl ⟨O,O⟩)) h3) λwi gx wj ac p=>?_
 obtain⟨wk,cp,ek,rfl,og,h5⟩:=p
 refine AJ 4 (AB O O (CJ O O O (CJ O O O (CJ O O O (AE (Cg Nw O h5 λcq wl h6 Z=>?_))))))
 have oh:=og.mono Z
 obtain⟨cr,ct,cu,cv,cw,cx,rfl,wm,el,oi,oj,ok,ol,om⟩:=CL.ex oh
 refine Ge (vs:=[.int .i64 y.1.Hour,cr,ct,cu,cv,cw,cx]) (cs':=[.int .i64 y.1.Hour,cr,ct,cu,cv,cw,cx]) O O O (AH O (AH el.one (AH oi.one (AH oj.one (AH ok.one (AH ol.one (AH om.one D2))))))) Gn O h6 .head O O λgz d Q=>AJ 2 (AF O O (AF O O (AE (AX (kp [7,6,5,4,3,2,1] O) (AA (AA (AG (.inl O) (AB O O (LJ d (mt (mt (mt (mt mh)))) O Ha O λwn=>CH O O O (AB O O (AV 4 55 (.bool ((decide ((↑i.2.1.length:Int)≠2))||(decide ((↑y.2.1.length:Int)≠2)))) ?_ ?_)))))))))))
 ·cases wo:(decide ((↑i.2.1.length:Int)≠2))
  ·exact AC O O O (AB O O (AC O O O (LJ d (mt mh) O Ha O λwp=>AC O O O (CH O O O (AO O O O (AU O))))))
  exact Aa O O
 refine AB O O (AV 5 61 (.bool (((decide ((↑i.2.1.length:Int)≠2))||(decide ((↑y.2.1.length:Int)≠2)))||(decide ((↑i.1.Own.length:Int)≠1)))) ?_ ?_)
 ·cases wq:((decide ((↑i.2.1.length:Int)≠2))||(decide ((↑y.2.1.length:Int)≠2)))
  ·refine AC O O O (AL O D3 O (AC O O O (AS A3 d O (mt (mt (mt mh))) O G3 O (AC O O O ?_))))
   have h7:=J.trans (K.trans (M.trans (ac.trans (Z.trans Q))))
   have oo:=ap.mono' h7
   exact Ag O oo E8 O λwr=>AC O O O (CH O O O (AO O O O (AU O)))
  exact Aa O O
 refine AB O O (AV 5 67 (.bool ((((decide ((↑i.2.1.length:Int)≠2))||(decide ((↑y.2.1.length:Int)≠2)))||(decide ((↑i.1.Own.length:Int)≠1)))||(decide ((↑y.1.Own.length:Int)≠1)))) ?_ ?_)
 ·cases ws:(((decide ((↑i.2.1.length:Int)≠2))||(decide ((↑y.2.1.length:Int)≠2)))||(decide ((↑i.1.Own.length:Int)≠1)))
  ·refine AC O O O (AL O D3 O (AC O O O (AS A3 d O mh O G3 O (AC O O O ?_))))
   have op:=el.mono' Q
   exact Ag O op E8 O λwt=>AC O O O (CH O O O (AO O O O (AU O)))
  exact Aa O O
 refine AD (kp [67,7,6,5,4,3,2,1] O) (AW O (λem=>?_) (λem=>?_))
 ·have E:=BU em E
  refine AA (AG (.inl O) (AF O O (AD (kp [0] O) (Ab (λaa ww hf hw=>?_)))))
  have h8:=d.sel [] 8 O
  cases E
  have h9:=e5.trans (fl.trans (ak.trans (c8.trans (cn.trans (F.trans (I.trans (bm.trans (ay.trans (J.trans (K.trans (M.trans (ac.trans (Z.trans Q)))))))))))))
  exact Dp hf hw O O h9 ⟨O,h8⟩
 have E:=BV em E
 refine AT (AA ?_)
 obtain⟨wu,bo,E⟩:=bd E
 obtain⟨oq,bp,E⟩:=bd E
 obtain⟨wv,z,E⟩:=bd E
 obtain⟨wx,G,E⟩:=bd E
 obtain⟨wy,t,E⟩:=bd E
 obtain⟨a5,H,E⟩:=bd E
 refine GW (λa w=>IV B gx gz (176,[]) a w [(9,.bool a5),(7,cp),(6,.pointer (some ⟨cq,0,none⟩)),(3,.pointer (some ⟨bx,0,none⟩)),(2,.pointer (some ⟨ee,0,none⟩)),(1,.pointer (some ⟨b9,0,none⟩))] (Bx cq 36 [.int .i64 y.1.Hour,cr,ct,cu,cv,cw,cx]::OS BT 50 cp y.2.1::OS AN.int 3 ek y.2.2::Bx bx 36 [.int .i64 i.1.Hour,az,a0,a1,a2,a3,a4]::OS BT 50 eh i.2.1::OS AN.int 3 ei i.2.2::Bx ee 36 [.int .i64 ad.Hour,bg,bh,bi,bj,bk,bl]::Bx b9 31 [.string y1.Name,a7,.int .i64 y1.Cells,a8,a9,ba,bb,bc,be,bf,.int .i64 y1.Err]::L) λ_ _=>True) ?_ ?_
 ·rcases WA (decide (oq.Way=(-1))) with a6|a6
  ·have z:=BV a6 z
   have os:=Option.some.inj z
   subst os
   have ot:=Option.some.inj G
   subst ot
   have ou:=Option.some.inj t
   subst ou
   have ov:=Option.some.inj H
   subst ov
   refine Am (AJ 1 (AB O O (AE (AJ 1 (A5 d (mt (mt (mt (mt mh)))) O O Ha bo O λwz ia=>AE (AJ 1 (GX O ia Ie O λw0 ib=>AE (AJ 1 ?_))))))))
   have ow:=d.epAt (mt (mt (mt (mt mh)))) bp FT ib
   refine Af A3 (λ_ x=>x) O ow Ae O λw1=>AE (AJ 1 (Bd O O O (AE (GM a6 (AJ 1 (AB O O (AE (AJ 1 (A7 O O O O O (AE (AJ 1 (A7 O O O O O (AE (AJ 1 (A7 O O O O O (AE (AJ 1 (A7 O O O O O (AE (AJ 1 (A7 O O O O O (AE (AJ 1 (A7 O O O O O (AE (AJ 1 (AO O O O (AE ?_))))))))))))))))))))))))))))
   refine AJ 1 (AB O O (AE (AJ 1 (A7 O O O O O (AE (AJ 1 (A7 O O O O O (AE (AJ 1 (A7 O O O O O (AE (AJ 1 (A7 O O O O O (AE (AJ 1 (A7 O O O O O (AE (AJ 1 (AO O O O (AE (AJ 1 (AB O O (AE (AJ 1 (A7 O O O O O (AE (AJ 1 (A7 O O O O O (AE ?_)))))))))))))))))))))))))))))
   refine AJ 1 (A7 O O O O O (AE (AJ 1 (A7 O O O O O (AE (AJ 1 (A7 O O O O O (AE (AJ 1 (A7 O O O O O (AE (AJ 1 (AO O O O (AE (AJ 1 (AB O O (AE (AJ 1 (A7 O O O O O (AE (AJ 1 (A7 O O O O O (AE (AJ 1 (A7 O O O O O (AE (AJ 1 (AO O O O (AE ?_)))))))))))))))))))))))))))))
   exact AJ 1 (AF O O (AE (AX (kp [9,7,6,3,2,1] O) (WF.nil (λaa ww hf hw=>⟨_,_,hf.sub (kp [9,7,6,3,2,1] O),hw,d,(B8.refl gx gz),trivial⟩)))))
  have z:=BU a6 z
  obtain⟨w2,b3,z⟩:=bd z
  obtain⟨w3,b4,z⟩:=bd z
  obtain⟨ox,b5,z⟩:=bd z
  have oy:=Option.some.inj z
  subst oy
  rcases WA ox with bq|bq
  ·have G:=BV bq G
   have oz:=Option.some.inj G
   subst oz
   have o0:=Option.some.inj t
   subst o0
   have o1:=Option.some.inj H
   subst o1
   refine Am (AJ 1 (AB O O (AE (AJ 1 (A5 d (mt (mt (mt (mt mh)))) O O Ha bo O λw4 ic=>AE (AJ 1 (GX O ic Ie O λw5 id=>AE (AJ 1 ?_))))))))
   have o2:=d.epAt (mt (mt (mt (mt mh)))) bp FT id
   refine Af A3 (λ_ x=>x) O o2 Ae O λw6=>AE (AJ 1 (Bd O O O (AE (GM a6 (AJ 1 (AB O O (AE (AJ 1 (AC O O O (AB O O (AE (AJ 1 (AC O O O (A5 d (mt (mt (mt (mt mh)))) O O Ha b3 O λw7 ie=>AE (AJ 1 (AC O O O (GX O ie Iz O λw8 ig=>AE (AJ 1 (AC O O O ?_)))))))))))))))))))
   have o3:=d.epAt (mt (mt (mt (mt mh)))) b4 Av.f_Part ig
   refine Ah A3 (λ_ x=>x) O o3 BY O λw9 o4=>AE (Fp O O O (Dw (cs:=[.int .i64 10,.int .i64 5]) E4 O O O O O O O d λxa xb ih g0=>Fp O O O ?_))
   have ii:=ih.bxos (r:=AN.int) (l:=([10,5]:List Int)) .head ⟨_,_,O,⟨O,(iq (n:=10) O)⟩,⟨_,_,O,⟨O,(iq (n:=5) O)⟩,O⟩⟩ (by simp [maxLen])
   obtain⟨xc,df,g1,o5⟩:=ii.pubs .head
   have o6:=o4.mono' (g0.trans g1)
   refine Bb O O O Ia O df (BE (St.all _) (o6.mono (λb hb=>df.1 b hb) (λ_ _=>rfl)) (o5.mono (λb hb=>df.1 b hb) (λ_ _=>rfl)) b5) λxd xe xf ij o7 xg p=>?_
   obtain⟨rfl,ta⟩:=p
   refine GM bq (AJ 1 (AO O O O (AE (AJ 1 (AB O O (AE (AJ 1 (A7 O O O O O (AE (AJ 1 (A7 O O O O O (AE (AJ 1 (A7 O O O O O (AE (AJ 1 (A7 O O O O O (AE (AJ 1 (A7 O O O O O (AE (AJ 1 (AO O O O (AE (AJ 1 (AB O O (AE (AJ 1 (A7 O O O O O ?_)))))))))))))))))))))))))))))
   refine AE (AJ 1 (A7 O O O O O (AE (AJ 1 (A7 O O O O O (AE (AJ 1 (A7 O O O O O (AE (AJ 1 (A7 O O O O O (AE (AJ 1 (A7 O O O O O (AE (AJ 1 (AO O O O (AE (AJ 1 (AB O O (AE (AJ 1 (A7 O O O O O (AE (AJ 1 (A7 O O O O O (AE (AJ 1 (A7 O O O O O ?_)))))))))))))))))))))))))))))
   refine AE (AJ 1 (AO O O O (AE (AJ 1 (AF O O (AE (AX (kp [9,7,6,3,2,1] O) ?_)))))))
   have ik:=g0.trans (g1.trans o7)
   exact WF.nil (λaa ww hf hw=>⟨_,_,hf.sub (kp [9,7,6,3,2,1] O),hw,ij,ik,trivial⟩)
  have G:=BU bq G
  obtain⟨xh,dg,G⟩:=bd G
  obtain⟨o8,dh,G⟩:=bd G
  have o9:=Option.some.inj G
  subst o9
  rcases WA (decide (o8.Way=(-2))) with bz|bz
  ·have t:=BV bz t
   have pa:=Option.some.inj t
   subst pa
   have pb:=Option.some.inj H
   subst pb
   refine Am (AJ 1 (AB O O (AE (AJ 1 (A5 d (mt (mt (mt (mt mh)))) O O Ha bo O λxi il=>AE (AJ 1 (GX O il Ie O λxj im=>AE (AJ 1 ?_))))))))
   have pc:=d.epAt (mt (mt (mt (mt mh)))) bp FT im
   refine Af A3 (λ_ x=>x) O pc Ae O λxk=>AE (AJ 1 (Bd O O O (AE (GM a6 (AJ 1 (AB O O (AE (AJ 1 (AC O O O (AB O O (AE (AJ 1 (AC O O O (A5 d (mt (mt (mt (mt mh)))) O O Ha b3 O λxl io=>AE (AJ 1 (AC O O O (GX O io Iz O λxm ip=>AE (AJ 1 (AC O O O ?_)))))))))))))))))))
   have pd:=d.epAt (mt (mt (mt (mt mh)))) b4 Av.f_Part ip
   refine Ah A3 (λ_ x=>x) O pd BY O λxn pe=>AE (Fp O O O (Dw (cs:=[.int .i64 10,.int .i64 5]) E4 O O O O O O O d λxo xp ir g2=>Fp O O O ?_))
   have it:=ir.bxos (r:=AN.int) (l:=([10,5]:List Int)) .head ⟨_,_,O,⟨O,(iq (n:=10) O)⟩,⟨_,_,O,⟨O,(iq (n:=5) O)⟩,O⟩⟩ (by simp [maxLen])
   obtain⟨xq,di,g3,pf⟩:=it.pubs .head
   have pg:=pe.mono' (g2.trans g3)
   refine Bb O O O Ia O di (BE (St.all _) (pg.mono (λb hb=>di.1 b hb) (λ_ _=>rfl)) (pf.mono (λb hb=>di.1 b hb) (λ_ _=>rfl)) b5) λxr xs xt dj ph xu p=>?_
   obtain⟨rfl,tb⟩:=p
   refine GM bq (AJ 1 (AO O O O (AE (AJ 1 (AB O O (AE (AJ 1 (AC O O O (AB O O (AE (AJ 1 (AC O O O (A5 dj (mt (mt (mt (mt mh)))) O O Ha dg O λxv iu=>AE (AJ 1 (AC O O O (GX O iu Ie O λxw iv=>AE (AJ 1 (AC O O O ?_))))))))))))))))))
   have pi:=dj.epAt (mt (mt (mt (mt mh)))) dh FT iv
   refine Af A3 (λ_ x=>x) O pi Ae O λxx=>AE (AJ 1 (AC O O O (Bd O O O (AE (GM bz (AJ 1 (AO O O O (AE (AJ 1 (AB O O (AE (AJ 1 (A7 O O O O O (AE (AJ 1 (A7 O O O O O (AE (AJ 1 (A7 O O O O O (AE (AJ 1 (A7 O O O O O (AE (AJ 1 (A7 O O O O O (AE (AJ 1 (A7 O O O O O ?_))))))))))))))))))))))))))))
   refine AE (AJ 1 (AO O O O (AE (AJ 1 (AB O O (AE (AJ 1 (A7 O O O O O (AE (AJ 1 (A7 O O O O O (AE (AJ 1 (A7 O O O O O (AE (AJ 1 (AO O O O (AE (AJ 1 (AF O O (AE (AX (kp [9,7,6,3,2,1] O) ?_))))))))))))))))))))))
   have iw:=g2.trans (g3.trans ph)
   exact WF.nil (λaa ww hf hw=>⟨_,_,hf.sub (kp [9,7,6,3,2,1] O),hw,dj,iw,trivial⟩)
  have t:=BU bz t
  obtain⟨xy,en,t⟩:=bd t
  obtain⟨xz,eo,t⟩:=bd t
  obtain⟨pj,ep,t⟩:=bd t
  have pk:=Option.some.inj t
  subst pk
  rcases WA pj with cy|cy
  ·have H:=BV cy H
   have pl:=Option.some.inj H
   subst pl
   refine Am (AJ 1 (AB O O (AE (AJ 1 (A5 d (mt (mt (mt (mt mh)))) O O Ha bo O λx0 iy=>AE (AJ 1 (GX O iy Ie O λx1 iz=>AE (AJ 1 ?_))))))))
   have pm:=d.epAt (mt (mt (mt (mt mh)))) bp FT iz
   refine Af A3 (λ_ x=>x) O pm Ae O λx2=>AE (AJ 1 (Bd O O O (AE (GM a6 (AJ 1 (AB O O (AE (AJ 1 (AC O O O (AB O O (AE (AJ 1 (AC O O O (A5 d (mt (mt (mt (mt mh)))) O O Ha b3 O λx3 i0=>AE (AJ 1 (AC O O O (GX O i0 Iz O λx4 i1=>AE (AJ 1 (AC O O O ?_)))))))))))))))))))
   have pn:=d.epAt (mt (mt (mt (mt mh)))) b4 Av.f_Part i1
   refine Ah A3 (λ_ x=>x) O pn BY O λx5 po=>AE (Fp O O O (Dw (cs:=[.int .i64 10,.int .i64 5]) E4 O O O O O O O d λx6 x7 i2 g4=>Fp O O O ?_))
   have i3:=i2.bxos (r:=AN.int) (l:=([10,5]:List Int)) .head ⟨_,_,O,⟨O,(iq (n:=10) O)⟩,⟨_,_,O,⟨O,(iq (n:=5) O)⟩,O⟩⟩ (by simp [maxLen])
   obtain⟨x8,dk,g5,pp⟩:=i3.pubs .head
   have pq:=po.mono' (g4.trans g5)
   refine Bb O O O Ia O dk (BE (St.all _) (pq.mono (λb hb=>dk.1 b hb) (λ_ _=>rfl)) (pp.mono (λb hb=>dk.1 b hb) (λ_ _=>rfl)) b5) λx9 ya yc br pr yd p=>?_
   obtain⟨rfl,tc⟩:=p
   refine GM bq (AJ 1 (AO O O O (AE (AJ 1 (AB O O (AE (AJ 1 (AC O O O (AB O O (AE (AJ 1 (AC O O O (A5 br (mt (mt (mt (mt mh)))) O O Ha dg O λye i4=>AE (AJ 1 (AC O O O (GX O i4 Ie O λyf i5=>AE (AJ 1 (AC O O O ?_))))))))))))))))))
   have ps:=br.epAt (mt (mt (mt (mt mh)))) dh FT i5
   refine Af A3 (λ_ x=>x) O ps Ae O λyg=>AE (AJ 1 (AC O O O (Bd O O O (AE (GM bz (AJ 1 (AO O O O (AE (AJ 1 (AB O O (AE (AJ 1 (AC O O O (AB O O (AE (AJ 1 (AC O O O (A5 br (mt (mt (mt (mt mh)))) O O Ha en O λyh i6=>AE (AJ 1 (AC O O O (GX O i6 Iz O λyi i7=>AE (AJ 1 (AC O O O ?_)))))))))))))))))))))))
   have pt:=br.epAt (mt (mt (mt (mt mh)))) eo Av.f_Part i7
   refine Ah A3 (λ_ x=>x) O pt BY O λyj pu=>AE (Fp O O O (Dw (cs:=[.int .i64 10,.int .i64 5]) E4 O O O O O O O br λyk yl i8 g6=>Fp O O O ?_))
   have i9:=i8.bxos (r:=AN.int) (l:=([10,5]:List Int)) .head ⟨_,_,O,⟨O,(iq (n:=10) O)⟩,⟨_,_,O,⟨O,(iq (n:=5) O)⟩,O⟩⟩ (by simp [maxLen])
   obtain⟨ym,dl,g7,pv⟩:=i9.pubs .head
   have pw:=pu.mono' (g6.trans g7)
   refine Bb O O O Ia O dl (BE (St.all _) (pw.mono (λb hb=>dl.1 b hb) (λ_ _=>rfl)) (pv.mono (λb hb=>dl.1 b hb) (λ_ _=>rfl)) ep) λyn yo yp ja px yq p=>?_
   obtain⟨rfl,td⟩:=p
   refine GM cy (AJ 1 (AO O O O (AE (AJ 1 (AB O O (AE (AJ 1 (A7 O O O O O (AE (AJ 1 (A7 O O O O O (AE (AJ 1 (A7 O O O O O (AE (AJ 1 (AO O O O (AE (AJ 1 (AF O O (AE (AX (kp [9,7,6,3,2,1] O) ?_))))))))))))))))))))))
   have jb:=g4.trans (g5.trans (pr.trans (g6.trans (g7.trans px))))
   exact WF.nil (λaa ww hf hw=>⟨_,_,hf.sub (kp [9,7,6,3,2,1] O),hw,ja,jb,trivial⟩)
  have H:=BU cy H
  obtain⟨yr,jc,H⟩:=bd H
  have py:=Option.some.inj H
  subst py
  refine Am (AJ 1 (AB O O (AE (AJ 1 (A5 d (mt (mt (mt (mt mh)))) O O Ha bo O λys jd=>AE (AJ 1 (GX O jd Ie O λyt je=>AE (AJ 1 ?_))))))))
  have pz:=d.epAt (mt (mt (mt (mt mh)))) bp FT je
  refine Af A3 (λ_ x=>x) O pz Ae O λyu=>AE (AJ 1 (Bd O O O (AE (GM a6 (AJ 1 (AB O O (AE (AJ 1 (AC O O O (AB O O (AE (AJ 1 (AC O O O (A5 d (mt (mt (mt (mt mh)))) O O Ha b3 O λyv jf=>AE (AJ 1 (AC O O O (GX O jf Iz O λyw jg=>AE (AJ 1 (AC O O O ?_)))))))))))))))))))
  have p0:=d.epAt (mt (mt (mt (mt mh)))) b4 Av.f_Part jg
  refine Ah A3 (λ_ x=>x) O p0 BY O λyx p1=>AE (Fp O O O (Dw (cs:=[.int .i64 10,.int .i64 5]) E4 O O O O O O O d λyy yz jh g8=>Fp O O O ?_))
  have ji:=jh.bxos (r:=AN.int) (l:=([10,5]:List Int)) .head ⟨_,_,O,⟨O,(iq (n:=10) O)⟩,⟨_,_,O,⟨O,(iq (n:=5) O)⟩,O⟩⟩ (by simp [maxLen])
  obtain⟨y0,dm,g9,p2⟩:=ji.pubs .head
  have p3:=p1.mono' (g8.trans g9)
  refine Bb O O O Ia O dm (BE (St.all _) (p3.mono (λb hb=>dm.1 b hb) (λ_ _=>rfl)) (p2.mono (λb hb=>dm.1 b hb) (λ_ _=>rfl)) b5) λy2 y3 y4 bs p4 y5 p=>?_
  obtain⟨rfl,te⟩:=p
  refine GM bq (AJ 1 (AO O O O (AE (AJ 1 (AB O O (AE (AJ 1 (AC O O O (AB O O (AE (AJ 1 (AC O O O (A5 bs (mt (mt (mt (mt mh)))) O O Ha dg O λy6 jj=>AE (AJ 1 (AC O O O (GX O jj Ie O λy7 jk=>AE (AJ 1 (AC O O O ?_))))))))))))))))))
  have p5:=bs.epAt (mt (mt (mt (mt mh)))) dh FT jk
  refine Af A3 (λ_ x=>x) O p5 Ae O λy8=>AE (AJ 1 (AC O O O (Bd O O O (AE (GM bz (AJ 1 (AO O O O (AE (AJ 1 (AB O O (AE (AJ 1 (AC O O O (AB O O (AE (AJ 1 (AC O O O (A5 bs (mt (mt (mt (mt mh)))) O O Ha en O λy9 jl=>AE (AJ 1 (AC O O O (GX O jl Iz O λza jm=>AE (AJ 1 (AC O O O ?_)))))))))))))))))))))))
  have p6:=bs.epAt (mt (mt (mt (mt mh)))) eo Av.f_Part jm
  refine Ah A3 (λ_ x=>x) O p6 BY O λzb p7=>AE (Fp O O O (Dw (cs:=[.int .i64 10,.int .i64 5]) E4 O O O O O O O bs λzc zd jn ha=>Fp O O O ?_))
  have jo:=jn.bxos (r:=AN.int) (l:=([10,5]:List Int)) .head ⟨_,_,O,⟨O,(iq (n:=10) O)⟩,⟨_,_,O,⟨O,(iq (n:=5) O)⟩,O⟩⟩ (by simp [maxLen])
  obtain⟨ze,dn,hc,p8⟩:=jo.pubs .head
  have p9:=p7.mono' (ha.trans hc)
  refine Bb O O O Ia O dn (BE (St.all _) (p9.mono (λb hb=>dn.1 b hb) (λ_ _=>rfl)) (p8.mono (λb hb=>dn.1 b hb) (λ_ _=>rfl)) ep) λzf zg zh jp qa zi p=>?_
  obtain⟨rfl,tf⟩:=p
  refine GM cy (AJ 1 (AO O O O (AE (AJ 1 (AB O O (AE (AJ 1 (AC O O O (AB O O (AE (Fp O O O (Dw (cs:=[.int .i64 150]) E4 O O O O O O O jp λzj zk jq qb=>Fp O O O ?_))))))))))))
  have jr:=jq.bxos (r:=AN.int) (l:=([150]:List Int)) .head ⟨_,_,O,⟨O,(iq (n:=150) O)⟩,O⟩ (by simp [maxLen])
  obtain⟨zl,dp,qc,qd⟩:=jr.pubs .head
  refine Bb O O O Ia O dp (BE (St.all _) (dp.oslAll (mt (mt (mt (mt (mt mh)))))) (qd.mono (λb hb=>dp.1 b hb) (λ_ _=>rfl)) jc) λzm zn zo js qe zp p=>?_
  obtain⟨rfl,tg⟩:=p
  refine AJ 1 (AO O O O (AE (AJ 1 (AF O O (AE (AX (kp [9,7,6,3,2,1] O) ?_))))))
  have jt:=g8.trans (g9.trans (p4.trans (ha.trans (hc.trans (qa.trans (qb.trans (qc.trans qe)))))))
  exact WF.nil (λaa ww hf hw=>⟨_,_,hf.sub (kp [9,7,6,3,2,1] O),hw,js,jt,trivial⟩)
 rintro aa ww ⟨qf,qg,hf,hw,A,af,_⟩
 refine Ad ?_ hf hw
 clear hf hw ww aa
 refine AA ?_
 obtain⟨zq,b6,E⟩:=bd E
 obtain⟨qh,b7,E⟩:=bd E
 obtain⟨zr,ag,E⟩:=bd E
 obtain⟨zs,am,E⟩:=bd E
 obtain⟨b0,C,E⟩:=bd E
 refine GW (λa w=>IV B qf qg (176,[]) a w [(10,.bool b0),(9,.bool a5),(7,cp),(6,.pointer (some ⟨cq,0,none⟩)),(3,.pointer (some ⟨bx,0,none⟩)),(2,.pointer (some ⟨ee,0,none⟩)),(1,.pointer (some ⟨b9,0,none⟩))] (Bx cq 36 [.int .i64 y.1.Hour,cr,ct,cu,cv,cw,cx]::OS BT 50 cp y.2.1::OS AN.int 3 ek y.2.2::Bx bx 36 [.int .i64 i.1.Hour,az,a0,a1,a2,a3,a4]::OS BT 50 eh i.2.1::OS AN.int 3 ei i.2.2::Bx ee 36 [.int .i64 ad.Hour,bg,bh,bi,bj,bk,bl]::Bx b9 31 [.string y1.Name,a7,.int .i64 y1.Cells,a8,a9,ba,bb,bc,be,bf,.int .i64 y1.Err]::L) λ_ _=>True) ?_ ?_
 ·rcases WA qh with bt|bt
  ·have ag:=BV bt ag
   have qi:=Option.some.inj ag
   subst qi
   have qj:=Option.some.inj am
   subst qj
   have qk:=Option.some.inj C
   subst qk
   refine Am (AJ 1 (AL O D3 O (AE (AJ 1 (AS A3 A O (mt (mt (mt mh))) O G3 O (AE (AJ 1 ?_)))))))
   have ju:=J.trans (K.trans (M.trans (ac.trans (Z.trans (Q.trans af)))))
   have ql:=ap.mono' ju
   refine A8 O O ql E8 b6 O λzt qm=>AE (AJ 1 (Ah A3 A.1 O qm BY O λzu qn=>AE (Dw (cs:=[.int .i64 80,.int .i64 40]) E4 O O O O O O O A λzv zw jv hd=>?_)))
   have jw:=jv.bxos (r:=AN.int) (l:=([80,40]:List Int)) .head ⟨_,_,O,⟨O,(iq (n:=80) O)⟩,⟨_,_,O,⟨O,(iq (n:=40) O)⟩,O⟩⟩ (by simp [maxLen])
   obtain⟨zx,dq,he,qo⟩:=jw.pubs .head
   have qp:=qn.mono' (hd.trans he)
   refine Bb O O O Ia O dq (BE (St.all _) (qp.mono (λb hb=>dq.1 b hb) (λ_ _=>rfl)) (qo.mono (λb hb=>dq.1 b hb) (λ_ _=>rfl)) b7) λzy zz z0 jx qq z1 p=>?_
   obtain⟨rfl,th⟩:=p
   refine GM bt (AJ 1 (AB O O (AE (AJ 1 (A7 O O O O O (AE (AJ 1 (A7 O O O O O (AE (AJ 1 (A7 O O O O O (AE (AJ 1 (A7 O O O O O (AE (AJ 1 (AO O O O (AE (AJ 1 (AB O O (AE (AJ 1 (A7 O O O O O (AE (AJ 1 (A7 O O O O O (AE (AJ 1 (A7 O O O O O ?_)))))))))))))))))))))))))))))
   refine AE (AJ 1 (AO O O O (AE (AJ 1 (AB O O (AE (AJ 1 (A7 O O O O O (AE (AJ 1 (A7 O O O O O (AE (AJ 1 (A7 O O O O O (AE (AJ 1 (A7 O O O O O (AE (AJ 1 (AO O O O (AE (AJ 1 (AF O O (AE (AX (kp [10,9,7,6,3,2,1] O) ?_)))))))))))))))))))))))))
   have jy:=hd.trans (he.trans qq)
   exact WF.nil (λaa ww hf hw=>⟨_,_,hf.sub (kp [10,9,7,6,3,2,1] O),hw,jx,jy,trivial⟩)
  have ag:=BU bt ag
  obtain⟨qr,dr,ag⟩:=bd ag
  have qs:=Option.some.inj ag
  subst qs
  rcases WA qr with b1|b1
  ·have am:=BV b1 am
   have qt:=Option.some.inj am
   subst qt
   have qu:=Option.some.inj C
   subst qu
   refine Am (AJ 1 (AL O D3 O (AE (AJ 1 (AS A3 A O (mt (mt (mt mh))) O G3 O (AE (AJ 1 ?_)))))))
   have eq:=J.trans (K.trans (M.trans (ac.trans (Z.trans (Q.trans af)))))
   have qv:=ap.mono' eq
   refine A8 O O qv E8 b6 O λz2 qw=>AE (AJ 1 (Ah A3 A.1 O qw BY O λz3 qx=>AE (Dw (cs:=[.int .i64 80,.int .i64 40]) E4 O O O O O O O A λz4 z5 jz er=>?_)))
   have j0:=jz.bxos (r:=AN.int) (l:=([80,40]:List Int)) .head ⟨_,_,O,⟨O,(iq (n:=80) O)⟩,⟨_,_,O,⟨O,(iq (n:=40) O)⟩,O⟩⟩ (by simp [maxLen])
   obtain⟨z6,ds,es,qy⟩:=j0.pubs .head
   have q0:=qx.mono' (er.trans es)
   refine Bb O O O Ia O ds (BE (St.all _) (q0.mono (λb hb=>ds.1 b hb) (λ_ _=>rfl)) (qy.mono (λb hb=>ds.1 b hb) (λ_ _=>rfl)) b7) λz7 z8 z9 et hg aaa p=>?_
   obtain⟨rfl,ti⟩:=p
   refine GM bt (AJ 1 (AB O O (AE (AJ 1 (AC O O O (AL O I0 O (AE (AJ 1 (AC O O O (AS A3 et O (mt (mt (mt mh))) O BY O (AE (Fp O O O (Dw (cs:=[.int .i64 20,.int .i64 10]) E4 O O O O O O O et λaab aac j1 hh=>Fp O O O ?_)))))))))))))
   have j2:=j1.bxos (r:=AN.int) (l:=([20,10]:List Int)) .head ⟨_,_,O,⟨O,(iq (n:=20) O)⟩,⟨_,_,O,⟨O,(iq (n:=10) O)⟩,O⟩⟩ (by simp [maxLen])
   obtain⟨aad,dt,hi,q1⟩:=j2.pubs .head
   have j3:=eq.trans (er.trans (es.trans (hg.trans (hh.trans hi))))
   have q2:=bn.mono' j3
   refine Bb O O O Ia O dt (BE (St.all _) (q2.mono (λb hb=>dt.1 b hb) (λ_ _=>rfl)) (q1.mono (λb hb=>dt.1 b hb) (λ_ _=>rfl)) dr) λaae aaf aag j4 q3 aah p=>?_
   obtain⟨rfl,tj⟩:=p
   refine GM b1 (AJ 1 (AO O O O (AE (AJ 1 (AB O O (AE (AJ 1 (A7 O O O O O (AE (AJ 1 (A7 O O O O O (AE (AJ 1 (A7 O O O O O (AE (AJ 1 (AO O O O (AE (AJ 1 (AB O O (AE (AJ 1 (A7 O O O O O (AE (AJ 1 (A7 O O O O O (AE (AJ 1 (A7 O O O O O ?_)))))))))))))))))))))))))))))
   refine AE (AJ 1 (A7 O O O O O (AE (AJ 1 (AO O O O (AE (AJ 1 (AF O O (AE (AX (kp [10,9,7,6,3,2,1] O) ?_))))))))))
   have j5:=er.trans (es.trans (hg.trans (hh.trans (hi.trans q3))))
   exact WF.nil (λaa ww hf hw=>⟨_,_,hf.sub (kp [10,9,7,6,3,2,1] O),hw,j4,j5,trivial⟩)
  have am:=BU b1 am
  have q4:=Option.some.inj am
  subst q4
  rcases WA (decide (i.1.Hour=6)) with cz|cz
  ·have C:=BV cz C
   have q5:=Option.some.inj C
   subst q5
   refine Am (AJ 1 (AL O D3 O (AE (AJ 1 (AS A3 A O (mt (mt (mt mh))) O G3 O (AE (AJ 1 ?_)))))))
   have eu:=J.trans (K.trans (M.trans (ac.trans (Z.trans (Q.trans af)))))
   have q6:=ap.mono' eu
   refine A8 O O q6 E8 b6 O λaai q7=>AE (AJ 1 (Ah A3 A.1 O q7 BY O λaaj q8=>AE (Dw (cs:=[.int .i64 80,.int .i64 40]) E4 O O O O O O O A λaak aal j6 ev=>?_)))
   have j7:=j6.bxos (r:=AN.int) (l:=([80,40]:List Int)) .head ⟨_,_,O,⟨O,(iq (n:=80) O)⟩,⟨_,_,O,⟨O,(iq (n:=40) O)⟩,O⟩⟩ (by simp [maxLen])
   obtain⟨aam,du,ew,q9⟩:=j7.pubs .head
   have ra:=q8.mono' (ev.trans ew)
   refine Bb O O O Ia O du (BE (St.all _) (ra.mono (λb hb=>du.1 b hb) (λ_ _=>rfl)) (q9.mono (λb hb=>du.1 b hb) (λ_ _=>rfl)) b7) λaan aao aap ey hj aaq p=>?_
   obtain⟨rfl,tk⟩:=p
   refine GM bt (AJ 1 (AB O O (AE (AJ 1 (AC O O O (AL O I0 O (AE (AJ 1 (AC O O O (AS A3 ey O (mt (mt (mt mh))) O BY O (AE (Fp O O O (Dw (cs:=[.int .i64 20,.int .i64 10]) E4 O O O O O O O ey λaar aas j8 hk=>Fp O O O ?_)))))))))))))
   have j9:=j8.bxos (r:=AN.int) (l:=([20,10]:List Int)) .head ⟨_,_,O,⟨O,(iq (n:=20) O)⟩,⟨_,_,O,⟨O,(iq (n:=10) O)⟩,O⟩⟩ (by simp [maxLen])
   obtain⟨aat,dv,hl,rd⟩:=j9.pubs .head
   have ka:=eu.trans (ev.trans (ew.trans (hj.trans (hk.trans hl))))
   have re:=bn.mono' ka
   refine Bb O O O Ia O dv (BE (St.all _) (re.mono (λb hb=>dv.1 b hb) (λ_ _=>rfl)) (rd.mono (λb hb=>dv.1 b hb) (λ_ _=>rfl)) dr) λaau aav aaw ez rf aax p=>?_
   obtain⟨rfl,tl⟩:=p
   refine GM b1 (AJ 1 (AO O O O (AE (AJ 1 (AB O O (AE (AJ 1 (AC O O O (AL O ID O (AE (AJ 1 (AC O O O (AS A3 ez O (mt (mt (mt mh))) O Ae O (AE (AJ 1 (AC O O O (Bd O O O (AE (GM cz (AJ 1 (AO O O O (AE (AJ 1 (AB O O (AE (AJ 1 (A7 O O O O O (AE (AJ 1 ?_)))))))))))))))))))))))))))))
   refine A7 O O O O O (AE (AJ 1 (A7 O O O O O (AE (AJ 1 (A7 O O O O O (AE (AJ 1 (AO O O O (AE (AJ 1 (AF O O (AE (AX (kp [10,9,7,6,3,2,1] O) ?_))))))))))))))
   have kb:=ev.trans (ew.trans (hj.trans (hk.trans (hl.trans rf))))
   exact WF.nil (λaa ww hf hw=>⟨_,_,hf.sub (kp [10,9,7,6,3,2,1] O),hw,ez,kb,trivial⟩)
  have C:=BU cz C
  obtain⟨aay,kc,C⟩:=bd C
  obtain⟨aaz,kd,C⟩:=bd C
  have rg:=Option.some.inj C
  subst rg
  refine Am (AJ 1 (AL O D3 O (AE (AJ 1 (AS A3 A O (mt (mt (mt mh))) O G3 O (AE (AJ 1 ?_)))))))
  have e0:=J.trans (K.trans (M.trans (ac.trans (Z.trans (Q.trans af)))))
  have rh:=ap.mono' e0
  refine A8 O O rh E8 b6 O λaa0 ri=>AE (AJ 1 (Ah A3 A.1 O ri BY O λaa1 rj=>AE (Dw (cs:=[.int .i64 80,.int .i64 40]) E4 O O O O O O O A λaa2 aa3 ke e1=>?_)))
  have kf:=ke.bxos (r:=AN.int) (l:=([80,40]:List Int)) .head ⟨_,_,O,⟨O,(iq (n:=80) O)⟩,⟨_,_,O,⟨O,(iq (n:=40) O)⟩,O⟩⟩ (by simp [maxLen])
  obtain⟨aa4,dw,e2,rk⟩:=kf.pubs .head
  have rm:=rj.mono' (e1.trans e2)
  refine Bb O O O Ia O dw (BE (St.all _) (rm.mono (λb hb=>dw.1 b hb) (λ_ _=>rfl)) (rk.mono (λb hb=>dw.1 b hb) (λ_ _=>rfl)) b7) λaa5 aa6 aa7 e3 hm aa8 p=>?_
  obtain⟨rfl,tm⟩:=p
  refine GM bt (AJ 1 (AB O O (AE (AJ 1 (AC O O O (AL O I0 O (AE (AJ 1 (AC O O O (AS A3 e3 O (mt (mt (mt mh))) O BY O (AE (Fp O O O (Dw (cs:=[.int .i64 20,.int .i64 10]) E4 O O O O O O O e3 λaa9 baa kg hn=>Fp O O O ?_)))))))))))))
  have kh:=kg.bxos (r:=AN.int) (l:=([20,10]:List Int)) .head ⟨_,_,O,⟨O,(iq (n:=20) O)⟩,⟨_,_,O,⟨O,(iq (n:=10) O)⟩,O⟩⟩ (by simp [maxLen])
  obtain⟨bab,dx,ho,rn⟩:=kh.pubs .head
  have an:=e0.trans (e1.trans (e2.trans (hm.trans (hn.trans ho))))
  have ro:=bn.mono' an
  refine Bb O O O Ia O dx (BE (St.all _) (ro.mono (λb hb=>dx.1 b hb) (λ_ _=>rfl)) (rn.mono (λb hb=>dx.1 b hb) (λ_ _=>rfl)) dr) λbac bad bae Y bu baf p=>?_
  obtain⟨rfl,tn⟩:=p
  refine GM b1 (AJ 1 (AO O O O (AE (AJ 1 (AB O O (AE (AJ 1 (AC O O O (AL O ID O (AE (AJ 1 (AC O O O (AS A3 Y O (mt (mt (mt mh))) O Ae O (AE (AJ 1 (AC O O O (Bd O O O (AE (GM cz (AJ 1 (AO O O O (AE (AJ 1 (AB O O (AE (AJ 1 (AC O O O (Cj (vs:=[.int .i64 i.1.Hour,az,a0,a1,a2,a3,a4]) A3 Y O (mt (mt (mt mh))) O O Gn O O (AE ?_)))))))))))))))))))))))))))))
  refine Fp O O O ?_
  have rq:=ap.mono' (an.trans bu)
  have rr:=d4.mono' (an.trans bu)
  have rs:=d5.mono' (an.trans bu)
  have rt:=d6.mono' (an.trans bu)
  have ru:=d7.mono' (an.trans bu)
  have rv:=bn.mono' (an.trans bu)
  refine Bb O O O bX O Y (Og (St.all _) (CL.mk (x:=i.1) ej (rq.mono (λb hb=>Y.1 b hb) (λ_ _=>rfl)) (rr.mono (λb hb=>Y.1 b hb) (λ_ _=>rfl)) (rs.mono (λb hb=>Y.1 b hb) (λ_ _=>rfl)) (rt.mono (λb hb=>Y.1 b hb) (λ_ _=>rfl)) (ru.mono (λb hb=>Y.1 b hb) (λ_ _=>rfl)) (rv.mono (λb hb=>Y.1 b hb) (λ_ _=>rfl))) kc) λbag bah bai tp rx ry p=>?_
  have ki:=p
  have e4:=Y.join ry ki ⟨OS.flat (λ{_ _ _ _ _ _} k=>k),trivial⟩
  simp only[List.cons_append,List.nil_append] at e4
  refine Fp O O O (Dw (cs:=[.int .i64 80,.int .i64 40]) E4 O O O O O O O e4 λbaj bak kj rz=>Fp O O O ?_)
  have kk:=kj.bxos (r:=AN.int) (l:=([80,40]:List Int)) .head ⟨_,_,O,⟨O,(iq (n:=80) O)⟩,⟨_,_,O,⟨O,(iq (n:=40) O)⟩,O⟩⟩ (by simp [maxLen])
  obtain⟨bal,dy,r0,r1⟩:=kk.pubs .head
  refine Bb O O O Ia O dy (BE (St.all _) (dy.oslAll mh) (r1.mono (λb hb=>dy.1 b hb) (λ_ _=>rfl)) kd) λbam ban bao kl r2 bap p=>?_
  obtain⟨rfl,tq⟩:=p
  refine AJ 1 (AO O O O (AE (AJ 1 (AF O O (AE (AX (kp [10,9,7,6,3,2,1] O) ?_))))))
  have km:=kl.sel [1,1,1,1,1,1,1,1] 1 O
  have kn:=e1.trans (e2.trans (hm.trans (hn.trans (ho.trans (bu.trans (rx.trans (rz.trans (r0.trans r2))))))))
  exact WF.nil (λaa ww hf hw=>⟨_,_,hf.sub (kp [10,9,7,6,3,2,1] O),hw,km,kn,trivial⟩)
 rintro aa ww ⟨hp,hq,hf,hw,j,bv,_⟩
 refine Ad ?_ hf hw
 clear hf hw ww aa
 refine AA ?_
 obtain⟨baq,b8,E⟩:=bd E
 obtain⟨r3,ca,E⟩:=bd E
 obtain⟨bar,D,E⟩:=bd E
 obtain⟨bas,u,E⟩:=bd E
 obtain⟨dz,m,E⟩:=bd E
 refine GW (λa w=>IV B hp hq (176,[]) a w [(11,.bool dz),(10,.bool b0),(9,.bool a5),(3,.pointer (some ⟨bx,0,none⟩)),(2,.pointer (some ⟨ee,0,none⟩)),(1,.pointer (some ⟨b9,0,none⟩))] (Bx cq 36 [.int .i64 y.1.Hour,cr,ct,cu,cv,cw,cx]::OS BT 50 cp y.2.1::OS AN.int 3 ek y.2.2::Bx bx 36 [.int .i64 i.1.Hour,az,a0,a1,a2,a3,a4]::OS BT 50 eh i.2.1::OS AN.int 3 ei i.2.2::Bx ee 36 [.int .i64 ad.Hour,bg,bh,bi,bj,bk,bl]::Bx b9 31 [.string y1.Name,a7,.int .i64 y1.Cells,a8,a9,ba,bb,bc,be,bf,.int .i64 y1.Err]::L) λ_ _=>True) ?_ ?_
 ·rcases WA (decide (r3.Way=(-3))) with ao|ao
  ·have D:=BV ao D
   have ko:=Option.some.inj D
   subst ko
   have kq:=Option.some.inj u
   subst kq
   have kr:=Option.some.inj m
   subst kr
   refine Am (AJ 1 (AB O O (AE (AJ 1 (A5 j (mt mh) O O Ha b8 O λtr fm=>AE (AJ 1 (GX O fm Ie O λts fn=>AE (AJ 1 ?_))))))))
   have ks:=j.epAt (mt mh) ca FT fn
   refine Af A3 (λ_ x=>x) O ks Ae O λtt=>AE (AJ 1 (Bd O O O (AE (GM ao (AJ 1 (AB O O (AE (AJ 1 (A7 O O O O O (AE (AJ 1 (A7 O O O O O (AE (AJ 1 (A7 O O O O O (AE (AJ 1 (A7 O O O O O (AE (AJ 1 (A7 O O O O O (AE (AJ 1 (A7 O O O O O (AE (AJ 1 (AO O O O (AE ?_))))))))))))))))))))))))))))
   refine AJ 1 (AB O O (AE (AJ 1 (A7 O O O O O (AE (AJ 1 (A7 O O O O O (AE (AJ 1 (A7 O O O O O (AE (AJ 1 (A7 O O O O O (AE (AJ 1 (A7 O O O O O (AE (AJ 1 (A7 O O O O O (AE (AJ 1 (AO O O O (AE (AJ 1 (AB O O (AE (AJ 1 (A7 O O O O O (AE ?_)))))))))))))))))))))))))))))
   exact AJ 1 (A7 O O O O O (AE (AJ 1 (A7 O O O O O (AE (AJ 1 (A7 O O O O O (AE (AJ 1 (A7 O O O O O (AE (AJ 1 (A7 O O O O O (AE (AJ 1 (AO O O O (AE (AJ 1 (AF O O (AE (AX (kp [11,10,9,3,2,1] O) (WF.nil (λaa ww hf hw=>⟨_,_,hf.sub (kp [11,10,9,3,2,1] O),hw,j,(B8.refl hp hq),trivial⟩)))))))))))))))))))))))
  have D:=BU ao D
  obtain⟨tu,cb,D⟩:=bd D
  obtain⟨tv,cc,D⟩:=bd D
  obtain⟨kt,cd,D⟩:=bd D
  have ku:=Option.some.inj D
  subst ku
  rcases WA kt with ar|ar
  ·have u:=BV ar u
   have kv:=Option.some.inj u
   subst kv
   have kw:=Option.some.inj m
   subst kw
   refine Am (AJ 1 (AB O O (AE (AJ 1 (A5 j (mt mh) O O Ha b8 O λtw fo=>AE (AJ 1 (GX O fo Ie O λtx fp=>AE (AJ 1 ?_))))))))
   have kx:=j.epAt (mt mh) ca FT fp
   refine Af A3 (λ_ x=>x) O kx Ae O λty=>AE (AJ 1 (Bd O O O (AE (GM ao (AJ 1 (AB O O (AE (AJ 1 (AC O O O (AB O O (AE (AJ 1 (AC O O O (A5 j (mt mh) O O Ha cb O λtz fq=>AE (AJ 1 (AC O O O (GX O fq Iz O λt0 fr=>AE (AJ 1 (AC O O O ?_)))))))))))))))))))
   have ky:=j.epAt (mt mh) cc Av.f_Part fr
   refine Ah A3 (λ_ x=>x) O ky BY O λt1 kz=>AE (Fp O O O (Dw (cs:=[.int .i64 0,.int .i64 50]) E4 O O O O O O O j λt2 t3 fs e6=>Fp O O O ?_))
   have ft:=fs.bxos (r:=AN.int) (l:=([0,50]:List Int)) .head ⟨_,_,O,⟨O,(iq (n:=0) O)⟩,⟨_,_,O,⟨O,(iq (n:=50) O)⟩,O⟩⟩ (by simp [maxLen])
   obtain⟨t4,ce,e7,k0⟩:=ft.pubs .head
   have k1:=kz.mono' (e6.trans e7)
   refine Bb O O O Ia O ce (BE (St.all _) (k1.mono (λb hb=>ce.1 b hb) (λ_ _=>rfl)) (k0.mono (λb hb=>ce.1 b hb) (λ_ _=>rfl)) cd) λt5 t6 t7 fu k2 t8 p=>?_
   obtain⟨rfl,r4⟩:=p
   refine GM ar (AJ 1 (AO O O O (AE (AJ 1 (AB O O (AE (AJ 1 (A7 O O O O O (AE (AJ 1 (A7 O O O O O (AE (AJ 1 (A7 O O O O O (AE (AJ 1 (A7 O O O O O (AE (AJ 1 (A7 O O O O O (AE (AJ 1 (A7 O O O O O (AE (AJ 1 (AO O O O (AE (AJ 1 (AB O O ?_)))))))))))))))))))))))))))))
   refine AE (AJ 1 (A7 O O O O O (AE (AJ 1 (A7 O O O O O (AE (AJ 1 (A7 O O O O O (AE (AJ 1 (A7 O O O O O (AE (AJ 1 (A7 O O O O O (AE (AJ 1 (A7 O O O O O (AE (AJ 1 (AO O O O (AE (AJ 1 (AF O O (AE (AX (kp [11,10,9,3,2,1] O) ?_)))))))))))))))))))))))))
   have fv:=e6.trans (e7.trans k2)
   exact WF.nil (λaa ww hf hw=>⟨_,_,hf.sub (kp [11,10,9,3,2,1] O),hw,fu,fv,trivial⟩)
  have u:=BU ar u
  obtain⟨t9,d8,u⟩:=bd u
  obtain⟨ua,d9,u⟩:=bd u
  obtain⟨k3,ea,u⟩:=bd u
  have k4:=Option.some.inj u
  subst k4
  rcases WA k3 with bw|bw
  ·have m:=BV bw m
   have k5:=Option.some.inj m
   subst k5
   refine Am (AJ 1 (AB O O (AE (AJ 1 (A5 j (mt mh) O O Ha b8 O λub fw=>AE (AJ 1 (GX O fw Ie O λuc fx=>AE (AJ 1 ?_))))))))
   have k6:=j.epAt (mt mh) ca FT fx
   refine Af A3 (λ_ x=>x) O k6 Ae O λud=>AE (AJ 1 (Bd O O O (AE (GM ao (AJ 1 (AB O O (AE (AJ 1 (AC O O O (AB O O (AE (AJ 1 (AC O O O (A5 j (mt mh) O O Ha cb O λue fy=>AE (AJ 1 (AC O O O (GX O fy Iz O λuf fz=>AE (AJ 1 (AC O O O ?_)))))))))))))))))))
   have k8:=j.epAt (mt mh) cc Av.f_Part fz
   refine Ah A3 (λ_ x=>x) O k8 BY O λug k9=>AE (Fp O O O (Dw (cs:=[.int .i64 0,.int .i64 50]) E4 O O O O O O O j λuh ui f0 e8=>Fp O O O ?_))
   have f1:=f0.bxos (r:=AN.int) (l:=([0,50]:List Int)) .head ⟨_,_,O,⟨O,(iq (n:=0) O)⟩,⟨_,_,O,⟨O,(iq (n:=50) O)⟩,O⟩⟩ (by simp [maxLen])
   obtain⟨uj,cf,e9,la⟩:=f1.pubs .head
   have lb:=k9.mono' (e8.trans e9)
   refine Bb O O O Ia O cf (BE (St.all _) (lb.mono (λb hb=>cf.1 b hb) (λ_ _=>rfl)) (la.mono (λb hb=>cf.1 b hb) (λ_ _=>rfl)) cd) λuk ul um cg lc un p=>?_
   obtain⟨rfl,r5⟩:=p
   refine GM ar (AJ 1 (AO O O O (AE (AJ 1 (AB O O (AE (AJ 1 (AC O O O (AB O O (AE (AJ 1 (AC O O O (A5 cg (mt mh) O O Ha d8 O λuo f2=>AE (AJ 1 (AC O O O (GX O f2 Iz O λup f3=>AE (AJ 1 (AC O O O ?_))))))))))))))))))
   have ld:=cg.epAt (mt mh) d9 Av.f_Part f3
   refine Ah A3 (λ_ x=>x) O ld BY O λuq le=>AE (Fp O O O (Dw (cs:=[.int .i64 15,.int .i64 0]) E4 O O O O O O O cg λur us f4 fa=>Fp O O O ?_))
   have f5:=f4.bxos (r:=AN.int) (l:=([15,0]:List Int)) .head ⟨_,_,O,⟨O,(iq (n:=15) O)⟩,⟨_,_,O,⟨O,(iq (n:=0) O)⟩,O⟩⟩ (by simp [maxLen])
   obtain⟨ut,ch,fb,lf⟩:=f5.pubs .head
   have lg:=le.mono' (fa.trans fb)
   refine Bb O O O Ia O ch (BE (St.all _) (lg.mono (λb hb=>ch.1 b hb) (λ_ _=>rfl)) (lf.mono (λb hb=>ch.1 b hb) (λ_ _=>rfl)) ea) λuu uv uw f6 lh ux p=>?_
   obtain⟨rfl,r6⟩:=p
   refine GM bw (AJ 1 (AO O O O (AE (AJ 1 (AB O O (AE (AJ 1 (A7 O O O O O (AE (AJ 1 (A7 O O O O O (AE (AJ 1 (A7 O O O O O (AE (AJ 1 (A7 O O O O O (AE (AJ 1 (A7 O O O O O (AE (AJ 1 (A7 O O O O O (AE (AJ 1 (AO O O O (AE (AJ 1 (AF O O ?_)))))))))))))))))))))))))))))
   refine AE (AX (kp [11,10,9,3,2,1] O) ?_)
   have f7:=e8.trans (e9.trans (lc.trans (fa.trans (fb.trans lh))))
   exact WF.nil (λaa ww hf hw=>⟨_,_,hf.sub (kp [11,10,9,3,2,1] O),hw,f6,f7,trivial⟩)
  have m:=BU bw m
  obtain⟨uy,f8,m⟩:=bd m
  obtain⟨uz,f9,m⟩:=bd m
  have li:=Option.some.inj m
  subst li
  refine Am (AJ 1 (AB O O (AE (AJ 1 (A5 j (mt mh) O O Ha b8 O λu0 ga=>AE (AJ 1 (GX O ga Ie O λu1 gb=>AE (AJ 1 ?_))))))))
  have lj:=j.epAt (mt mh) ca FT gb
  refine Af A3 (λ_ x=>x) O lj Ae O λu2=>AE (AJ 1 (Bd O O O (AE (GM ao (AJ 1 (AB O O (AE (AJ 1 (AC O O O (AB O O (AE (AJ 1 (AC O O O (A5 j (mt mh) O O Ha cb O λu3 gc=>AE (AJ 1 (AC O O O (GX O gc Iz O λu4 gd=>AE (AJ 1 (AC O O O ?_)))))))))))))))))))
  have ll:=j.epAt (mt mh) cc Av.f_Part gd
  refine Ah A3 (λ_ x=>x) O ll BY O λu5 lm=>AE (Fp O O O (Dw (cs:=[.int .i64 0,.int .i64 50]) E4 O O O O O O O j λu6 u7 ge d0=>Fp O O O ?_))
  have gf:=ge.bxos (r:=AN.int) (l:=([0,50]:List Int)) .head ⟨_,_,O,⟨O,(iq (n:=0) O)⟩,⟨_,_,O,⟨O,(iq (n:=50) O)⟩,O⟩⟩ (by simp [maxLen])
  obtain⟨u8,ci,d1,lo⟩:=gf.pubs .head
  have lp:=lm.mono' (d0.trans d1)
  refine Bb O O O Ia O ci (BE (St.all _) (lp.mono (λb hb=>ci.1 b hb) (λ_ _=>rfl)) (lo.mono (λb hb=>ci.1 b hb) (λ_ _=>rfl)) cd) λu9 va vb cj fc vc p=>?_
  obtain⟨rfl,r7⟩:=p
  refine GM ar (AJ 1 (AO O O O (AE (AJ 1 (AB O O (AE (AJ 1 (AC O O O (AB O O (AE (AJ 1 (AC O O O (A5 cj (mt mh) O O Ha d8 O λvd gg=>AE (AJ 1 (AC O O O (GX O gg Iz O λve gh=>AE (AJ 1 (AC O O O ?_))))))))))))))))))
  have lq:=cj.epAt (mt mh) d9 Av.f_Part gh
  refine Ah A3 (λ_ x=>x) O lq BY O λvf lr=>AE (Fp O O O (Dw (cs:=[.int .i64 15,.int .i64 0]) E4 O O O O O O O cj λvg vh gi d2=>Fp O O O ?_))
  have gj:=gi.bxos (r:=AN.int) (l:=([15,0]:List Int)) .head ⟨_,_,O,⟨O,(iq (n:=15) O)⟩,⟨_,_,O,⟨O,(iq (n:=0) O)⟩,O⟩⟩ (by simp [maxLen])
  obtain⟨vi,ck,d3,ls⟩:=gj.pubs .head
  have lt:=lr.mono' (d2.trans d3)
  refine Bb O O O Ia O ck (BE (St.all _) (lt.mono (λb hb=>ck.1 b hb) (λ_ _=>rfl)) (ls.mono (λb hb=>ck.1 b hb) (λ_ _=>rfl)) ea) λvj vk vl cl fd vm p=>?_
  obtain⟨rfl,r8⟩:=p
  refine GM bw (AJ 1 (AO O O O (AE (AJ 1 (AB O O (AE (AJ 1 (AC O O O (AL O D3 O (AE (AJ 1 (AC O O O (AS A3 cl O mh O G3 O (AE (AJ 1 (AC O O O ?_))))))))))))))))
  have gk:=Q.trans (af.trans (bv.trans (d0.trans (d1.trans (fc.trans (d2.trans (d3.trans fd)))))))
  have lu:=el.mono' gk
  refine A8 O O lu E8 f8 O λvn lv=>AE (AJ 1 (AC O O O (Ah A3 cl.1 O lv BY O λvo lw=>AE (Fp O O O (Dw (cs:=[.int .i64 85,.int .i64 0]) E4 O O O O O O O cl λvp vq gl fe=>Fp O O O ?_)))))
  have gm:=gl.bxos (r:=AN.int) (l:=([85,0]:List Int)) .head ⟨_,_,O,⟨O,(iq (n:=85) O)⟩,⟨_,_,O,⟨O,(iq (n:=0) O)⟩,O⟩⟩ (by simp [maxLen])
  obtain⟨vr,cm,ff,lx⟩:=gm.pubs .head
  have ly:=lw.mono' (fe.trans ff)
  refine Bb O O O Ia O cm (BE (St.all _) (ly.mono (λb hb=>cm.1 b hb) (λ_ _=>rfl)) (lx.mono (λb hb=>cm.1 b hb) (λ_ _=>rfl)) f9) λvt vu vv gn lz vw p=>?_
  obtain⟨rfl,r9⟩:=p
  refine AJ 1 (AO O O O (AE (AJ 1 (AF O O (AE (AX (kp [11,10,9,3,2,1] O) ?_))))))
  have gp:=d0.trans (d1.trans (fc.trans (d2.trans (d3.trans (fd.trans (fe.trans (ff.trans lz)))))))
  exact WF.nil (λaa ww hf hw=>⟨_,_,hf.sub (kp [11,10,9,3,2,1] O),hw,gn,gp,trivial⟩)
 rintro aa ww ⟨vx,vy,hf,hw,c,au,_⟩
 refine Ad ?_ hf hw
 clear hf hw ww aa
 refine AA (Bn (.inl O) c (AB O O (AB O O (AV 2 156 (.bool (a5&&b0)) ?_ ?_))))
 ·cases vz:a5
  ·exact Aa O O
  exact AC O O O (AB O O (AO O O O (AU O)))
 refine AB O O (AV 2 159 (.bool ((a5&&b0)&&dz)) ?_ ?_)
 ·cases v0:(a5&&b0)
  ·exact Aa O O
  exact AC O O O (AB O O (AO O O O (AU O)))
 refine AB O O ?_
 obtain⟨fg,U,E⟩:=bd E
 refine AV 4 164 (.bool fg) ?_ ?_
 ·cases fh:((a5&&b0)&&dz)
  ·have U:=BV fh U
   cases U
   exact Aa O O
  have U:=BU fh U
  refine AC O O O (Cj (vs:=[.int .i64 ad.Hour,bg,bh,bi,bj,bk,bl]) BZ c O (mt (mt (mt (mt (mt (mt mh)))))) O O Gn O O (AC O O O (Cj (vs:=[.int .i64 ad.Hour,bg,bh,bi,bj,bk,bl]) BZ c O (mt (mt (mt (mt (mt (mt mh)))))) O O Gn O O (AC O O O ?_))))
  have s:=F.trans (I.trans (bm.trans (ay.trans (J.trans (K.trans (M.trans (ac.trans (Z.trans (Q.trans (af.trans (bv.trans au)))))))))))
  have l0:=co.mono' s
  have l1:=c9.mono' s
  have l2:=da.mono' s
  have l3:=db.mono' s
  have l4:=dc.mono' s
  have l5:=dd.mono' s
  have l6:=co.mono' s
  have l7:=c9.mono' s
  have l8:=da.mono' s
  have l9:=db.mono' s
  have ma:=dc.mono' s
  have mb:=dd.mono' s
  obtain⟨v1,gq,U⟩:=bd U
  refine Aw O O O Xu O (λh' o=>Mg (St.all h') (CL.mk (x:=ad) ef (l0.mono' (o.all c.1)) (l1.mono' (o.all c.1)) (l2.mono' (o.all c.1)) (l3.mono' (o.all c.1)) (l4.mono' (o.all c.1)) (l5.mono' (o.all c.1))) (CL.mk (x:=ad) ef (l6.mono' (o.all c.1)) (l7.mono' (o.all c.1)) (l8.mono' (o.all c.1)) (l9.mono' (o.all c.1)) (ma.mono' (o.all c.1)) (mb.mono' (o.all c.1))) gq) (AO O O O ?_)
  cases U
  exact AU O
 refine AB O O ?_
 obtain⟨fi,V,E⟩:=bd E
 refine AV 5 170 (.bool fi) ?_ ?_
 ·cases fj:fg
  ·have V:=BV fj V
   cases V
   exact Aa O O
  have V:=BU fj V
  refine AC O O O (Cj (vs:=[.int .i64 ad.Hour,bg,bh,bi,bj,bk,bl]) BZ c O (mt (mt (mt (mt (mt (mt mh)))))) O O Gn O O (AC O O O (Cj (vs:=[.int .i64 i.1.Hour,az,a0,a1,a2,a3,a4]) BZ c O (mt (mt (mt mh))) O O Gn O O (AC O O O ?_))))
  have ah:=F.trans (I.trans (bm.trans (ay.trans (J.trans (K.trans (M.trans (ac.trans (Z.trans (Q.trans (af.trans (bv.trans au)))))))))))
  have mc:=co.mono' ah
  have md:=c9.mono' ah
  have me:=da.mono' ah
  have mf:=db.mono' ah
  have mg:=dc.mono' ah
  have mi:=dd.mono' ah
  have ai:=J.trans (K.trans (M.trans (ac.trans (Z.trans (Q.trans (af.trans (bv.trans au)))))))
  have mj:=ap.mono' ai
  have ml:=d4.mono' ai
  have mm:=d5.mono' ai
  have mn:=d6.mono' ai
  have mp:=d7.mono' ai
  have mq:=bn.mono' ai
  obtain⟨v3,gr,V⟩:=bd V
  refine Aw O O O Xu O (λh' o=>Mg (St.all h') (CL.mk (x:=ad) ef (mc.mono' (o.all c.1)) (md.mono' (o.all c.1)) (me.mono' (o.all c.1)) (mf.mono' (o.all c.1)) (mg.mono' (o.all c.1)) (mi.mono' (o.all c.1))) (CL.mk (x:=i.1) ej (mj.mono' (o.all c.1)) (ml.mono' (o.all c.1)) (mm.mono' (o.all c.1)) (mn.mono' (o.all c.1)) (mp.mono' (o.all c.1)) (mq.mono' (o.all c.1))) gr) (AC O O O (Bv O O (AO O O O ?_)))
  cases V
  exact AU O
 refine AB O O ?_
 obtain⟨mr,W,E⟩:=bd E
 refine AV 4 175 (.bool mr) ?_ ?_
 ·cases fk:fi
  ·have W:=BV fk W
   cases W
   exact Aa O O
  have W:=BU fk W
  refine AC O O O (Cj (vs:=[.string y1.Name,a7,.int .i64 y1.Cells,a8,a9,ba,bb,bc,be,bf,.int .i64 y1.Err]) BZ c O (mt (mt (mt (mt (mt (mt (mt mh))))))) O O Gp O O (AC O O O (Cj (vs:=[.int .i64 i.1.Hour,az,a0,a1,a2,a3,a4]) BZ c O (mt (mt (mt mh))) O O Gn O O (AC O O O ?_))))
  have X:=ak.trans (c8.trans (cn.trans (F.trans (I.trans (bm.trans (ay.trans (J.trans (K.trans (M.trans (ac.trans (Z.trans (Q.trans (af.trans (bv.trans au))))))))))))))
  have ms:=c0.mono' X
  have mu:=c1.mono' X
  have mw:=c2.mono' X
  have mx:=c3.mono' X
  have my:=c4.mono' X
  have mz:=c5.mono' X
  have m0:=c6.mono' X
  have m1:=c7.mono' X
  have aj:=J.trans (K.trans (M.trans (ac.trans (Z.trans (Q.trans (af.trans (bv.trans au)))))))
  have m2:=ap.mono' aj
  have m3:=d4.mono' aj
  have m4:=d5.mono' aj
  have m5:=d6.mono' aj
  have m6:=d7.mono' aj
  have m7:=bn.mono' aj
  obtain⟨v4,gs,W⟩:=bd W
  refine Aw O O O Vm O (λh' o=>J7 (St.all h') (B0.mk (x:=y1) eb (ms.mono' (o.all c.1)) ec (mu.mono' (o.all c.1)) (mw.mono' (o.all c.1)) (mx.mono' (o.all c.1)) (my.mono' (o.all c.1)) (mz.mono' (o.all c.1)) (m0.mono' (o.all c.1)) (m1.mono' (o.all c.1)) ed) (CL.mk (x:=i.1) ej (m2.mono' (o.all c.1)) (m3.mono' (o.all c.1)) (m4.mono' (o.all c.1)) (m5.mono' (o.all c.1)) (m6.mono' (o.all c.1)) (m7.mono' (o.all c.1))) gs) (AO O O O ?_)
  cases W
  exact AU O
 refine AF O O (BK (kp [0] O) λv5 gt m8=>Ab (λaa ww hf hw=>?_))
 have gu:=gt.sel [] 8 O
 cases E
 have gv:=e5.trans (fl.trans (ak.trans (c8.trans (cn.trans (F.trans (I.trans (bm.trans (ay.trans (J.trans (K.trans (M.trans (ac.trans (Z.trans (Q.trans (af.trans (bv.trans (au.trans m8)))))))))))))))))
 exact Dp hf hw O O gv ⟨O,gu⟩
end Go.Proofs.YtblcgjadhemlbaaGreat
