import Derived.Test.YtblcgjadhemlbaaGreatRWalk2
namespace Go.Proofs.YtblcgjadhemlbaaGreat
open Go.RowKit
set_option linter.unusedVariables false
set_option linter.unusedSimpArgs false
set_option maxRecDepth 10000
set_option maxHeartbeats 2000000
variable {N:Nat}{S:Nat→Prop}{L:List HP}{h:Aw}
theorem IE (hs:St S L h) {b:Int}(w:AH b) {a:Int}(q:AH a) {c:Int}(s:AH c) {r:Int×Int×Bool}(E:Ez N b a c=some r):
 CL Tryz.prog 88 #[vI b,vI a,vI c] S h (λv S' h'=>v= .tuple #[vI r.1,vI r.2.1,.bool r.2.2]∧AH r.1∧AH r.2.1∧St S' (L) h'):=by
 refine BG (l:=[vI b,vI a,vI c]) 61 Tryz.func88 O Tryz.ntmps88 O λB=>?_
 rw[Ez] at E
 refine AI (AY O (AY O (AK O (kp [0,1,2] O) (AC (AI (AA O (Ar O (AA O (AV 3 18 (.bool ((decide (b<0))||(decide (1125899906842624<b)))) ?_ ?_)))))))))
 ·cases V:(decide (b<0))
  ·exact AB O (AA O (AB O (Bf O (AJ O (AU O)))))
  exact Aa O O
 refine AA O (AV 3 22 (.bool (((decide (b<0))||(decide (1125899906842624<b)))||(decide (a<0)))) ?_ ?_)
 ·cases W:((decide (b<0))||(decide (1125899906842624<b)))
  ·exact AB O (AA O (AB O (Ar O (AJ O (AU O)))))
  exact Aa O O
 refine AA O (AV 3 26 (.bool ((((decide (b<0))||(decide (1125899906842624<b)))||(decide (a<0)))||(decide (1125899906842624<a)))) ?_ ?_)
 ·cases X:(((decide (b<0))||(decide (1125899906842624<b)))||(decide (a<0)))
  ·exact AB O (AA O (AB O (Bf O (AJ O (AU O)))))
  exact Aa O O
 refine AA O (AV 3 30 (.bool (((((decide (b<0))||(decide (1125899906842624<b)))||(decide (a<0)))||(decide (1125899906842624<a)))||(decide (c<1)))) ?_ ?_)
 ·cases Y:((((decide (b<0))||(decide (1125899906842624<b)))||(decide (a<0)))||(decide (1125899906842624<a)))
  ·exact AB O (AA O (AB O (Ar O (AJ O (AU O)))))
  exact Aa O O
 refine AA O (AV 3 34 (.bool ((((((decide (b<0))||(decide (1125899906842624<b)))||(decide (a<0)))||(decide (1125899906842624<a)))||(decide (c<1)))||(decide (1125899906842624<c)))) ?_ ?_)
 ·cases Z:(((((decide (b<0))||(decide (1125899906842624<b)))||(decide (a<0)))||(decide (1125899906842624<a)))||(decide (c<1)))
  ·exact AB O (AA O (AB O (Bf O (AJ O (AU O)))))
  exact Aa O O
 refine AN (kp [34,0,1,2] O) (AW O E (λH E=>?_) (λH E=>?_))
 ·refine AI (AY O (AY O (AK O (kp [8,7,6] O) (Ad (λy z d k=>?_)))))
  cases E
  exact KH d O k (IK (I1 d (v:=_) O) (IK (I1 d (v:=_) O) (IK (I1 d (v:=_) O) KG))) O (CA.refl S h) ⟨O,(iq (n:=0) O),(iq (n:=0) O),hs⟩
 refine AQ (AC (Bq (.inl O) hs (AA O (HW O OG K8 O (AA O (HW O OG K8 O ?_))))))
 obtain⟨x,A,E⟩:=bd E
 refine IF (v:= .tuple #[.int .u64 x.1,.int .u64 x.2]) (Ψ:=IntKind.has .u64 x.1∧IntKind.has .u64 x.2) O O O Y7 O (λh' o=>(KO (St.all h') (EA _ _) (EA _ _) A).mono λ_ _ _ _ p=>⟨p.1,⟨p.2.1,p.2.2.1⟩⟩) λI=>?_
 obtain⟨J,C⟩:=I
 refine AA O (Bo O (Bo O (AY O (AY O (BM (kp [10,9,2] O) λK i m=>AC (AI (AA O (AA O (HW O OG K8 O (Gf O (AN (kp [46,10,9,2] O) (AW O E (λD E=>?_) (λD E=>?_)))))))))))))
 ·refine AI (AY O (AY O (AK O (kp [8,7,6] O) (Ad (λy z d k=>?_)))))
  cases E
  exact KH d O k (IK (I1 d (v:=_) O) (IK (I1 d (v:=_) O) (IK (I1 d (v:=_) O) KG))) O m ⟨O,(iq (n:=0) O),(iq (n:=0) O),i⟩
 refine AQ (AC (Bq (.inl O) i (AA O (AA O (AA O (HW O OG K8 O ?_))))))
 obtain⟨g,t,E⟩:=bd E
 refine IF (v:= .tuple #[.int .u64 g.1,.int .u64 g.2]) (Ψ:=IntKind.has .u64 g.1∧IntKind.has .u64 g.2) O O O Y6 O (λh' o=>(KP (St.all h') J C (EA _ _) t).mono λ_ _ _ _ p=>⟨p.1,⟨p.2.1,p.2.2.1⟩⟩) λF=>?_
 obtain⟨M,Q⟩:=F
 refine AA O (Bo O (Bo O (AY O (AY O (BM (kp [12,11] O) λU j u=>AC (AI (AA O (Bf O (AN (kp [56,12,11] O) (AW O E (λG E=>?_) (λG E=>?_)))))))))))
 ·refine AI (AY O (AY O (AK O (kp [8,7,6] O) (Ad (λy z d k=>?_)))))
  cases E
  exact KH d O k (IK (I1 d (v:=_) O) (IK (I1 d (v:=_) O) (IK (I1 d (v:=_) O) KG))) O (m.trans u) ⟨O,(iq (n:=0) O),(iq (n:=0) O),j⟩
 refine AQ (AI (AA O (HW O K8 OG O (AA O (HW O K8 OG O (AY O (AY O (AK O (kp [8,7,6] O) (Ad (λy z d k=>?_))))))))))
 cases E
 exact KH d O k (IK (I1 d (v:=_) O) (IK (I1 d (v:=_) O) (IK (I1 d (v:=_) O) KG))) O (m.trans u) ⟨O,(BK _),(BK _),j⟩
theorem KJ (hs:St S L h) {d:Value}{i:(List BS)}(s:Sl S h Bv d i) {b:Int}(t:AH b) {r:Int×Bool}(E:HY N i b=some r):
 CL Tryz.prog 102 #[d,vI b] S h (λv S' h'=>v= .tuple #[vI r.1,.bool r.2]∧AH r.1∧St S' (L) h'):=by
 refine BG (l:=[d,vI b]) 63 Tryz.func102 O Tryz.ntmps102 O λB=>?_
 rw[HY] at E
 refine WF.sl (B4 O (M7 s) (λ_=>rfl) O hs λq1 S2 h3 ac e5 k6=>B4 O (⟨_,O,O,t⟩:Rd _ _ AM.int _ b) (λ_=>rfl) O ac λq7 S8 h9 j u D=>AG 2 (AY O (AY O (AF (AZ (kp [3,2] O) (AC (Bq (.inl O) j ?_)))))))
 have w:=k6.mono u
 refine Ao Bd j.1 O w IX O λa2 ad=>An O ad H8 O λae=>OU O O O ?_
 have F:Rd S8 h9 (AM.fn Tryz.prog (λx:Int=>([vI x]:List Value)) (λx:Int=>AH x) (λy:Bool=> .bool y) (λy:Bool=>True)) (.func (.func 111) #[] #[q1,q7]) (λx=>HD N i b x):=Rd.ofFn 111 #[q1,q7] Z8 λS' h' s' e' L hs x y h1 h2=>(N0 hs h1 (w.mono'' s' e') (D.mono'' s' e') h2).mono λ_ _ _ _ p=>⟨p.1,trivial,p.2⟩
 obtain⟨a3,G,E⟩:=bd E
 refine CY O O O Z9 O (λh' o=>Ov (St.all h') (Jl ae) (F.mono (o.all j.1)) G) λaf=>?_
 have a4:=af
 refine AY O (BM (kp [6,3,2] O) λa5 c g=>AC (AI (AA O (BL O (AN (kp [16,6,3,2] O) (AW O E (λag E=>?_) (λag E=>?_)))))))
 ·refine AI (Ao A9 c.1 O (w.mono g) IX O λa6 ah=>?_)
  obtain⟨a7,H,E⟩:=bd E
  refine BE O O ah H8 H O λa8 ai=>Ae O ai Kx IQ O λa9 aj=>Af A9 c.1 O aj Ag O λak=>AY O (AK O (kp [5,4] O) (Ad (λaa ww k I=>?_)))
  cases E
  exact KH k O I (IK (I1 k (v:=_) O) (IK (I1 k (v:=_) O) KG)) O (e5.trans (u.trans g)) ⟨O,ak,c⟩
 refine AQ (WF.sl (AG 5 ?_))
 have J:=w.mono g
 refine Ao A9 c.1 O J IX O λba am=>AA O (Ck O ?_)
 obtain⟨K,M,E⟩:=bd E
 refine BE O O am H8 M O λbb an=>B8 A9 c.1 O an Ob (λe=>by cases e) O λbc ao=>AF (Cp Tu O c λbe bf Q m=>?_)
 obtain⟨rfl,⟨bg,ap⟩⟩:=Bv.ex (ao.mono m)
 refine Du (vs:=[vI K.X,vI K.Y]) O O O O Ob O Q .head O λbh a z=>AZ (kp [7,6,3,2] O) (AC (AI (AA O ?_)))
 have C:=J.mono (m.trans z)
 refine Ao A9 a.1 O C IX O λbi aq=>An O aq H8 O λbj=>BL O (AN (kp [29,7,6,3,2] O) (AW O E (λar E=>?_) (λar E=>?_)))
 ·refine AI (AD IQ O (AS A9 a O mh O Ag O (AY O (AK O (kp [5,4] O) (Ad (λaa ww k I=>?_))))))
  have U:=a.drop .head
  cases E
  exact KH k O I (IK (I1 k (v:=_) O) (IK (I1 k (v:=_) O) KG)) O (e5.trans (u.trans (g.trans (m.trans z)))) ⟨O,ap,U⟩
 refine AQ (AC (Bq (.inr ⟨mo,by kernel_rfl⟩) a (Af Bd a.1 O (D.mono (g.trans (m.trans z))) Ag O λbk=>AD JD O (AS Bd a O mh O Ag O (Ck O (Ao Bd a.1 O C IX O λbl au=>AA O ?_))))))
 obtain⟨bm,V,E⟩:=bd E
 refine BE O O au H8 V O λbn av=>Ae O av Kx IQ O λbo aw=>Af Bd a.1 O aw Ag O λbp=>AD IQ O (AS Bd a O mh O Ag O (Ck O (Ao Bd a.1 O C IX O λbq ax=>AA O ?_)))
 obtain⟨br,W,E⟩:=bd E
 refine BE O O ax H8 W O λbs ay=>Ae O ay Ky JD O λbt az=>Af Bd a.1 O az Ag O λbu=>AD JD O (AS Bd a O mh O Ag O (Ck O ?_))
 obtain⟨n,Z,E⟩:=bd E
 refine IF (v:= .tuple #[vI n.1,vI n.2.1,.bool n.2.2]) (Ψ:=AH n.1∧AH n.2.1) O O O Sz O (λh' o=>(IE (St.all h') (BK _) (BK _) (BK _) Z).mono λ_ _ _ _ p=>⟨p.1,⟨p.2.1,p.2.2.1⟩⟩) λa0=>?_
 obtain⟨bv,bw⟩:=a0
 refine AA O (Bo O (Bo O (Bo O (AY O (AY O (AY O (BM (kp [9,8,7] O) λbx A a1=>AI (AD IQ O (AS A9 A O mh O Ag O (AA O (Ai O (AA O (Bf O (AY O (AK O (kp [5,4] O) (Ad (λaa ww k I=>?_)))))))))))))))))
 have ab:=A.drop .head
 cases E
 exact KH k O I (IK (I1 k (v:=_) O) (IK (I1 k (v:=_) O) KG)) O (e5.trans (u.trans (g.trans (m.trans (z.trans a1))))) ⟨O,(BK _),ab⟩
theorem L3 (hs:St S L h) {b:Value}{i:(List BS)}(k:Sl S h Bv b i) {c:Value}{j:(List BS)}(m:Sl S h Bv c j) {r:Bool}(E:Gk N i j=some r):
 CL Tryz.prog 93 #[b,c] S h (λv S' h'=>v= .bool r∧St S' (L) h'):=by
 refine BG (l:=[b,c]) 66 Tryz.func93 O Tryz.ntmps93 O λB=>?_
 rw[Gk] at E
 refine AI (AK O (kp [0,1] O) (AC (AC (Bq (.inl O) hs (AA O ?_)))))
 obtain⟨y1,ay,E⟩:=bd E
 refine A6 O O O P3 O (λh' o=>GR (St.all h') (k.mono' (o.all hs.1)) ay) (BY O (AA O ?_))
 obtain⟨b4,t,E⟩:=bd E
 refine AV 4 20 (.bool b4) ?_ ?_
 ·cases c3:(!y1)
  ·have t:=F5 c3 t
   refine AB O (AA O (AB O ?_))
   obtain⟨y5,az,t⟩:=bd t
   refine A6 O O O P3 O (λh' o=>GR (St.all h') (m.mono' (o.all hs.1)) az) (AB O (BY O (AJ O ?_)))
   cases t
   exact AU O
  have t:=Fy c3 t
  cases t
  exact Aa O O
 refine BM (kp [20,0,1] O) λh7 ad U=>AW O E (λa0 E=>?_) (λa0 E=>?_)
 ·refine AI (AK O (kp [4] O) (Ad (λp s d g=>?_)))
  cases E
  exact Dx d g O O U ⟨O,ad⟩
 refine AQ (AC (AI (AA O ?_)))
 have ae:=k.mono' U
 refine An O ae H8 O λbf=>AA O (AN (kp [23,22,21,0,1] O) (Am (λa w=>IV B S h7 (66,[]) a w [(0,b),(1,c)] (L) λ_ _=>FO N i j=some r) ?_ ?_))
 ·refine A5 (λn1=>λa w=>∃(z:Int),IV B S h7 (66,[]) a w [(22,vI (↑i.length:Int)),(21,b),(0,b),(1,c),(23,vI z)] (L) λ_ _=>AH z∧FM N i j (FO N i j) n1 z=some r) N ?_ ?_ ?_
  ·intro p s d g
   exact⟨0,_,_,d.sub (kp [22,21,0,1,23] O),g,ad,(CA.refl S h7),(iq (n:=0) O),E⟩
  ·rintro p s ⟨_,_,_,_,_,_,_,_,E⟩
   rw[FM] at E;cases E
  rintro n1 p s ⟨z,bg,bh,d,g,A,C,bi,E⟩
  refine Ac ?_ d g
  clear d g s p
  rw[FM] at E
  refine AI (Ar O (AN (kp [24,22,21,0,1,23] O) (AC (AW O E (λa1 E=>?_) (λa1 E=>?_)))))
  ·refine AQ (AC (BB (WF.sl (AG 2 ?_))))
   obtain⟨af,ag,E⟩:=bd E
   refine BE O O (ae.mono' C) H8 ag O λbj a2=>B8 A9 A.1 O a2 Ob (λe=>by cases e) O λbk a3=>AF (Cp Tu O A λbl bm ah K=>?_)
   obtain⟨rfl,⟨a4,bn⟩⟩:=Bv.ex (a3.mono K)
   refine Du (vs:=[vI af.X,vI af.Y]) O O O O Ob O ah .head O λbo D V=>AZ (kp [6,22,21,0,1,23] O) (AC (Bq (.inl O) D (AA O (AD JD O (AS Bd D O mh O Ag O ?_)))))
   obtain⟨bp,ai,E⟩:=bd E
   refine CY O O O Tg O (λh' o=>KJ (St.all h') ((m.mono' (U.trans (C.trans (K.trans V)))).mono' (o.all D.1)) a4 ai) λa5=>?_
   have bq:=a5
   refine AA O (Bo O (Bo O (AY O (AY O (BM (kp [7,6,22,21,0,1,23] O) λbr F aj=>AI (AD IQ O (AS A9 F O mh O Ag O (AA O (Bf O (AN (kp [37,22,21,0,1,23] O) (AW O E (λa6 E=>?_) (λa6 E=>?_))))))))))))
   ·refine AI (AK O (kp [4] O) (Ad (λp s d g=>?_)))
    have ak:=F.drop .head
    cases E
    exact Dx d g O O (U.trans (C.trans (K.trans (V.trans aj)))) ⟨O,ak⟩
   refine AQ (BO (BZ (.inl O) (Ai O (AA O (AN (kp [23,22,21,0,1] O) (WF.nil (λp s d g=>?_)))))))
   have am:=F.drop .head
   exact⟨(BD (z+1)),_,_,d.sub (kp [22,21,0,1,23] O),g,am,(C.trans (K.trans (V.trans aj))),(BK _),E⟩
  refine BC O (λp s d g=>?_)
  exact⟨_,_,d.sub (kp [0,1] O),g,A,C,E⟩
 rintro p s ⟨W,Z,d,g,an,M,E⟩
 refine Ac ?_ d g
 clear d g s p
 rw[FO] at E
 refine AC (AI (AA O ?_))
 have ao:=m.mono' (U.trans M)
 refine An O ao H8 O λbs=>AA O (AN (kp [41,40,39,0] O) (Am (λa w=>IV B W Z (66,[]) a w [] (L) λ_ _=>Gq N=some r) ?_ ?_))
 ·refine A5 (λn3=>λa w=>∃(G:Int),IV B W Z (66,[]) a w [(40,vI (↑j.length:Int)),(39,c),(0,b),(41,vI G)] (L) λ_ _=>AH G∧FL N i j (Gq N) n3 G=some r) N ?_ ?_ ?_
  ·intro p s d g
   exact⟨0,_,_,d.sub (kp [40,39,0,41] O),g,an,(CA.refl W Z),(iq (n:=0) O),E⟩
  ·rintro p s ⟨_,_,_,_,_,_,_,_,E⟩
   rw[FL] at E;cases E
  rintro n3 p s ⟨G,bt,bu,d,g,H,I,bv,E⟩
  refine Ac ?_ d g
  clear d g s p
  rw[FL] at E
  refine AI (Ar O (AN (kp [42,40,39,0,41] O) (AC (AW O E (λa7 E=>?_) (λa7 E=>?_)))))
  ·refine AQ (AC (BB (WF.sl (AG 2 ?_))))
   obtain⟨u,ap,E⟩:=bd E
   refine BE O O (ao.mono' I) H8 ap O λbw a8=>B8 A9 H.1 O a8 Ob (λe=>by cases e) O λbx a9=>AF (Cp Tu O H λbz b0 aq Q=>?_)
   obtain⟨rfl,⟨ba,b1⟩⟩:=Bv.ex (a9.mono Q)
   refine Du (vs:=[vI u.X,vI u.Y]) O O O O Ob O aq .head O λb2 J ab=>AZ (kp [10,40,39,0,41] O) (AC (Bq (.inl O) J (AA O (AD JD O (AS Bd J O mh O Ag O ?_)))))
   obtain⟨x,ar,E⟩:=bd E
   refine CY O O O Tg O (λh' o=>KJ (St.all h') ((k.mono' (U.trans (M.trans (I.trans (Q.trans ab))))).mono' (o.all J.1)) ba ar) λbb=>?_
   have b3:=bb
   refine AA O (Bo O (Bo O (AY O (AY O (BM (kp [12,11,10,40,39,0,41] O) λb5 y au=>AI (AA O (AD IQ O (AS A9 y O mh O Ag O (Bf O (AA O (AV 8 64 (.bool ((decide (u.Y<x.1))||((decide (x.1=u.Y))&&x.2))) ?_ ?_)))))))))))
   ·cases b6:(decide (u.Y<x.1))
    ·refine AB O (AA O (AB O (AD IQ O (AB O (AS A9 y O mh O Ag O (AB O (BL O (AB O (AA O (AV 2 63 (.bool ((decide (x.1=u.Y))&&x.2)) ?_ ?_))))))))))
     ·cases b7:(decide (x.1=u.Y))
      ·exact Aa O O
      exact AB O (AA O (AB O (AJ O (AU O))))
     exact AJ O (AU O)
    exact Aa O O
   refine AN (kp [64,40,39,0,41] O) (AW O E (λbc E=>?_) (λbc E=>?_))
   ·refine AI (AK O (kp [4] O) (Ad (λp s d g=>?_)))
    have av:=y.drop .head
    cases E
    exact Dx d g O O (U.trans (M.trans (I.trans (Q.trans (ab.trans au))))) ⟨O,av⟩
   refine AQ (BO (BZ (.inl O) (Ai O (AA O (AN (kp [41,40,39,0] O) (WF.nil (λp s d g=>?_)))))))
   have aw:=y.drop .head
   exact⟨(BD (G+1)),_,_,d.sub (kp [40,39,0,41] O),g,aw,(I.trans (Q.trans (ab.trans au))),(BK _),E⟩
  refine BC O (λp s d g=>?_)
  exact⟨_,_,d.sub Oy,g,H,I,E⟩
 rintro p s ⟨b8,be,d,g,ac,ax,E⟩
 refine Ac ?_ d g
 clear d g s p
 rw[Gq] at E
 refine AI (AK O (kp [4] O) (Ad (λp s d g=>?_)))
 cases E
 exact Dx d g O O (U.trans (M.trans ax)) ⟨O,ac⟩
theorem MI (hs:St S L h) {K:Value}{d:A7}(ab:Rd S h Bu K d) {r:Bool}(E:Ga N d=some r):
 CL Tryz.prog 76 #[K] S h (λv S' h'=>v= .bool r∧St S' (L) h'):=by
 refine BG (l:=[K]) 152 Tryz.func76 O Tryz.ntmps76 O λB=>?_
 rw[Ga] at E
 refine WF.sl (B4 O ab (λe=>by cases e) O hs λq1 S2 h3 c e5 I=>AG 1 (AY O (AF (AZ (kp [1] O) (AC (AI (Ae O I A7.f_Kind GK O λq7 k8=>Af A9 c.1 O k8 Ag O λr9=>AN (kp [4,1] O) (BB (AI (BL O (AK O (kp [5,4,1] O) (AW O E (λdf E=>?_) (λdf E=>?_)))))))))))))
 ·refine AC (Bq (.inl O) c (Ae O I Ji M2 O λfm dg=>Ao Bd c.1 O dg IX O λfn dh=>?_))
  obtain⟨di,bb,E⟩:=bd E
  refine A6 O O O P3 O (λh' o=>GR (St.all h') (dh.mono' (o.all c.1)) bb) (AA O ?_)
  obtain⟨bc,x,E⟩:=bd E
  refine AV 5 15 (.bool bc) ?_ ?_
  ·cases be:di
   ·have x:=F5 be x
    cases x
    exact Aa O O
   have x:=Fy be x
   refine AB O (Ae O I Ix K4 O λfo dj=>AB O (Ae O dj Nb PM O λfp dk=>AB O (Ao Bd c.1 O dk IX O λfq dl=>AB O ?_)))
   obtain⟨fr,bf,x⟩:=bd x
   refine A6 O O O P3 O (λh' o=>GR (St.all h') (dl.mono' (o.all c.1)) bf) (AJ O ?_)
   cases x
   exact AU O
  refine AA O ?_
  obtain⟨bg,y,E⟩:=bd E
  refine AV 5 21 (.bool bg) ?_ ?_
  ·cases bh:bc
   ·have y:=F5 bh y
    cases y
    exact Aa O O
   have y:=Fy bh y
   refine AB O (Ae O I Ix K4 O λfs dm=>AB O (Ae O dm Nc PL O λft dn=>AB O (Ao Bd c.1 O dn IX O λfu dp=>AB O ?_)))
   obtain⟨fv,bi,y⟩:=bd y
   refine A6 O O O P3 O (λh' o=>GR (St.all h') (dp.mono' (o.all c.1)) bi) (AJ O ?_)
   cases y
   exact AU O
  refine AA O ?_
  obtain⟨bj,z,E⟩:=bd E
  refine AV 7 29 (.bool bj) ?_ ?_
  ·cases bk:bg
   ·have z:=F5 bk z
    cases z
    exact Aa O O
   have z:=Fy bk z
   refine AB O (Ae O I Ix K4 O λfw dq=>AB O (Ae O dq Nb PM O λfx dr=>AB O (Ao Bd c.1 O dr IX O λfy ds=>AB O (Ae O I Ji M2 O λfz dt=>AB O (Ao Bd c.1 O dt IX O λf0 du=>AB O ?_)))))
   obtain⟨f1,bl,z⟩:=bd z
   refine A6 O O O Y8 O (λh' o=>L3 (St.all h') (ds.mono' (o.all c.1)) (du.mono' (o.all c.1)) bl) (AJ O ?_)
   cases z
   exact AU O
  refine AA O ?_
  obtain⟨bm,A,E⟩:=bd E
  refine AV 7 37 (.bool bm) ?_ ?_
  ·cases bn:bj
   ·have A:=F5 bn A
    cases A
    exact Aa O O
   have A:=Fy bn A
   refine AB O (Ae O I Ji M2 O λf2 dv=>AB O (Ao Bd c.1 O dv IX O λf3 dw=>AB O (Ae O I Ix K4 O λf4 dx=>AB O (Ae O dx Nc PL O λf5 dy=>AB O (Ao Bd c.1 O dy IX O λf6 dz=>AB O ?_)))))
   obtain⟨f7,bo,A⟩:=bd A
   refine A6 O O O Y8 O (λh' o=>L3 (St.all h') (dw.mono' (o.all c.1)) (dz.mono' (o.all c.1)) bo) (AJ O ?_)
   cases A
   exact AU O
  refine AA O ?_
  obtain⟨bp,C,E⟩:=bd E
  refine AV 4 42 (.bool bp) ?_ ?_
  ·cases bq:bm
   ·have C:=F5 bq C
    cases C
    exact Aa O O
   have C:=Fy bq C
   refine AB O (Ae O I ED JV O λf8 d0=>AB O (Af Bd c.1 O d0 Ag O λd1=>AB O ?_))
   obtain⟨f9,br,C⟩:=bd C
   refine A6 O O O Hu O (λh' o=>Bs (St.all h') d1 (iq (n:=0) O) (iq (n:=64) O) br) (AJ O ?_)
   cases C
   exact AU O
  refine AA O ?_
  obtain⟨bs,D,E⟩:=bd E
  refine AV 6 49 (.bool bs) ?_ ?_
  ·cases bt:bp
   ·have D:=F5 bt D
    cases D
    exact Aa O O
   have D:=Fy bt D
   refine AB O (Ae O I JC Nw O λga d2=>AB O (Af Bd c.1 O d2 Ag O λd3=>AB O (Ae O I ED JV O λgb d4=>AB O (Af Bd c.1 O d4 Ag O λd5=>AB O ?_))))
   obtain⟨gc,bu,D⟩:=bd D
   refine A6 O O O Hu O (λh' o=>Bs (St.all h') d3 (iq (n:=0) O) d5 bu) (AJ O ?_)
   cases D
   exact AU O
  refine AA O ?_
  obtain⟨bv,F,E⟩:=bd E
  refine AV 4 54 (.bool bv) ?_ ?_
  ·cases bw:bs
   ·have F:=F5 bw F
    cases F
    exact Aa O O
   have F:=Fy bw F
   refine AB O (Ae O I Lz Re O λgd d6=>AB O (Af Bd c.1 O d6 Ag O λd7=>AB O ?_))
   obtain⟨ge,bx,F⟩:=bd F
   refine A6 O O O Jm O (λh' o=>B3 (St.all h') d7 bx) (AJ O ?_)
   cases F
   exact AU O
  refine AA O ?_
  obtain⟨aq,G,E⟩:=bd E
  refine AV 6 61 (.bool aq) ?_ ?_
  ·cases bz:bv
   ·have G:=F5 bz G
    cases G
    exact Aa O O
   have G:=Fy bz G
   refine AB O (Ae O I II Kq O λgf d8=>AB O (Af Bd c.1 O d8 Ag O λd9=>AB O (Ae O I HG J6 O λgg ea=>AB O (Af Bd c.1 O ea Ag O λeb=>AB O ?_))))
   obtain⟨gh,b0,G⟩:=bd G
   refine A6 O O O W4 O (λh' o=>JN (St.all h') d9 eb b0) (AJ O ?_)
   cases G
   exact AU O
  refine AA O (AV 9 71 (.bool (aq&&((decide (d.To≠(-1)))||(decide (d.BackDen=0))))) ?_ ?_)
  ·cases gi:aq
   ·exact Aa O O
   refine AB O (Ae O I A7.f_To Hz O λec b1=>AB O (Af Bd c.1 O b1 Ag O λed=>AB O (Bt O (AB O (AA O (AV 4 70 (.bool ((decide (d.To≠(-1)))||(decide (d.BackDen=0)))) ?_ ?_))))))
   ·cases ee:(decide (d.To≠(-1)))
    ·exact AB O (Ae O I HG J6 O λef b2=>AB O (Af Bd c.1 O b2 Ag O λeg=>AB O (BL O (AB O (AJ O (AU O))))))
    exact Aa O O
   exact AJ O (AU O)
  refine AY O (BM (kp [2] O) λeh ar b3=>Ad (λaa ww Q U=>?_))
  cases E
  exact Dx Q U O O (e5.trans b3) ⟨O,ar⟩
 refine AC (AI (BL O (AK O (kp [72,4,1] O) (Ge (λa w=>∃(W:Bool),IV B S2 h3 (152,[]) a w [(4,vI d.Kind),(1,q1),(72,.bool W)] (L) λ_ _=>Ec N d W=some r) ?_ ?_))))
 ·refine AW O E (λb4 E=>?_) (λb4 E=>?_)
  ·refine AQ (WF.nil (λaa ww Q U=>?_))
   exact⟨(decide (d.Kind=1)),_,_,Q.sub (kp [4,1,72] O),U,c,(CA.refl S2 h3),E⟩
  refine BZ (.inl O) (BL O (AK O (kp [72,4,1] O) (WF.nil (λaa ww Q U=>?_))))
  exact⟨(decide (d.Kind=5)),_,_,Q.sub (kp [4,1,72] O),U,c,(CA.refl S2 h3),E⟩
 rintro aa ww ⟨W,ei,ej,Q,U,b,H,E⟩
 refine Ac ?_ Q U
 clear Q U ww aa
 rw[Ec] at E
 refine AW O E (λb5 E=>?_) (λb5 E=>?_)
 ·refine AC (Bq (.inl O) b ?_)
  have X:=I.mono H
  refine Ae O X LH Rc O λek b6=>Af Bd b.1 O b6 Ag O λb7=>?_
  obtain⟨b8,au,E⟩:=bd E
  refine A6 O O O Jm O (λh' o=>B3 (St.all h') b7 au) (AA O ?_)
  obtain⟨ac,g,E⟩:=bd E
  refine AV 4 82 (.bool ac) ?_ ?_
  ·cases ad:b8
   ·have g:=F5 ad g
    cases g
    exact Aa O O
   have g:=Fy ad g
   refine AB O (Ae O X A7.f_Num Ib O λel b9=>AB O (Af Bd b.1 O b9 Ag O λca=>AB O ?_))
   obtain⟨em,av,g⟩:=bd g
   refine A6 O O O Jm O (λh' o=>B3 (St.all h') ca av) (AJ O ?_)
   cases g
   exact AU O
  refine AA O ?_
  obtain⟨cb,i,E⟩:=bd E
  refine AV 4 87 (.bool cb) ?_ ?_
  ·cases ae:ac
   ·have i:=F5 ae i
    cases i
    exact Aa O O
   have i:=Fy ae i
   refine AB O (Ae O X A7.f_Den JX O λen cc=>AB O (Af Bd b.1 O cc Ag O λcd=>AB O ?_))
   obtain⟨eo,aw,i⟩:=bd i
   refine A6 O O O Hu O (λh' o=>Bs (St.all h') cd (iq (n:=1) O) (iq (n:=1125899906842624) O) aw) (AJ O ?_)
   cases i
   exact AU O
  refine AY O (BM (kp [2] O) λep ax ce=>Ad (λaa ww Q U=>?_))
  cases E
  exact Dx Q U O O (e5.trans (H.trans ce)) ⟨O,ax⟩
 refine AI (BL O (AK O (kp [88,4,1] O) (AW O E (λcf E=>?_) (λcf E=>?_))))
 ·refine AC (Bq (.inl O) b ?_)
  have V:=I.mono H
  refine Ae O V A7.f_Num Ib O λeq cg=>Af Bd b.1 O cg Ag O λch=>?_
  obtain⟨ci,ay,E⟩:=bd E
  refine A6 O O O Jm O (λh' o=>B3 (St.all h') ch ay) (AA O ?_)
  obtain⟨af,j,E⟩:=bd E
  refine AV 4 97 (.bool af) ?_ ?_
  ·cases ag:ci
   ·have j:=F5 ag j
    cases j
    exact Aa O O
   have j:=Fy ag j
   refine AB O (Ae O V ED JV O λer cj=>AB O (Af Bd b.1 O cj Ag O λck=>AB O ?_))
   obtain⟨es,az,j⟩:=bd j
   refine A6 O O O Hu O (λh' o=>Bs (St.all h') ck (iq (n:=1) O) (iq (n:=64) O) az) (AJ O ?_)
   cases j
   exact AU O
  refine AA O ?_
  obtain⟨cl,k,E⟩:=bd E
  refine AV 6 104 (.bool cl) ?_ ?_
  ·cases ah:af
   ·have k:=F5 ah k
    cases k
    exact Aa O O
   have k:=Fy ah k
   refine AB O (Ae O V JC Nw O λet cm=>AB O (Af Bd b.1 O cm Ag O λcn=>AB O (Ae O V ED JV O λeu co=>AB O (Af Bd b.1 O co Ag O λcp=>AB O ?_))))
   obtain⟨ev,a0,k⟩:=bd k
   refine A6 O O O Hu O (λh' o=>Bs (St.all h') cn (iq (n:=0) O) cp a0) (AJ O ?_)
   cases k
   exact AU O
  refine AY O (BM (kp [2] O) λew a1 cq=>Ad (λaa ww Q U=>?_))
  cases E
  exact Dx Q U O O (e5.trans (H.trans cq)) ⟨O,a1⟩
 refine AI (BL O (AK O (kp [105,1] O) (AW O E (λcr E=>?_) (λcr E=>?_))))
 ·refine AC (Bq (.inl O) b ?_)
  have J:=I.mono H
  refine Ae O J A7.f_Num Ib O λex cs=>Af Bd b.1 O cs Ag O λct=>?_
  obtain⟨cu,a2,E⟩:=bd E
  refine A6 O O O Jm O (λh' o=>B3 (St.all h') ct a2) (AA O ?_)
  obtain⟨ai,m,E⟩:=bd E
  refine AV 4 114 (.bool ai) ?_ ?_
  ·cases aj:cu
   ·have m:=F5 aj m
    cases m
    exact Aa O O
   have m:=Fy aj m
   refine AB O (Ae O J A7.f_Den JX O λey cv=>AB O (Af Bd b.1 O cv Ag O λcw=>AB O ?_))
   obtain⟨ez,a3,m⟩:=bd m
   refine A6 O O O Hu O (λh' o=>Bs (St.all h') cw (iq (n:=1) O) (iq (n:=1125899906842624) O) a3) (AJ O ?_)
   cases m
   exact AU O
  refine AA O ?_
  obtain⟨ak,p,E⟩:=bd E
  refine AV 4 119 (.bool ak) ?_ ?_
  ·cases al:ai
   ·have p:=F5 al p
    cases p
    exact Aa O O
   have p:=Fy al p
   refine AB O (Ae O J J2 Ny O λe0 cx=>AB O (Af Bd b.1 O cx Ag O λcy=>AB O ?_))
   obtain⟨e1,a4,p⟩:=bd p
   refine A6 O O O Jm O (λh' o=>B3 (St.all h') cy a4) (AJ O ?_)
   cases p
   exact AU O
  refine AA O ?_
  obtain⟨Y,s,E⟩:=bd E
  refine AV 4 124 (.bool Y) ?_ ?_
  ·cases am:ak
   ·have s:=F5 am s
    cases s
    exact Aa O O
   have s:=Fy am s
   refine AB O (Ae O J J3 Nx O λe2 cz=>AB O (Af Bd b.1 O cz Ag O λc0=>AB O ?_))
   obtain⟨e3,a5,s⟩:=bd s
   refine A6 O O O Jm O (λh' o=>B3 (St.all h') c0 a5) (AJ O ?_)
   cases s
   exact AU O
  refine AA O (AV 6 131 (.bool (Y&&(decide (d.Break<d.Prime)))) ?_ ?_)
  ·cases e4:Y
   ·exact Aa O O
   exact AB O (Ae O J J3 Nx O λe6 c1=>AB O (Af Bd b.1 O c1 Ag O λe7=>AB O (Ae O J J2 Ny O λe8 c2=>AB O (Af Bd b.1 O c2 Ag O λe9=>AB O (Ar O (AJ O (AU O)))))))
  refine AY O (BM (kp [2] O) λfb a6 c3=>Ad (λaa ww Q U=>?_))
  cases E
  exact Dx Q U O O (e5.trans (H.trans c3)) ⟨O,a6⟩
 refine AQ (BO (AC (Bq (.inl O) b ?_)))
 have M:=I.mono H
 refine Ae O M A7.f_Num Ib O λfc c4=>Af Bd b.1 O c4 Ag O λc5=>?_
 obtain⟨c6,a7,E⟩:=bd E
 refine A6 O O O Jm O (λh' o=>B3 (St.all h') c5 a7) (AA O ?_)
 obtain⟨an,t,E⟩:=bd E
 refine AV 4 139 (.bool an) ?_ ?_
 ·cases ao:c6
  ·have t:=F5 ao t
   cases t
   exact Aa O O
  have t:=Fy ao t
  refine AB O (Ae O M A7.f_Den JX O λfd c7=>AB O (Af Bd b.1 O c7 Ag O λc8=>AB O ?_))
  obtain⟨fe,a8,t⟩:=bd t
  refine A6 O O O Hu O (λh' o=>Bs (St.all h') c8 (iq (n:=1) O) (iq (n:=1125899906842624) O) a8) (AJ O ?_)
  cases t
  exact AU O
 refine AA O ?_
 obtain⟨Z,u,E⟩:=bd E
 refine AV 6 146 (.bool Z) ?_ ?_
 ·cases ap:an
  ·have u:=F5 ap u
   cases u
   exact Aa O O
  have u:=Fy ap u
  refine AB O (Ae O M II Kq O λff c9=>AB O (Af Bd b.1 O c9 Ag O λda=>AB O (Ae O M HG J6 O λfg db=>AB O (Af Bd b.1 O db Ag O λdc=>AB O ?_))))
  obtain⟨fh,a9,u⟩:=bd u
  refine A6 O O O W4 O (λh' o=>JN (St.all h') da dc a9) (AJ O ?_)
  cases u
  exact AU O
 refine AA O (AV 4 151 (.bool (Z&&(decide (d.To≠(-1))))) ?_ ?_)
 ·cases fi:Z
  ·exact Aa O O
  exact AB O (Ae O M A7.f_To Hz O λfj dd=>AB O (Af Bd b.1 O dd Ag O λfk=>AB O (Bt O (AJ O (AU O)))))
 refine AY O (BM (kp [2] O) λfl ba de=>Ad (λaa ww Q U=>?_))
 cases E
 exact Dx Q U O O (e5.trans (H.trans de)) ⟨O,ba⟩
theorem ME (hs:St S L h) {d:Value}{a:A7}(j:Rd S h Bu d a) {r:Bool}(E:GX N a=some r):
 CL Tryz.prog 77 #[d] S h (λv S' h'=>v= .bool r∧St S' (L) h'):=by
 refine BG (l:=[d]) 112 Tryz.func77 O Tryz.ntmps77 O λB=>?_
 rw[GX] at E
 refine WF.sl (B4 O j (λe=>by cases e) O hs λq1 S2 h3 b k c=>AG 1 (AY O (AF (AZ (kp [1] O) (AI (Ae O c A7.f_Kind GK O λq7 k8=>Af A9 b.1 O k8 Ag O λr9=>BL O (AK O (kp [3,1] O) (AC (AI (AA O (BY O (AA O (AV 24 33 (.bool ((!(decide (a.Kind=0)))&&((((decide (0<(↑a.Rate.length:Int)))||(decide (0<(↑a.Band.Lo.length:Int))))||(decide (0<(↑a.Band.Hi.length:Int))))||(decide (a.Leak≠0))))) ?_ ?_)))))))))))))
 ·cases ae:(!(decide (a.Kind=0)))
  ·exact Aa O O
  refine AB O (Ae O c Ji M2 O λaf o=>AB O (Ao A9 b.1 O o IX O λag p=>AB O (An O p H8 O λah=>AB O (Bf O (AB O (AA O (AV 6 20 (.bool ((decide (0<(↑a.Rate.length:Int)))||(decide (0<(↑a.Band.Lo.length:Int))))) ?_ ?_)))))))
  ·cases ai:(decide (0<(↑a.Rate.length:Int)))
   ·exact AB O (Ae O c Ix K4 O λaj s=>AB O (Ae O s Nb PM O λak t=>AB O (Ao A9 b.1 O t IX O λal u=>AB O (An O u H8 O λam=>AB O (Bf O (AB O (AJ O (AU O))))))))
   exact Aa O O
  refine AB O (AA O (AV 6 27 (.bool (((decide (0<(↑a.Rate.length:Int)))||(decide (0<(↑a.Band.Lo.length:Int))))||(decide (0<(↑a.Band.Hi.length:Int))))) ?_ ?_))
  ·cases an:((decide (0<(↑a.Rate.length:Int)))||(decide (0<(↑a.Band.Lo.length:Int))))
   ·exact AB O (Ae O c Ix K4 O λao w=>AB O (Ae O w Nc PL O λap x=>AB O (Ao A9 b.1 O x IX O λaq y=>AB O (An O y H8 O λar=>AB O (Bf O (AB O (AJ O (AU O))))))))
   exact Aa O O
  refine AB O (AA O (AV 4 32 (.bool ((((decide (0<(↑a.Rate.length:Int)))||(decide (0<(↑a.Band.Lo.length:Int))))||(decide (0<(↑a.Band.Hi.length:Int))))||(decide (a.Leak≠0)))) ?_ ?_))
  ·cases au:(((decide (0<(↑a.Rate.length:Int)))||(decide (0<(↑a.Band.Lo.length:Int))))||(decide (0<(↑a.Band.Hi.length:Int))))
   ·exact AB O (Ae O c Lz Re O λav z=>AB O (Af A9 b.1 O z Ag O λaw=>AB O (Bt O (AB O (AJ O (AU O))))))
   exact Aa O O
  exact AJ O (AU O)
 refine AN (kp [33,3,1] O) (AW O E (λA E=>?_) (λA E=>?_))
 ·refine AI (AK O (kp [2] O) (Ad (λm n g i=>?_)))
  cases E
  exact Dx g i O O k ⟨O,b⟩
 refine AQ (AC (AI (AA O (BY O (AA O (AV 4 40 (.bool ((!(decide (a.Kind=0)))&&(decide (a.Kind≠2)))) ?_ ?_))))))
 ·cases ax:(!(decide (a.Kind=0)))
  ·exact Aa O O
  exact AB O (Ae O c A7.f_Kind GK O λay C=>AB O (Af A9 b.1 O C Ag O λaz=>AB O (Bt O (AJ O (AU O)))))
 refine AA O (AV 9 50 (.bool (((!(decide (a.Kind=0)))&&(decide (a.Kind≠2)))&&((decide (a.Positions≠0))||(decide (a.Speed≠0))))) ?_ ?_)
 ·cases a0:((!(decide (a.Kind=0)))&&(decide (a.Kind≠2)))
  ·exact Aa O O
  refine AB O (Ae O c ED JV O λa1 D=>AB O (Af A9 b.1 O D Ag O λa2=>AB O (Bt O (AB O (AA O (AV 4 49 (.bool ((decide (a.Positions≠0))||(decide (a.Speed≠0)))) ?_ ?_))))))
  ·cases a3:(decide (a.Positions≠0))
   ·exact AB O (Ae O c JC Nw O λa4 F=>AB O (Af A9 b.1 O F Ag O λa5=>AB O (Bt O (AB O (AJ O (AU O))))))
   exact Aa O O
  exact AJ O (AU O)
 refine AN (kp [50,3,1] O) (AW O E (λG E=>?_) (λG E=>?_))
 ·refine AI (AK O (kp [2] O) (Ad (λm n g i=>?_)))
  cases E
  exact Dx g i O O k ⟨O,b⟩
 refine AQ (AC (AI (Ae O c A7.f_Kind GK O λa6 H=>Af A9 b.1 O H Ag O λa7=>Bt O (AA O (AV 4 58 (.bool ((decide (a.Kind≠1))&&(decide (a.Kind≠5)))) ?_ ?_)))))
 ·cases a8:(decide (a.Kind≠1))
  ·exact Aa O O
  exact AB O (Ae O c A7.f_Kind GK O λa9 I=>AB O (Af A9 b.1 O I Ag O λba=>AB O (Bt O (AJ O (AU O)))))
 refine AA O (AV 4 63 (.bool (((decide (a.Kind≠1))&&(decide (a.Kind≠5)))&&(decide (a.Crest≠0)))) ?_ ?_)
 ·cases bb:((decide (a.Kind≠1))&&(decide (a.Kind≠5)))
  ·exact Aa O O
  exact AB O (Ae O c LH Rc O λbc J=>AB O (Af A9 b.1 O J Ag O λbe=>AB O (Bt O (AJ O (AU O)))))
 refine AN (kp [63,3,1] O) (AW O E (λK E=>?_) (λK E=>?_))
 ·refine AI (AK O (kp [2] O) (Ad (λm n g i=>?_)))
  cases E
  exact Dx g i O O k ⟨O,b⟩
 refine AQ (AC (AI (AA O (AA O (AV 4 69 (.bool ((decide (a.Kind=0))&&(decide (a.Num≠0)))) ?_ ?_)))))
 ·cases bf:(decide (a.Kind=0))
  ·exact Aa O O
  exact AB O (Ae O c A7.f_Num Ib O λbg M=>AB O (Af A9 b.1 O M Ag O λbh=>AB O (Bt O (AJ O (AU O)))))
 refine AA O (AV 12 82 (.bool (((decide (a.Kind=0))&&(decide (a.Num≠0)))||(((decide (a.Kind=0))||(decide (a.Kind=2)))&&(decide (a.Den≠0))))) ?_ ?_)
 ·cases bi:((decide (a.Kind=0))&&(decide (a.Num≠0)))
  ·refine AB O (AA O (AB O (AA O (AV 4 76 (.bool ((decide (a.Kind=0))||(decide (a.Kind=2)))) ?_ ?_))))
   ·cases bj:(decide (a.Kind=0))
    ·exact AB O (Ae O c A7.f_Kind GK O λbk Q=>AB O (Af A9 b.1 O Q Ag O λbl=>AB O (BL O (AB O (AJ O (AU O))))))
    exact Aa O O
   refine AB O (AA O (AV 4 81 (.bool (((decide (a.Kind=0))||(decide (a.Kind=2)))&&(decide (a.Den≠0)))) ?_ ?_))
   ·cases bm:((decide (a.Kind=0))||(decide (a.Kind=2)))
    ·exact Aa O O
    exact AB O (Ae O c A7.f_Den JX O λbn U=>AB O (Af A9 b.1 O U Ag O λbo=>AB O (Bt O (AB O (AJ O (AU O))))))
   exact AJ O (AU O)
  exact Aa O O
 refine AN (kp [82,3,1] O) (AW O E (λV E=>?_) (λV E=>?_))
 ·refine AI (AK O (kp [2] O) (Ad (λm n g i=>?_)))
  cases E
  exact Dx g i O O k ⟨O,b⟩
 refine AQ (AC (AI (Ae O c A7.f_Kind GK O λbp W=>Af A9 b.1 O W Ag O λbq=>Bt O (AA O (AV 9 95 (.bool ((decide (a.Kind≠3))&&((decide (a.Prime≠0))||(decide (a.Break≠0))))) ?_ ?_)))))
 ·cases br:(decide (a.Kind≠3))
  ·exact Aa O O
  refine AB O (Ae O c J2 Ny O λbs X=>AB O (Af A9 b.1 O X Ag O λbt=>AB O (Bt O (AB O (AA O (AV 4 94 (.bool ((decide (a.Prime≠0))||(decide (a.Break≠0)))) ?_ ?_))))))
  ·cases bu:(decide (a.Prime≠0))
   ·exact AB O (Ae O c J3 Nx O λbv Y=>AB O (Af A9 b.1 O Y Ag O λbw=>AB O (Bt O (AB O (AJ O (AU O))))))
   exact Aa O O
  exact AJ O (AU O)
 refine AN (kp [95,3,1] O) (AW O E (λZ E=>?_) (λZ E=>?_))
 ·refine AI (AK O (kp [2] O) (Ad (λm n g i=>?_)))
  cases E
  exact Dx g i O O k ⟨O,b⟩
 refine AQ (AI (AA O (AA O (AV 4 101 (.bool ((decide (a.Kind=0))||(decide (a.Kind=4)))) ?_ ?_))))
 ·cases bx:(decide (a.Kind=0))
  ·exact AB O (Ae O c A7.f_Kind GK O λbz ab=>AB O (Af A9 b.1 O ab Ag O λb0=>AB O (BL O (AJ O (AU O)))))
  exact Aa O O
 refine AA O (AV 9 111 (.bool (((decide (a.Kind=0))||(decide (a.Kind=4)))||((decide (a.BackNum=0))&&(decide (a.BackDen=0))))) ?_ ?_)
 ·cases b1:((decide (a.Kind=0))||(decide (a.Kind=4)))
  ·refine AB O (Ae O c II Kq O λb2 ac=>AB O (Af A9 b.1 O ac Ag O λb3=>AB O (BL O (AB O (AA O (AV 4 110 (.bool ((decide (a.BackNum=0))&&(decide (a.BackDen=0)))) ?_ ?_))))))
   ·cases b4:(decide (a.BackNum=0))
    ·exact Aa O O
    exact AB O (Ae O c HG J6 O λb5 ad=>AB O (Af A9 b.1 O ad Ag O λb6=>AB O (BL O (AB O (AJ O (AU O))))))
   exact AJ O (AU O)
  exact Aa O O
 refine AK O (kp [2] O) (Ad (λm n g i=>?_))
 cases E
 exact Dx g i O O k ⟨O,b⟩
end Go.Proofs.YtblcgjadhemlbaaGreat
