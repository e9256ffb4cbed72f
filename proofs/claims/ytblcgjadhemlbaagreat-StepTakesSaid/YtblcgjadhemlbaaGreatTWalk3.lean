import Derived.Test.YtblcgjadhemlbaaGreatTWalk2
namespace Go.Proofs.YtblcgjadhemlbaaGreat
open Go.RowKit
set_option linter.unusedVariables false
set_option linter.unusedSimpArgs false
set_option maxRecDepth 10000
set_option maxHeartbeats 2000000
variable {N:Nat}{S:Nat→Prop}{L:List HP}{h:Aw}
theorem IB (hs:St S L h) {b:Int}(w:AE b) {a:Int}(q:AE a) {c:Int}(s:AE c) {r:Int×Int×Bool}(E:En N b a c=some r):
 CL Tryz.prog 88 #[vI b,vI a,vI c] S h (λv S' h'=>v= .tuple #[vI r.1,vI r.2.1,.bool r.2.2]∧AE r.1∧AE r.2.1∧St S' (L) h'):=by
 refine BF (l:=[vI b,vI a,vI c]) 61 Tryz.func88 O Tryz.ntmps88 O λB=>?_
 rw[En] at E
 refine AH (AY O (AY O (AL O (kp [0,1,2] O) (AC (AH (AA O (Ao O (AA O (AV 3 18 (.bool ((decide (b<0))||(decide (1125899906842624<b)))) ?_ ?_)))))))))
 ·cases V:(decide (b<0))
  ·exact AB O (AA O (AB O (Bk O (AJ O (AU O)))))
  exact Aa O O
 refine AA O (AV 3 22 (.bool (((decide (b<0))||(decide (1125899906842624<b)))||(decide (a<0)))) ?_ ?_)
 ·cases W:((decide (b<0))||(decide (1125899906842624<b)))
  ·exact AB O (AA O (AB O (Ao O (AJ O (AU O)))))
  exact Aa O O
 refine AA O (AV 3 26 (.bool ((((decide (b<0))||(decide (1125899906842624<b)))||(decide (a<0)))||(decide (1125899906842624<a)))) ?_ ?_)
 ·cases X:(((decide (b<0))||(decide (1125899906842624<b)))||(decide (a<0)))
  ·exact AB O (AA O (AB O (Bk O (AJ O (AU O)))))
  exact Aa O O
 refine AA O (AV 3 30 (.bool (((((decide (b<0))||(decide (1125899906842624<b)))||(decide (a<0)))||(decide (1125899906842624<a)))||(decide (c<1)))) ?_ ?_)
 ·cases Y:((((decide (b<0))||(decide (1125899906842624<b)))||(decide (a<0)))||(decide (1125899906842624<a)))
  ·exact AB O (AA O (AB O (Ao O (AJ O (AU O)))))
  exact Aa O O
 refine AA O (AV 3 34 (.bool ((((((decide (b<0))||(decide (1125899906842624<b)))||(decide (a<0)))||(decide (1125899906842624<a)))||(decide (c<1)))||(decide (1125899906842624<c)))) ?_ ?_)
 ·cases Z:(((((decide (b<0))||(decide (1125899906842624<b)))||(decide (a<0)))||(decide (1125899906842624<a)))||(decide (c<1)))
  ·exact AB O (AA O (AB O (Bk O (AJ O (AU O)))))
  exact Aa O O
 refine AM (kp [34,0,1,2] O) (AX O E (λH E=>?_) (λH E=>?_))
 ·refine AH (AY O (AY O (AL O (kp [8,7,6] O) (Ad (λy z d k=>?_)))))
  cases E
  exact KD d O k (IF (Ir d (v:=_) O) (IF (Ir d (v:=_) O) (IF (Ir d (v:=_) O) KC))) O (B9.refl S h) ⟨O,(iq (n:=0) O),(iq (n:=0) O),hs⟩
 refine AO (AC (Bt (.inl O) hs (AA O (HL O OC K8 O (AA O (HL O OC K8 O ?_))))))
 obtain⟨x,A,E⟩:=bd E
 refine IC (v:= .tuple #[.int .u64 x.1,.int .u64 x.2]) (Ψ:=IntKind.has .u64 x.1∧IntKind.has .u64 x.2) O O O ZR O (λh' o=>(KK (St.all h') (D1 _ _) (D1 _ _) A).mono λ_ _ _ _ p=>⟨p.1,⟨p.2.1,p.2.2.1⟩⟩) λI=>?_
 obtain⟨J,C⟩:=I
 refine AA O (Bo O (Bo O (AY O (AY O (BQ (kp [10,9,2] O) λK i m=>AC (AH (AA O (AA O (HL O OC K8 O (Gb O (AM (kp [46,10,9,2] O) (AX O E (λD E=>?_) (λD E=>?_)))))))))))))
 ·refine AH (AY O (AY O (AL O (kp [8,7,6] O) (Ad (λy z d k=>?_)))))
  cases E
  exact KD d O k (IF (Ir d (v:=_) O) (IF (Ir d (v:=_) O) (IF (Ir d (v:=_) O) KC))) O m ⟨O,(iq (n:=0) O),(iq (n:=0) O),i⟩
 refine AO (AC (Bt (.inl O) i (AA O (AA O (AA O (HL O OC K8 O ?_))))))
 obtain⟨g,t,E⟩:=bd E
 refine IC (v:= .tuple #[.int .u64 g.1,.int .u64 g.2]) (Ψ:=IntKind.has .u64 g.1∧IntKind.has .u64 g.2) O O O ZQ O (λh' o=>(KL (St.all h') J C (D1 _ _) t).mono λ_ _ _ _ p=>⟨p.1,⟨p.2.1,p.2.2.1⟩⟩) λF=>?_
 obtain⟨M,Q⟩:=F
 refine AA O (Bo O (Bo O (AY O (AY O (BQ (kp [12,11] O) λU j u=>AC (AH (AA O (Bk O (AM (kp [56,12,11] O) (AX O E (λG E=>?_) (λG E=>?_)))))))))))
 ·refine AH (AY O (AY O (AL O (kp [8,7,6] O) (Ad (λy z d k=>?_)))))
  cases E
  exact KD d O k (IF (Ir d (v:=_) O) (IF (Ir d (v:=_) O) (IF (Ir d (v:=_) O) KC))) O (m.trans u) ⟨O,(iq (n:=0) O),(iq (n:=0) O),j⟩
 refine AO (AH (AA O (HL O K8 OC O (AA O (HL O K8 OC O (AY O (AY O (AL O (kp [8,7,6] O) (Ad (λy z d k=>?_))))))))))
 cases E
 exact KD d O k (IF (Ir d (v:=_) O) (IF (Ir d (v:=_) O) (IF (Ir d (v:=_) O) KC))) O (m.trans u) ⟨O,(BG _),(BG _),j⟩
theorem KF (hs:St S L h) {d:Value}{i:(List BT)}(s:Sl S h Bu d i) {b:Int}(t:AE b) {r:Int×Bool}(E:HQ N i b=some r):
 CL Tryz.prog 102 #[d,vI b] S h (λv S' h'=>v= .tuple #[vI r.1,.bool r.2]∧AE r.1∧St S' (L) h'):=by
 refine BF (l:=[d,vI b]) 63 Tryz.func102 O Tryz.ntmps102 O λB=>?_
 rw[HQ] at E
 refine WF.sl (B3 O (M0 s) (λ_=>rfl) O hs λq1 S2 h3 ac e5 k6=>B3 O (⟨_,O,O,t⟩:Rd _ _ AN.int _ b) (λ_=>rfl) O ac λq7 S8 h9 j u D=>AI 2 (AY O (AY O (AG (AZ (kp [3,2] O) (AC (Bt (.inl O) j ?_)))))))
 have w:=k6.mono u
 refine Al Bg j.1 O w IQ O λa2 ad=>Ak O ad H5 O λae=>OM O O O ?_
 have F:Rd S8 h9 (AN.fn Tryz.prog (λx:Int=>([vI x]:List Value)) (λx:Int=>AE x) (λy:Bool=> .bool y) (λy:Bool=>True)) (.func (.func 111) #[] #[q1,q7]) (λx=>G5 N i b x):=Rd.ofFn 111 #[q1,q7] aQ λS' h' s' e' L hs x y h1 h2=>(Nw hs h1 (w.mono'' s' e') (D.mono'' s' e') h2).mono λ_ _ _ _ p=>⟨p.1,trivial,p.2⟩
 obtain⟨a3,G,E⟩:=bd E
 refine CX O O O aR O (λh' o=>Oq (St.all h') (JY ae) (F.mono (o.all j.1)) G) λaf=>?_
 have a4:=af
 refine AY O (BQ (kp [6,3,2] O) λa5 c g=>AC (AH (AA O (BK O (AM (kp [16,6,3,2] O) (AX O E (λag E=>?_) (λag E=>?_)))))))
 ·refine AH (Al A6 c.1 O (w.mono g) IQ O λa6 ah=>?_)
  obtain⟨a7,H,E⟩:=bd E
  refine A9 O O ah H5 H O λa8 ai=>Af O ai Kr IK O λa9 aj=>Ag A6 c.1 O aj Ae O λak=>AY O (AL O (kp [5,4] O) (Ad (λaa ww k I=>?_)))
  cases E
  exact KD k O I (IF (Ir k (v:=_) O) (IF (Ir k (v:=_) O) KC)) O (e5.trans (u.trans g)) ⟨O,ak,c⟩
 refine AO (WF.sl (AI 5 ?_))
 have J:=w.mono g
 refine Al A6 c.1 O J IQ O λba am=>AA O (Cz O ?_)
 obtain⟨K,M,E⟩:=bd E
 refine A9 O O am H5 M O λbb an=>B6 A6 c.1 O an OU (λe=>by cases e) O λbc ao=>AG (Cn T7 O c λbe bf Q m=>?_)
 obtain⟨rfl,⟨bg,ap⟩⟩:=Bu.ex (ao.mono m)
 refine DW (vs:=[vI K.X,vI K.Y]) O O O O OU O Q .head O λbh a z=>AZ (kp [7,6,3,2] O) (AC (AH (AA O ?_)))
 have C:=J.mono (m.trans z)
 refine Al A6 a.1 O C IQ O λbi aq=>Ak O aq H5 O λbj=>BK O (AM (kp [29,7,6,3,2] O) (AX O E (λar E=>?_) (λar E=>?_)))
 ·refine AH (AD IK O (AT A6 a O mh O Ae O (AY O (AL O (kp [5,4] O) (Ad (λaa ww k I=>?_))))))
  have U:=a.drop .head
  cases E
  exact KD k O I (IF (Ir k (v:=_) O) (IF (Ir k (v:=_) O) KC)) O (e5.trans (u.trans (g.trans (m.trans z)))) ⟨O,ap,U⟩
 refine AO (AC (Bt (.inr ⟨mo,by kernel_rfl⟩) a (Ag Bg a.1 O (D.mono (g.trans (m.trans z))) Ae O λbk=>AD I3 O (AT Bg a O mh O Ae O (Cz O (Al Bg a.1 O C IQ O λbl au=>AA O ?_))))))
 obtain⟨bm,V,E⟩:=bd E
 refine A9 O O au H5 V O λbn av=>Af O av Kr IK O λbo aw=>Ag Bg a.1 O aw Ae O λbp=>AD IK O (AT Bg a O mh O Ae O (Cz O (Al Bg a.1 O C IQ O λbq ax=>AA O ?_)))
 obtain⟨br,W,E⟩:=bd E
 refine A9 O O ax H5 W O λbs ay=>Af O ay Ks I3 O λbt az=>Ag Bg a.1 O az Ae O λbu=>AD I3 O (AT Bg a O mh O Ae O (Cz O ?_))
 obtain⟨n,Z,E⟩:=bd E
 refine IC (v:= .tuple #[vI n.1,vI n.2.1,.bool n.2.2]) (Ψ:=AE n.1∧AE n.2.1) O O O TI O (λh' o=>(IB (St.all h') (BG _) (BG _) (BG _) Z).mono λ_ _ _ _ p=>⟨p.1,⟨p.2.1,p.2.2.1⟩⟩) λa0=>?_
 obtain⟨bv,bw⟩:=a0
 refine AA O (Bo O (Bo O (Bo O (AY O (AY O (AY O (BQ (kp [9,8,7] O) λbx A a1=>AH (AD IK O (AT A6 A O mh O Ae O (AA O (Ai O (AA O (Bk O (AY O (AL O (kp [5,4] O) (Ad (λaa ww k I=>?_)))))))))))))))))
 have ab:=A.drop .head
 cases E
 exact KD k O I (IF (Ir k (v:=_) O) (IF (Ir k (v:=_) O) KC)) O (e5.trans (u.trans (g.trans (m.trans (z.trans a1))))) ⟨O,(BG _),ab⟩
theorem Lx (hs:St S L h) {b:Value}{i:(List BT)}(k:Sl S h Bu b i) {c:Value}{j:(List BT)}(m:Sl S h Bu c j) {r:Bool}(E:Gg N i j=some r):
 CL Tryz.prog 93 #[b,c] S h (λv S' h'=>v= .bool r∧St S' (L) h'):=by
 refine BF (l:=[b,c]) 66 Tryz.func93 O Tryz.ntmps93 O λB=>?_
 rw[Gg] at E
 refine AH (AL O (kp [0,1] O) (AC (AC (Bt (.inl O) hs (AA O ?_)))))
 obtain⟨y1,ay,E⟩:=bd E
 refine A5 O O O P3 O (λh' o=>GO (St.all h') (k.mono' (o.all hs.1)) ay) (BZ O (AA O ?_))
 obtain⟨b4,t,E⟩:=bd E
 refine AV 4 20 (.bool b4) ?_ ?_
 ·cases c3:(!y1)
  ·have t:=GM c3 t
   refine AB O (AA O (AB O ?_))
   obtain⟨y5,az,t⟩:=bd t
   refine A5 O O O P3 O (λh' o=>GO (St.all h') (m.mono' (o.all hs.1)) az) (AB O (BZ O (AJ O ?_)))
   cases t
   exact AU O
  have t:=GL c3 t
  cases t
  exact Aa O O
 refine BQ (kp [20,0,1] O) λh7 ad U=>AX O E (λa0 E=>?_) (λa0 E=>?_)
 ·refine AH (AL O (kp [4] O) (Ad (λp s d g=>?_)))
  cases E
  exact Dr d g O O U ⟨O,ad⟩
 refine AO (AC (AH (AA O ?_)))
 have ae:=k.mono' U
 refine Ak O ae H5 O λbf=>AA O (AM (kp [23,22,21,0,1] O) (Aj (λa w=>IV B S h7 (66,[]) a w [(0,b),(1,c)] (L) λ_ _=>FG N i j=some r) ?_ ?_))
 ·refine A3 (λn1=>λa w=>∃(z:Int),IV B S h7 (66,[]) a w [(22,vI (↑i.length:Int)),(21,b),(0,b),(1,c),(23,vI z)] (L) λ_ _=>AE z∧FE N i j (FG N i j) n1 z=some r) N ?_ ?_ ?_
  ·intro p s d g
   exact⟨0,_,_,d.sub (kp [22,21,0,1,23] O),g,ad,(B9.refl S h7),(iq (n:=0) O),E⟩
  ·rintro p s ⟨_,_,_,_,_,_,_,_,E⟩
   rw[FE] at E;cases E
  rintro n1 p s ⟨z,bg,bh,d,g,A,C,bi,E⟩
  refine Ac ?_ d g
  clear d g s p
  rw[FE] at E
  refine AH (Ao O (AM (kp [24,22,21,0,1,23] O) (AC (AX O E (λa1 E=>?_) (λa1 E=>?_)))))
  ·refine AO (AC (A8 (WF.sl (AI 2 ?_))))
   obtain⟨af,ag,E⟩:=bd E
   refine A9 O O (ae.mono' C) H5 ag O λbj a2=>B6 A6 A.1 O a2 OU (λe=>by cases e) O λbk a3=>AG (Cn T7 O A λbl bm ah K=>?_)
   obtain⟨rfl,⟨a4,bn⟩⟩:=Bu.ex (a3.mono K)
   refine DW (vs:=[vI af.X,vI af.Y]) O O O O OU O ah .head O λbo D V=>AZ (kp [6,22,21,0,1,23] O) (AC (Bt (.inl O) D (AA O (AD I3 O (AT Bg D O mh O Ae O ?_)))))
   obtain⟨bp,ai,E⟩:=bd E
   refine CX O O O Tt O (λh' o=>KF (St.all h') ((m.mono' (U.trans (C.trans (K.trans V)))).mono' (o.all D.1)) a4 ai) λa5=>?_
   have bq:=a5
   refine AA O (Bo O (Bo O (AY O (AY O (BQ (kp [7,6,22,21,0,1,23] O) λbr F aj=>AH (AD IK O (AT A6 F O mh O Ae O (AA O (Bk O (AM (kp [37,22,21,0,1,23] O) (AX O E (λa6 E=>?_) (λa6 E=>?_))))))))))))
   ·refine AH (AL O (kp [4] O) (Ad (λp s d g=>?_)))
    have ak:=F.drop .head
    cases E
    exact Dr d g O O (U.trans (C.trans (K.trans (V.trans aj)))) ⟨O,ak⟩
   refine AO (BP (BY (.inl O) (Ai O (AA O (AM (kp [23,22,21,0,1] O) (WF.nil (λp s d g=>?_)))))))
   have am:=F.drop .head
   exact⟨(BM (z+1)),_,_,d.sub (kp [22,21,0,1,23] O),g,am,(C.trans (K.trans (V.trans aj))),(BG _),E⟩
  refine BA O (λp s d g=>?_)
  exact⟨_,_,d.sub (kp [0,1] O),g,A,C,E⟩
 rintro p s ⟨W,Z,d,g,an,M,E⟩
 refine Ac ?_ d g
 clear d g s p
 rw[FG] at E
 refine AC (AH (AA O ?_))
 have ao:=m.mono' (U.trans M)
 refine Ak O ao H5 O λbs=>AA O (AM (kp [41,40,39,0] O) (Aj (λa w=>IV B W Z (66,[]) a w [] (L) λ_ _=>Gk N=some r) ?_ ?_))
 ·refine A3 (λn3=>λa w=>∃(G:Int),IV B W Z (66,[]) a w [(40,vI (↑j.length:Int)),(39,c),(0,b),(41,vI G)] (L) λ_ _=>AE G∧FD N i j (Gk N) n3 G=some r) N ?_ ?_ ?_
  ·intro p s d g
   exact⟨0,_,_,d.sub (kp [40,39,0,41] O),g,an,(B9.refl W Z),(iq (n:=0) O),E⟩
  ·rintro p s ⟨_,_,_,_,_,_,_,_,E⟩
   rw[FD] at E;cases E
  rintro n3 p s ⟨G,bt,bu,d,g,H,I,bv,E⟩
  refine Ac ?_ d g
  clear d g s p
  rw[FD] at E
  refine AH (Ao O (AM (kp [42,40,39,0,41] O) (AC (AX O E (λa7 E=>?_) (λa7 E=>?_)))))
  ·refine AO (AC (A8 (WF.sl (AI 2 ?_))))
   obtain⟨u,ap,E⟩:=bd E
   refine A9 O O (ao.mono' I) H5 ap O λbw a8=>B6 A6 H.1 O a8 OU (λe=>by cases e) O λbx a9=>AG (Cn T7 O H λbz b0 aq Q=>?_)
   obtain⟨rfl,⟨ba,b1⟩⟩:=Bu.ex (a9.mono Q)
   refine DW (vs:=[vI u.X,vI u.Y]) O O O O OU O aq .head O λb2 J ab=>AZ (kp [10,40,39,0,41] O) (AC (Bt (.inl O) J (AA O (AD I3 O (AT Bg J O mh O Ae O ?_)))))
   obtain⟨x,ar,E⟩:=bd E
   refine CX O O O Tt O (λh' o=>KF (St.all h') ((k.mono' (U.trans (M.trans (I.trans (Q.trans ab))))).mono' (o.all J.1)) ba ar) λbb=>?_
   have b3:=bb
   refine AA O (Bo O (Bo O (AY O (AY O (BQ (kp [12,11,10,40,39,0,41] O) λb5 y au=>AH (AA O (AD IK O (AT A6 y O mh O Ae O (Bk O (AA O (AV 8 64 (.bool ((decide (u.Y<x.1))||((decide (x.1=u.Y))&&x.2))) ?_ ?_)))))))))))
   ·cases b6:(decide (u.Y<x.1))
    ·refine AB O (AA O (AB O (AD IK O (AB O (AT A6 y O mh O Ae O (AB O (BK O (AB O (AA O (AV 2 63 (.bool ((decide (x.1=u.Y))&&x.2)) ?_ ?_))))))))))
     ·cases b7:(decide (x.1=u.Y))
      ·exact Aa O O
      exact AB O (AA O (AB O (AJ O (AU O))))
     exact AJ O (AU O)
    exact Aa O O
   refine AM (kp [64,40,39,0,41] O) (AX O E (λbc E=>?_) (λbc E=>?_))
   ·refine AH (AL O (kp [4] O) (Ad (λp s d g=>?_)))
    have av:=y.drop .head
    cases E
    exact Dr d g O O (U.trans (M.trans (I.trans (Q.trans (ab.trans au))))) ⟨O,av⟩
   refine AO (BP (BY (.inl O) (Ai O (AA O (AM (kp [41,40,39,0] O) (WF.nil (λp s d g=>?_)))))))
   have aw:=y.drop .head
   exact⟨(BM (G+1)),_,_,d.sub (kp [40,39,0,41] O),g,aw,(I.trans (Q.trans (ab.trans au))),(BG _),E⟩
  refine BA O (λp s d g=>?_)
  exact⟨_,_,d.sub Ov,g,H,I,E⟩
 rintro p s ⟨b8,be,d,g,ac,ax,E⟩
 refine Ac ?_ d g
 clear d g s p
 rw[Gk] at E
 refine AH (AL O (kp [4] O) (Ad (λp s d g=>?_)))
 cases E
 exact Dr d g O O (U.trans (M.trans ax)) ⟨O,ac⟩
theorem MC (hs:St S L h) {K:Value}{d:A4}(ab:Rd S h Bv K d) {r:Bool}(E:GX N d=some r):
 CL Tryz.prog 76 #[K] S h (λv S' h'=>v= .bool r∧St S' (L) h'):=by
 refine BF (l:=[K]) 152 Tryz.func76 O Tryz.ntmps76 O λB=>?_
 rw[GX] at E
 refine WF.sl (B3 O ab (λe=>by cases e) O hs λq1 S2 h3 c e5 I=>AI 1 (AY O (AG (AZ (kp [1] O) (AC (AH (Af O I A4.f_Kind GF O λq7 k8=>Ag A6 c.1 O k8 Ae O λr9=>AM (kp [4,1] O) (A8 (AH (BK O (AL O (kp [5,4,1] O) (AX O E (λdf E=>?_) (λdf E=>?_)))))))))))))
 ·refine AC (Bt (.inl O) c (Af O I JW Mu O λfm dg=>Al Bg c.1 O dg IQ O λfn dh=>?_))
  obtain⟨di,bb,E⟩:=bd E
  refine A5 O O O P3 O (λh' o=>GO (St.all h') (dh.mono' (o.all c.1)) bb) (AA O ?_)
  obtain⟨bc,x,E⟩:=bd E
  refine AV 5 15 (.bool bc) ?_ ?_
  ·cases be:di
   ·have x:=GM be x
    cases x
    exact Aa O O
   have x:=GL be x
   refine AB O (Af O I Il K2 O λfo dj=>AB O (Af O dj NX PM O λfp dk=>AB O (Al Bg c.1 O dk IQ O λfq dl=>AB O ?_)))
   obtain⟨fr,bf,x⟩:=bd x
   refine A5 O O O P3 O (λh' o=>GO (St.all h') (dl.mono' (o.all c.1)) bf) (AJ O ?_)
   cases x
   exact AU O
  refine AA O ?_
  obtain⟨bg,y,E⟩:=bd E
  refine AV 5 21 (.bool bg) ?_ ?_
  ·cases bh:bc
   ·have y:=GM bh y
    cases y
    exact Aa O O
   have y:=GL bh y
   refine AB O (Af O I Il K2 O λfs dm=>AB O (Af O dm NY PL O λft dn=>AB O (Al Bg c.1 O dn IQ O λfu dp=>AB O ?_)))
   obtain⟨fv,bi,y⟩:=bd y
   refine A5 O O O P3 O (λh' o=>GO (St.all h') (dp.mono' (o.all c.1)) bi) (AJ O ?_)
   cases y
   exact AU O
  refine AA O ?_
  obtain⟨bj,z,E⟩:=bd E
  refine AV 7 29 (.bool bj) ?_ ?_
  ·cases bk:bg
   ·have z:=GM bk z
    cases z
    exact Aa O O
   have z:=GL bk z
   refine AB O (Af O I Il K2 O λfw dq=>AB O (Af O dq NX PM O λfx dr=>AB O (Al Bg c.1 O dr IQ O λfy ds=>AB O (Af O I JW Mu O λfz dt=>AB O (Al Bg c.1 O dt IQ O λf0 du=>AB O ?_)))))
   obtain⟨f1,bl,z⟩:=bd z
   refine A5 O O O ZS O (λh' o=>Lx (St.all h') (ds.mono' (o.all c.1)) (du.mono' (o.all c.1)) bl) (AJ O ?_)
   cases z
   exact AU O
  refine AA O ?_
  obtain⟨bm,A,E⟩:=bd E
  refine AV 7 37 (.bool bm) ?_ ?_
  ·cases bn:bj
   ·have A:=GM bn A
    cases A
    exact Aa O O
   have A:=GL bn A
   refine AB O (Af O I JW Mu O λf2 dv=>AB O (Al Bg c.1 O dv IQ O λf3 dw=>AB O (Af O I Il K2 O λf4 dx=>AB O (Af O dx NY PL O λf5 dy=>AB O (Al Bg c.1 O dy IQ O λf6 dz=>AB O ?_)))))
   obtain⟨f7,bo,A⟩:=bd A
   refine A5 O O O ZS O (λh' o=>Lx (St.all h') (dw.mono' (o.all c.1)) (dz.mono' (o.all c.1)) bo) (AJ O ?_)
   cases A
   exact AU O
  refine AA O ?_
  obtain⟨bp,C,E⟩:=bd E
  refine AV 4 42 (.bool bp) ?_ ?_
  ·cases bq:bm
   ·have C:=GM bq C
    cases C
    exact Aa O O
   have C:=GL bq C
   refine AB O (Af O I D5 JI O λf8 d0=>AB O (Ag Bg c.1 O d0 Ae O λd1=>AB O ?_))
   obtain⟨f9,br,C⟩:=bd C
   refine A5 O O O Hn O (λh' o=>Bs (St.all h') d1 (iq (n:=0) O) (iq (n:=64) O) br) (AJ O ?_)
   cases C
   exact AU O
  refine AA O ?_
  obtain⟨bs,D,E⟩:=bd E
  refine AV 6 49 (.bool bs) ?_ ?_
  ·cases bt:bp
   ·have D:=GM bt D
    cases D
    exact Aa O O
   have D:=GL bt D
   refine AB O (Af O I I2 Nr O λga d2=>AB O (Ag Bg c.1 O d2 Ae O λd3=>AB O (Af O I D5 JI O λgb d4=>AB O (Ag Bg c.1 O d4 Ae O λd5=>AB O ?_))))
   obtain⟨gc,bu,D⟩:=bd D
   refine A5 O O O Hn O (λh' o=>Bs (St.all h') d3 (iq (n:=0) O) d5 bu) (AJ O ?_)
   cases D
   exact AU O
  refine AA O ?_
  obtain⟨bv,F,E⟩:=bd E
  refine AV 4 54 (.bool bv) ?_ ?_
  ·cases bw:bs
   ·have F:=GM bw F
    cases F
    exact Aa O O
   have F:=GL bw F
   refine AB O (Af O I Lu Rl O λgd d6=>AB O (Ag Bg c.1 O d6 Ae O λd7=>AB O ?_))
   obtain⟨ge,bx,F⟩:=bd F
   refine A5 O O O JZ O (λh' o=>B0 (St.all h') d7 bx) (AJ O ?_)
   cases F
   exact AU O
  refine AA O ?_
  obtain⟨aq,G,E⟩:=bd E
  refine AV 6 61 (.bool aq) ?_ ?_
  ·cases bz:bv
   ·have G:=GM bz G
    cases G
    exact Aa O O
   have G:=GL bz G
   refine AB O (Af O I IE Kl O λgf d8=>AB O (Ag Bg c.1 O d8 Ae O λd9=>AB O (Af O I G7 J1 O λgg ea=>AB O (Ag Bg c.1 O ea Ae O λeb=>AB O ?_))))
   obtain⟨gh,b0,G⟩:=bd G
   refine A5 O O O XN O (λh' o=>JC (St.all h') d9 eb b0) (AJ O ?_)
   cases G
   exact AU O
  refine AA O (AV 9 71 (.bool (aq&&((decide (d.To≠(-1)))||(decide (d.BackDen=0))))) ?_ ?_)
  ·cases gi:aq
   ·exact Aa O O
   refine AB O (Af O I A4.f_To Ht O λec b1=>AB O (Ag Bg c.1 O b1 Ae O λed=>AB O (Bl O (AB O (AA O (AV 4 70 (.bool ((decide (d.To≠(-1)))||(decide (d.BackDen=0)))) ?_ ?_))))))
   ·cases ee:(decide (d.To≠(-1)))
    ·exact AB O (Af O I G7 J1 O λef b2=>AB O (Ag Bg c.1 O b2 Ae O λeg=>AB O (BK O (AB O (AJ O (AU O))))))
    exact Aa O O
   exact AJ O (AU O)
  refine AY O (BQ (kp [2] O) λeh ar b3=>Ad (λaa ww Q U=>?_))
  cases E
  exact Dr Q U O O (e5.trans b3) ⟨O,ar⟩
 refine AC (AH (BK O (AL O (kp [72,4,1] O) (Ga (λa w=>∃(W:Bool),IV B S2 h3 (152,[]) a w [(4,vI d.Kind),(1,q1),(72,.bool W)] (L) λ_ _=>EU N d W=some r) ?_ ?_))))
 ·refine AX O E (λb4 E=>?_) (λb4 E=>?_)
  ·refine AO (WF.nil (λaa ww Q U=>?_))
   exact⟨(decide (d.Kind=1)),_,_,Q.sub (kp [4,1,72] O),U,c,(B9.refl S2 h3),E⟩
  refine BY (.inl O) (BK O (AL O (kp [72,4,1] O) (WF.nil (λaa ww Q U=>?_))))
  exact⟨(decide (d.Kind=5)),_,_,Q.sub (kp [4,1,72] O),U,c,(B9.refl S2 h3),E⟩
 rintro aa ww ⟨W,ei,ej,Q,U,b,H,E⟩
 refine Ac ?_ Q U
 clear Q U ww aa
 rw[EU] at E
 refine AX O E (λb5 E=>?_) (λb5 E=>?_)
 ·refine AC (Bt (.inl O) b ?_)
  have X:=I.mono H
  refine Af O X LG Rk O λek b6=>Ag Bg b.1 O b6 Ae O λb7=>?_
  obtain⟨b8,au,E⟩:=bd E
  refine A5 O O O JZ O (λh' o=>B0 (St.all h') b7 au) (AA O ?_)
  obtain⟨ac,g,E⟩:=bd E
  refine AV 4 82 (.bool ac) ?_ ?_
  ·cases ad:b8
   ·have g:=GM ad g
    cases g
    exact Aa O O
   have g:=GL ad g
   refine AB O (Af O X A4.f_Num IT O λel b9=>AB O (Ag Bg b.1 O b9 Ae O λca=>AB O ?_))
   obtain⟨em,av,g⟩:=bd g
   refine A5 O O O JZ O (λh' o=>B0 (St.all h') ca av) (AJ O ?_)
   cases g
   exact AU O
  refine AA O ?_
  obtain⟨cb,i,E⟩:=bd E
  refine AV 4 87 (.bool cb) ?_ ?_
  ·cases ae:ac
   ·have i:=GM ae i
    cases i
    exact Aa O O
   have i:=GL ae i
   refine AB O (Af O X A4.f_Den JK O λen cc=>AB O (Ag Bg b.1 O cc Ae O λcd=>AB O ?_))
   obtain⟨eo,aw,i⟩:=bd i
   refine A5 O O O Hn O (λh' o=>Bs (St.all h') cd (iq (n:=1) O) (iq (n:=1125899906842624) O) aw) (AJ O ?_)
   cases i
   exact AU O
  refine AY O (BQ (kp [2] O) λep ax ce=>Ad (λaa ww Q U=>?_))
  cases E
  exact Dr Q U O O (e5.trans (H.trans ce)) ⟨O,ax⟩
 refine AH (BK O (AL O (kp [88,4,1] O) (AX O E (λcf E=>?_) (λcf E=>?_))))
 ·refine AC (Bt (.inl O) b ?_)
  have V:=I.mono H
  refine Af O V A4.f_Num IT O λeq cg=>Ag Bg b.1 O cg Ae O λch=>?_
  obtain⟨ci,ay,E⟩:=bd E
  refine A5 O O O JZ O (λh' o=>B0 (St.all h') ch ay) (AA O ?_)
  obtain⟨af,j,E⟩:=bd E
  refine AV 4 97 (.bool af) ?_ ?_
  ·cases ag:ci
   ·have j:=GM ag j
    cases j
    exact Aa O O
   have j:=GL ag j
   refine AB O (Af O V D5 JI O λer cj=>AB O (Ag Bg b.1 O cj Ae O λck=>AB O ?_))
   obtain⟨es,az,j⟩:=bd j
   refine A5 O O O Hn O (λh' o=>Bs (St.all h') ck (iq (n:=1) O) (iq (n:=64) O) az) (AJ O ?_)
   cases j
   exact AU O
  refine AA O ?_
  obtain⟨cl,k,E⟩:=bd E
  refine AV 6 104 (.bool cl) ?_ ?_
  ·cases ah:af
   ·have k:=GM ah k
    cases k
    exact Aa O O
   have k:=GL ah k
   refine AB O (Af O V I2 Nr O λet cm=>AB O (Ag Bg b.1 O cm Ae O λcn=>AB O (Af O V D5 JI O λeu co=>AB O (Ag Bg b.1 O co Ae O λcp=>AB O ?_))))
   obtain⟨ev,a0,k⟩:=bd k
   refine A5 O O O Hn O (λh' o=>Bs (St.all h') cn (iq (n:=0) O) cp a0) (AJ O ?_)
   cases k
   exact AU O
  refine AY O (BQ (kp [2] O) λew a1 cq=>Ad (λaa ww Q U=>?_))
  cases E
  exact Dr Q U O O (e5.trans (H.trans cq)) ⟨O,a1⟩
 refine AH (BK O (AL O (kp [105,1] O) (AX O E (λcr E=>?_) (λcr E=>?_))))
 ·refine AC (Bt (.inl O) b ?_)
  have J:=I.mono H
  refine Af O J A4.f_Num IT O λex cs=>Ag Bg b.1 O cs Ae O λct=>?_
  obtain⟨cu,a2,E⟩:=bd E
  refine A5 O O O JZ O (λh' o=>B0 (St.all h') ct a2) (AA O ?_)
  obtain⟨ai,m,E⟩:=bd E
  refine AV 4 114 (.bool ai) ?_ ?_
  ·cases aj:cu
   ·have m:=GM aj m
    cases m
    exact Aa O O
   have m:=GL aj m
   refine AB O (Af O J A4.f_Den JK O λey cv=>AB O (Ag Bg b.1 O cv Ae O λcw=>AB O ?_))
   obtain⟨ez,a3,m⟩:=bd m
   refine A5 O O O Hn O (λh' o=>Bs (St.all h') cw (iq (n:=1) O) (iq (n:=1125899906842624) O) a3) (AJ O ?_)
   cases m
   exact AU O
  refine AA O ?_
  obtain⟨ak,p,E⟩:=bd E
  refine AV 4 119 (.bool ak) ?_ ?_
  ·cases al:ai
   ·have p:=GM al p
    cases p
    exact Aa O O
   have p:=GL al p
   refine AB O (Af O J Jq Nu O λe0 cx=>AB O (Ag Bg b.1 O cx Ae O λcy=>AB O ?_))
   obtain⟨e1,a4,p⟩:=bd p
   refine A5 O O O JZ O (λh' o=>B0 (St.all h') cy a4) (AJ O ?_)
   cases p
   exact AU O
  refine AA O ?_
  obtain⟨Y,s,E⟩:=bd E
  refine AV 4 124 (.bool Y) ?_ ?_
  ·cases am:ak
   ·have s:=GM am s
    cases s
    exact Aa O O
   have s:=GL am s
   refine AB O (Af O J Jr Nt O λe2 cz=>AB O (Ag Bg b.1 O cz Ae O λc0=>AB O ?_))
   obtain⟨e3,a5,s⟩:=bd s
   refine A5 O O O JZ O (λh' o=>B0 (St.all h') c0 a5) (AJ O ?_)
   cases s
   exact AU O
  refine AA O (AV 6 131 (.bool (Y&&(decide (d.Break<d.Prime)))) ?_ ?_)
  ·cases e4:Y
   ·exact Aa O O
   exact AB O (Af O J Jr Nt O λe6 c1=>AB O (Ag Bg b.1 O c1 Ae O λe7=>AB O (Af O J Jq Nu O λe8 c2=>AB O (Ag Bg b.1 O c2 Ae O λe9=>AB O (Ao O (AJ O (AU O)))))))
  refine AY O (BQ (kp [2] O) λfb a6 c3=>Ad (λaa ww Q U=>?_))
  cases E
  exact Dr Q U O O (e5.trans (H.trans c3)) ⟨O,a6⟩
 refine AO (BP (AC (Bt (.inl O) b ?_)))
 have M:=I.mono H
 refine Af O M A4.f_Num IT O λfc c4=>Ag Bg b.1 O c4 Ae O λc5=>?_
 obtain⟨c6,a7,E⟩:=bd E
 refine A5 O O O JZ O (λh' o=>B0 (St.all h') c5 a7) (AA O ?_)
 obtain⟨an,t,E⟩:=bd E
 refine AV 4 139 (.bool an) ?_ ?_
 ·cases ao:c6
  ·have t:=GM ao t
   cases t
   exact Aa O O
  have t:=GL ao t
  refine AB O (Af O M A4.f_Den JK O λfd c7=>AB O (Ag Bg b.1 O c7 Ae O λc8=>AB O ?_))
  obtain⟨fe,a8,t⟩:=bd t
  refine A5 O O O Hn O (λh' o=>Bs (St.all h') c8 (iq (n:=1) O) (iq (n:=1125899906842624) O) a8) (AJ O ?_)
  cases t
  exact AU O
 refine AA O ?_
 obtain⟨Z,u,E⟩:=bd E
 refine AV 6 146 (.bool Z) ?_ ?_
 ·cases ap:an
  ·have u:=GM ap u
   cases u
   exact Aa O O
  have u:=GL ap u
  refine AB O (Af O M IE Kl O λff c9=>AB O (Ag Bg b.1 O c9 Ae O λda=>AB O (Af O M G7 J1 O λfg db=>AB O (Ag Bg b.1 O db Ae O λdc=>AB O ?_))))
  obtain⟨fh,a9,u⟩:=bd u
  refine A5 O O O XN O (λh' o=>JC (St.all h') da dc a9) (AJ O ?_)
  cases u
  exact AU O
 refine AA O (AV 4 151 (.bool (Z&&(decide (d.To≠(-1))))) ?_ ?_)
 ·cases fi:Z
  ·exact Aa O O
  exact AB O (Af O M A4.f_To Ht O λfj dd=>AB O (Ag Bg b.1 O dd Ae O λfk=>AB O (Bl O (AJ O (AU O)))))
 refine AY O (BQ (kp [2] O) λfl ba de=>Ad (λaa ww Q U=>?_))
 cases E
 exact Dr Q U O O (e5.trans (H.trans de)) ⟨O,ba⟩
theorem L8 (hs:St S L h) {d:Value}{a:A4}(j:Rd S h Bv d a) {r:Bool}(E:GU N a=some r):
 CL Tryz.prog 77 #[d] S h (λv S' h'=>v= .bool r∧St S' (L) h'):=by
 refine BF (l:=[d]) 112 Tryz.func77 O Tryz.ntmps77 O λB=>?_
 rw[GU] at E
 refine WF.sl (B3 O j (λe=>by cases e) O hs λq1 S2 h3 b k c=>AI 1 (AY O (AG (AZ (kp [1] O) (AH (Af O c A4.f_Kind GF O λq7 k8=>Ag A6 b.1 O k8 Ae O λr9=>BK O (AL O (kp [3,1] O) (AC (AH (AA O (BZ O (AA O (AV 24 33 (.bool ((!(decide (a.Kind=0)))&&((((decide (0<(↑a.Rate.length:Int)))||(decide (0<(↑a.Band.Lo.length:Int))))||(decide (0<(↑a.Band.Hi.length:Int))))||(decide (a.Leak≠0))))) ?_ ?_)))))))))))))
 ·cases ae:(!(decide (a.Kind=0)))
  ·exact Aa O O
  refine AB O (Af O c JW Mu O λaf o=>AB O (Al A6 b.1 O o IQ O λag p=>AB O (Ak O p H5 O λah=>AB O (Bk O (AB O (AA O (AV 6 20 (.bool ((decide (0<(↑a.Rate.length:Int)))||(decide (0<(↑a.Band.Lo.length:Int))))) ?_ ?_)))))))
  ·cases ai:(decide (0<(↑a.Rate.length:Int)))
   ·exact AB O (Af O c Il K2 O λaj s=>AB O (Af O s NX PM O λak t=>AB O (Al A6 b.1 O t IQ O λal u=>AB O (Ak O u H5 O λam=>AB O (Bk O (AB O (AJ O (AU O))))))))
   exact Aa O O
  refine AB O (AA O (AV 6 27 (.bool (((decide (0<(↑a.Rate.length:Int)))||(decide (0<(↑a.Band.Lo.length:Int))))||(decide (0<(↑a.Band.Hi.length:Int))))) ?_ ?_))
  ·cases an:((decide (0<(↑a.Rate.length:Int)))||(decide (0<(↑a.Band.Lo.length:Int))))
   ·exact AB O (Af O c Il K2 O λao w=>AB O (Af O w NY PL O λap x=>AB O (Al A6 b.1 O x IQ O λaq y=>AB O (Ak O y H5 O λar=>AB O (Bk O (AB O (AJ O (AU O))))))))
   exact Aa O O
  refine AB O (AA O (AV 4 32 (.bool ((((decide (0<(↑a.Rate.length:Int)))||(decide (0<(↑a.Band.Lo.length:Int))))||(decide (0<(↑a.Band.Hi.length:Int))))||(decide (a.Leak≠0)))) ?_ ?_))
  ·cases au:(((decide (0<(↑a.Rate.length:Int)))||(decide (0<(↑a.Band.Lo.length:Int))))||(decide (0<(↑a.Band.Hi.length:Int))))
   ·exact AB O (Af O c Lu Rl O λav z=>AB O (Ag A6 b.1 O z Ae O λaw=>AB O (Bl O (AB O (AJ O (AU O))))))
   exact Aa O O
  exact AJ O (AU O)
 refine AM (kp [33,3,1] O) (AX O E (λA E=>?_) (λA E=>?_))
 ·refine AH (AL O (kp [2] O) (Ad (λm n g i=>?_)))
  cases E
  exact Dr g i O O k ⟨O,b⟩
 refine AO (AC (AH (AA O (BZ O (AA O (AV 4 40 (.bool ((!(decide (a.Kind=0)))&&(decide (a.Kind≠2)))) ?_ ?_))))))
 ·cases ax:(!(decide (a.Kind=0)))
  ·exact Aa O O
  exact AB O (Af O c A4.f_Kind GF O λay C=>AB O (Ag A6 b.1 O C Ae O λaz=>AB O (Bl O (AJ O (AU O)))))
 refine AA O (AV 9 50 (.bool (((!(decide (a.Kind=0)))&&(decide (a.Kind≠2)))&&((decide (a.Positions≠0))||(decide (a.Speed≠0))))) ?_ ?_)
 ·cases a0:((!(decide (a.Kind=0)))&&(decide (a.Kind≠2)))
  ·exact Aa O O
  refine AB O (Af O c D5 JI O λa1 D=>AB O (Ag A6 b.1 O D Ae O λa2=>AB O (Bl O (AB O (AA O (AV 4 49 (.bool ((decide (a.Positions≠0))||(decide (a.Speed≠0)))) ?_ ?_))))))
  ·cases a3:(decide (a.Positions≠0))
   ·exact AB O (Af O c I2 Nr O λa4 F=>AB O (Ag A6 b.1 O F Ae O λa5=>AB O (Bl O (AB O (AJ O (AU O))))))
   exact Aa O O
  exact AJ O (AU O)
 refine AM (kp [50,3,1] O) (AX O E (λG E=>?_) (λG E=>?_))
 ·refine AH (AL O (kp [2] O) (Ad (λm n g i=>?_)))
  cases E
  exact Dr g i O O k ⟨O,b⟩
 refine AO (AC (AH (Af O c A4.f_Kind GF O λa6 H=>Ag A6 b.1 O H Ae O λa7=>Bl O (AA O (AV 4 58 (.bool ((decide (a.Kind≠1))&&(decide (a.Kind≠5)))) ?_ ?_)))))
 ·cases a8:(decide (a.Kind≠1))
  ·exact Aa O O
  exact AB O (Af O c A4.f_Kind GF O λa9 I=>AB O (Ag A6 b.1 O I Ae O λba=>AB O (Bl O (AJ O (AU O)))))
 refine AA O (AV 4 63 (.bool (((decide (a.Kind≠1))&&(decide (a.Kind≠5)))&&(decide (a.Crest≠0)))) ?_ ?_)
 ·cases bb:((decide (a.Kind≠1))&&(decide (a.Kind≠5)))
  ·exact Aa O O
  exact AB O (Af O c LG Rk O λbc J=>AB O (Ag A6 b.1 O J Ae O λbe=>AB O (Bl O (AJ O (AU O)))))
 refine AM (kp [63,3,1] O) (AX O E (λK E=>?_) (λK E=>?_))
 ·refine AH (AL O (kp [2] O) (Ad (λm n g i=>?_)))
  cases E
  exact Dr g i O O k ⟨O,b⟩
 refine AO (AC (AH (AA O (AA O (AV 4 69 (.bool ((decide (a.Kind=0))&&(decide (a.Num≠0)))) ?_ ?_)))))
 ·cases bf:(decide (a.Kind=0))
  ·exact Aa O O
  exact AB O (Af O c A4.f_Num IT O λbg M=>AB O (Ag A6 b.1 O M Ae O λbh=>AB O (Bl O (AJ O (AU O)))))
 refine AA O (AV 12 82 (.bool (((decide (a.Kind=0))&&(decide (a.Num≠0)))||(((decide (a.Kind=0))||(decide (a.Kind=2)))&&(decide (a.Den≠0))))) ?_ ?_)
 ·cases bi:((decide (a.Kind=0))&&(decide (a.Num≠0)))
  ·refine AB O (AA O (AB O (AA O (AV 4 76 (.bool ((decide (a.Kind=0))||(decide (a.Kind=2)))) ?_ ?_))))
   ·cases bj:(decide (a.Kind=0))
    ·exact AB O (Af O c A4.f_Kind GF O λbk Q=>AB O (Ag A6 b.1 O Q Ae O λbl=>AB O (BK O (AB O (AJ O (AU O))))))
    exact Aa O O
   refine AB O (AA O (AV 4 81 (.bool (((decide (a.Kind=0))||(decide (a.Kind=2)))&&(decide (a.Den≠0)))) ?_ ?_))
   ·cases bm:((decide (a.Kind=0))||(decide (a.Kind=2)))
    ·exact Aa O O
    exact AB O (Af O c A4.f_Den JK O λbn U=>AB O (Ag A6 b.1 O U Ae O λbo=>AB O (Bl O (AB O (AJ O (AU O))))))
   exact AJ O (AU O)
  exact Aa O O
 refine AM (kp [82,3,1] O) (AX O E (λV E=>?_) (λV E=>?_))
 ·refine AH (AL O (kp [2] O) (Ad (λm n g i=>?_)))
  cases E
  exact Dr g i O O k ⟨O,b⟩
 refine AO (AC (AH (Af O c A4.f_Kind GF O λbp W=>Ag A6 b.1 O W Ae O λbq=>Bl O (AA O (AV 9 95 (.bool ((decide (a.Kind≠3))&&((decide (a.Prime≠0))||(decide (a.Break≠0))))) ?_ ?_)))))
 ·cases br:(decide (a.Kind≠3))
  ·exact Aa O O
  refine AB O (Af O c Jq Nu O λbs X=>AB O (Ag A6 b.1 O X Ae O λbt=>AB O (Bl O (AB O (AA O (AV 4 94 (.bool ((decide (a.Prime≠0))||(decide (a.Break≠0)))) ?_ ?_))))))
  ·cases bu:(decide (a.Prime≠0))
   ·exact AB O (Af O c Jr Nt O λbv Y=>AB O (Ag A6 b.1 O Y Ae O λbw=>AB O (Bl O (AB O (AJ O (AU O))))))
   exact Aa O O
  exact AJ O (AU O)
 refine AM (kp [95,3,1] O) (AX O E (λZ E=>?_) (λZ E=>?_))
 ·refine AH (AL O (kp [2] O) (Ad (λm n g i=>?_)))
  cases E
  exact Dr g i O O k ⟨O,b⟩
 refine AO (AH (AA O (AA O (AV 4 101 (.bool ((decide (a.Kind=0))||(decide (a.Kind=4)))) ?_ ?_))))
 ·cases bx:(decide (a.Kind=0))
  ·exact AB O (Af O c A4.f_Kind GF O λbz ab=>AB O (Ag A6 b.1 O ab Ae O λb0=>AB O (BK O (AJ O (AU O)))))
  exact Aa O O
 refine AA O (AV 9 111 (.bool (((decide (a.Kind=0))||(decide (a.Kind=4)))||((decide (a.BackNum=0))&&(decide (a.BackDen=0))))) ?_ ?_)
 ·cases b1:((decide (a.Kind=0))||(decide (a.Kind=4)))
  ·refine AB O (Af O c IE Kl O λb2 ac=>AB O (Ag A6 b.1 O ac Ae O λb3=>AB O (BK O (AB O (AA O (AV 4 110 (.bool ((decide (a.BackNum=0))&&(decide (a.BackDen=0)))) ?_ ?_))))))
   ·cases b4:(decide (a.BackNum=0))
    ·exact Aa O O
    exact AB O (Af O c G7 J1 O λb5 ad=>AB O (Ag A6 b.1 O ad Ae O λb6=>AB O (BK O (AB O (AJ O (AU O))))))
   exact AJ O (AU O)
  exact Aa O O
 refine AL O (kp [2] O) (Ad (λm n g i=>?_))
 cases E
 exact Dr g i O O k ⟨O,b⟩
end Go.Proofs.YtblcgjadhemlbaaGreat
