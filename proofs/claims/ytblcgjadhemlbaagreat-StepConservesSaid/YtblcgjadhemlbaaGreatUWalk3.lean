import Derived.Test.YtblcgjadhemlbaaGreatUWalk2
namespace Go.Proofs.YtblcgjadhemlbaaGreat
open Go.RowKit
set_option linter.unusedVariables false
set_option linter.unusedSimpArgs false
set_option maxRecDepth 10000
set_option maxHeartbeats 2000000
variable {N:Nat}{S:Nat→Prop}{L:List HP}{h:Av}
theorem H7 (hs:St S L h) {b:Int}(w:AG b) {a:Int}(q:AG a) {c:Int}(s:AG c) {r:Int×Int×Bool}(E:Ek N b a c=some r):
 CG Tryz.prog 88 #[vI b,vI a,vI c] S h (λv S' h'=>v= .tuple #[vI r.1,vI r.2.1,.bool r.2.2]∧AG r.1∧AG r.2.1∧St S' (L) h'):=by
 refine BB (l:=[vI b,vI a,vI c]) 61 Tryz.func88 O Tryz.ntmps88 O λB=>?_
 rw[Ek] at E
 refine AI (AY O (AY O (AL O (kp [0,1,2] O) (AD (AI (AA O (Aq O (AA O (AV 3 18 (.bool ((decide (b<0))||(decide (1125899906842624<b)))) ?_ ?_)))))))))
 ·cases V:(decide (b<0))
  ·exact AB O (AA O (AB O (Bh O (AJ O (AU O)))))
  exact Aa O O
 refine AA O (AV 3 22 (.bool (((decide (b<0))||(decide (1125899906842624<b)))||(decide (a<0)))) ?_ ?_)
 ·cases W:((decide (b<0))||(decide (1125899906842624<b)))
  ·exact AB O (AA O (AB O (Aq O (AJ O (AU O)))))
  exact Aa O O
 refine AA O (AV 3 26 (.bool ((((decide (b<0))||(decide (1125899906842624<b)))||(decide (a<0)))||(decide (1125899906842624<a)))) ?_ ?_)
 ·cases X:(((decide (b<0))||(decide (1125899906842624<b)))||(decide (a<0)))
  ·exact AB O (AA O (AB O (Bh O (AJ O (AU O)))))
  exact Aa O O
 refine AA O (AV 3 30 (.bool (((((decide (b<0))||(decide (1125899906842624<b)))||(decide (a<0)))||(decide (1125899906842624<a)))||(decide (c<1)))) ?_ ?_)
 ·cases Y:((((decide (b<0))||(decide (1125899906842624<b)))||(decide (a<0)))||(decide (1125899906842624<a)))
  ·exact AB O (AA O (AB O (Aq O (AJ O (AU O)))))
  exact Aa O O
 refine AA O (AV 3 34 (.bool ((((((decide (b<0))||(decide (1125899906842624<b)))||(decide (a<0)))||(decide (1125899906842624<a)))||(decide (c<1)))||(decide (1125899906842624<c)))) ?_ ?_)
 ·cases Z:(((((decide (b<0))||(decide (1125899906842624<b)))||(decide (a<0)))||(decide (1125899906842624<a)))||(decide (c<1)))
  ·exact AB O (AA O (AB O (Bh O (AJ O (AU O)))))
  exact Aa O O
 refine AN (kp [34,0,1,2] O) (AX O E (λH E=>?_) (λH E=>?_))
 ·refine AI (AY O (AY O (AL O (kp [8,7,6] O) (Ac (λy z d k=>?_)))))
  cases E
  exact J9 d O k (IC (Im d (v:=_) O) (IC (Im d (v:=_) O) (IC (Im d (v:=_) O) J8))) O (B9.refl S h) ⟨O,(iq (n:=0) O),(iq (n:=0) O),hs⟩
 refine AT (AD (Bl (.inl O) hs (AA O (HI O OA K5 O (AA O (HI O OA K5 O ?_))))))
 obtain⟨x,A,E⟩:=bd E
 refine H8 (v:= .tuple #[.int .u64 x.1,.int .u64 x.2]) (Ψ:=IntKind.has .u64 x.1∧IntKind.has .u64 x.2) O O O ZX O (λh' o=>(KG (St.all h') (Dz _ _) (Dz _ _) A).mono λ_ _ _ _ p=>⟨p.1,⟨p.2.1,p.2.2.1⟩⟩) λI=>?_
 obtain⟨J,C⟩:=I
 refine AA O (Bi O (Bi O (AY O (AY O (BJ (kp [10,9,2] O) λK i m=>AD (AI (AA O (AA O (HI O OA K5 O (Gv O (AN (kp [46,10,9,2] O) (AX O E (λD E=>?_) (λD E=>?_)))))))))))))
 ·refine AI (AY O (AY O (AL O (kp [8,7,6] O) (Ac (λy z d k=>?_)))))
  cases E
  exact J9 d O k (IC (Im d (v:=_) O) (IC (Im d (v:=_) O) (IC (Im d (v:=_) O) J8))) O m ⟨O,(iq (n:=0) O),(iq (n:=0) O),i⟩
 refine AT (AD (Bl (.inl O) i (AA O (AA O (AA O (HI O OA K5 O ?_))))))
 obtain⟨g,t,E⟩:=bd E
 refine H8 (v:= .tuple #[.int .u64 g.1,.int .u64 g.2]) (Ψ:=IntKind.has .u64 g.1∧IntKind.has .u64 g.2) O O O ZW O (λh' o=>(KH (St.all h') J C (Dz _ _) t).mono λ_ _ _ _ p=>⟨p.1,⟨p.2.1,p.2.2.1⟩⟩) λF=>?_
 obtain⟨M,Q⟩:=F
 refine AA O (Bi O (Bi O (AY O (AY O (BJ (kp [12,11] O) λU j u=>AD (AI (AA O (Bh O (AN (kp [56,12,11] O) (AX O E (λG E=>?_) (λG E=>?_)))))))))))
 ·refine AI (AY O (AY O (AL O (kp [8,7,6] O) (Ac (λy z d k=>?_)))))
  cases E
  exact J9 d O k (IC (Im d (v:=_) O) (IC (Im d (v:=_) O) (IC (Im d (v:=_) O) J8))) O (m.trans u) ⟨O,(iq (n:=0) O),(iq (n:=0) O),j⟩
 refine AT (AI (AA O (HI O K5 OA O (AA O (HI O K5 OA O (AY O (AY O (AL O (kp [8,7,6] O) (Ac (λy z d k=>?_))))))))))
 cases E
 exact J9 d O k (IC (Im d (v:=_) O) (IC (Im d (v:=_) O) (IC (Im d (v:=_) O) J8))) O (m.trans u) ⟨O,(BI _),(BI _),j⟩
theorem KB (hs:St S L h) {d:Value}{i:(List BO)}(s:Sl S h Bq d i) {b:Int}(t:AG b) {r:Int×Bool}(E:HL N i b=some r):
 CG Tryz.prog 102 #[d,vI b] S h (λv S' h'=>v= .tuple #[vI r.1,.bool r.2]∧AG r.1∧St S' (L) h'):=by
 refine BB (l:=[d,vI b]) 63 Tryz.func102 O Tryz.ntmps102 O λB=>?_
 rw[HL] at E
 refine WF.sl (B5 O (Mv s) (λ_=>rfl) O hs λq1 S2 h3 ac e5 k6=>B5 O (⟨_,O,O,t⟩:Rd _ _ AM.int _ b) (λ_=>rfl) O ac λq7 S8 h9 j u D=>AH 2 (AY O (AY O (AF (AZ (kp [3,2] O) (AD (Bl (.inl O) j ?_)))))))
 have w:=k6.mono u
 refine An Bb j.1 O w IL O λa2 ad=>Al O ad H3 O λae=>OL O O O ?_
 have F:Rd S8 h9 (AM.fn Tryz.prog (λx:Int=>([vI x]:List Value)) (λx:Int=>AG x) (λy:Bool=> .bool y) (λy:Bool=>True)) (.func (.func 111) #[] #[q1,q7]) (λx=>G5 N i b x):=Rd.ofFn 111 #[q1,q7] aX λS' h' s' e' L hs x y h1 h2=>(Nw hs h1 (w.mono'' s' e') (D.mono'' s' e') h2).mono λ_ _ _ _ p=>⟨p.1,trivial,p.2⟩
 obtain⟨a3,G,E⟩:=bd E
 refine CE O O O aY O (λh' o=>Oo (St.all h') (JW ae) (F.mono (o.all j.1)) G) λaf=>?_
 have a4:=af
 refine AY O (BJ (kp [6,3,2] O) λa5 c g=>AD (AI (AA O (BH O (AN (kp [16,6,3,2] O) (AX O E (λag E=>?_) (λag E=>?_)))))))
 ·refine AI (An A6 c.1 O (w.mono g) IL O λa6 ah=>?_)
  obtain⟨a7,H,E⟩:=bd E
  refine BD O O ah H3 H O λa8 ai=>Ai O ai Kp IH O λa9 aj=>Ah A6 c.1 O aj Ag O λak=>AY O (AL O (kp [5,4] O) (Ac (λaa ww k I=>?_)))
  cases E
  exact J9 k O I (IC (Im k (v:=_) O) (IC (Im k (v:=_) O) J8)) O (e5.trans (u.trans g)) ⟨O,ak,c⟩
 refine AT (WF.sl (AH 5 ?_))
 have J:=w.mono g
 refine An A6 c.1 O J IL O λba am=>AA O (Cg O ?_)
 obtain⟨K,M,E⟩:=bd E
 refine BD O O am H3 M O λbb an=>B4 A6 c.1 O an OU (λe=>by cases e) O λbc ao=>AF (Cs T3 O c λbe bf Q m=>?_)
 obtain⟨rfl,⟨bg,ap⟩⟩:=Bq.ex (ao.mono m)
 refine Dh (vs:=[vI K.X,vI K.Y]) O O O O OU O Q .head O λbh a z=>AZ (kp [7,6,3,2] O) (AD (AI (AA O ?_)))
 have C:=J.mono (m.trans z)
 refine An A6 a.1 O C IL O λbi aq=>Al O aq H3 O λbj=>BH O (AN (kp [29,7,6,3,2] O) (AX O E (λar E=>?_) (λar E=>?_)))
 ·refine AI (AC IH O (AS A6 a O mh O Ag O (AY O (AL O (kp [5,4] O) (Ac (λaa ww k I=>?_))))))
  have U:=a.drop .head
  cases E
  exact J9 k O I (IC (Im k (v:=_) O) (IC (Im k (v:=_) O) J8)) O (e5.trans (u.trans (g.trans (m.trans z)))) ⟨O,ap,U⟩
 refine AT (AD (Bl (.inr ⟨mo,by kernel_rfl⟩) a (Ah Bb a.1 O (D.mono (g.trans (m.trans z))) Ag O λbk=>AC Iy O (AS Bb a O mh O Ag O (Cg O (An Bb a.1 O C IL O λbl au=>AA O ?_))))))
 obtain⟨bm,V,E⟩:=bd E
 refine BD O O au H3 V O λbn av=>Ai O av Kp IH O λbo aw=>Ah Bb a.1 O aw Ag O λbp=>AC IH O (AS Bb a O mh O Ag O (Cg O (An Bb a.1 O C IL O λbq ax=>AA O ?_)))
 obtain⟨br,W,E⟩:=bd E
 refine BD O O ax H3 W O λbs ay=>Ai O ay Kq Iy O λbt az=>Ah Bb a.1 O az Ag O λbu=>AC Iy O (AS Bb a O mh O Ag O (Cg O ?_))
 obtain⟨n,Z,E⟩:=bd E
 refine H8 (v:= .tuple #[vI n.1,vI n.2.1,.bool n.2.2]) (Ψ:=AG n.1∧AG n.2.1) O O O TD O (λh' o=>(H7 (St.all h') (BI _) (BI _) (BI _) Z).mono λ_ _ _ _ p=>⟨p.1,⟨p.2.1,p.2.2.1⟩⟩) λa0=>?_
 obtain⟨bv,bw⟩:=a0
 refine AA O (Bi O (Bi O (Bi O (AY O (AY O (AY O (BJ (kp [9,8,7] O) λbx A a1=>AI (AC IH O (AS A6 A O mh O Ag O (AA O (Af O (AA O (Bh O (AY O (AL O (kp [5,4] O) (Ac (λaa ww k I=>?_)))))))))))))))))
 have ab:=A.drop .head
 cases E
 exact J9 k O I (IC (Im k (v:=_) O) (IC (Im k (v:=_) O) J8)) O (e5.trans (u.trans (g.trans (m.trans (z.trans a1))))) ⟨O,(BI _),ab⟩
theorem Lv (hs:St S L h) {b:Value}{i:(List BO)}(k:Sl S h Bq b i) {c:Value}{j:(List BO)}(m:Sl S h Bq c j) {r:Bool}(E:Gb N i j=some r):
 CG Tryz.prog 93 #[b,c] S h (λv S' h'=>v= .bool r∧St S' (L) h'):=by
 refine BB (l:=[b,c]) 66 Tryz.func93 O Tryz.ntmps93 O λB=>?_
 rw[Gb] at E
 refine AI (AL O (kp [0,1] O) (AD (AD (Bl (.inl O) hs (AA O ?_)))))
 obtain⟨y1,ay,E⟩:=bd E
 refine Az O O O Py O (λh' o=>GJ (St.all h') (k.mono' (o.all hs.1)) ay) (BV O (AA O ?_))
 obtain⟨b4,t,E⟩:=bd E
 refine AV 4 20 (.bool b4) ?_ ?_
 ·cases c3:(!y1)
  ·have t:=GB c3 t
   refine AB O (AA O (AB O ?_))
   obtain⟨y5,az,t⟩:=bd t
   refine Az O O O Py O (λh' o=>GJ (St.all h') (m.mono' (o.all hs.1)) az) (AB O (BV O (AJ O ?_)))
   cases t
   exact AU O
  have t:=GA c3 t
  cases t
  exact Aa O O
 refine BJ (kp [20,0,1] O) λh7 ad U=>AX O E (λa0 E=>?_) (λa0 E=>?_)
 ·refine AI (AL O (kp [4] O) (Ac (λp s d g=>?_)))
  cases E
  exact Dm d g O O U ⟨O,ad⟩
 refine AT (AD (AI (AA O ?_)))
 have ae:=k.mono' U
 refine Al O ae H3 O λbf=>AA O (AN (kp [23,22,21,0,1] O) (Am (λa w=>IV B S h7 (66,[]) a w [(0,b),(1,c)] (L) λ_ _=>FG N i j=some r) ?_ ?_))
 ·refine A3 (λn1=>λa w=>∃(z:Int),IV B S h7 (66,[]) a w [(22,vI (↑i.length:Int)),(21,b),(0,b),(1,c),(23,vI z)] (L) λ_ _=>AG z∧FE N i j (FG N i j) n1 z=some r) N ?_ ?_ ?_
  ·intro p s d g
   exact⟨0,_,_,d.sub (kp [22,21,0,1,23] O),g,ad,(B9.refl S h7),(iq (n:=0) O),E⟩
  ·rintro p s ⟨_,_,_,_,_,_,_,_,E⟩
   rw[FE] at E;cases E
  rintro n1 p s ⟨z,bg,bh,d,g,A,C,bi,E⟩
  refine Ad ?_ d g
  clear d g s p
  rw[FE] at E
  refine AI (Aq O (AN (kp [24,22,21,0,1,23] O) (AD (AX O E (λa1 E=>?_) (λa1 E=>?_)))))
  ·refine AT (AD (A5 (WF.sl (AH 2 ?_))))
   obtain⟨af,ag,E⟩:=bd E
   refine BD O O (ae.mono' C) H3 ag O λbj a2=>B4 A6 A.1 O a2 OU (λe=>by cases e) O λbk a3=>AF (Cs T3 O A λbl bm ah K=>?_)
   obtain⟨rfl,⟨a4,bn⟩⟩:=Bq.ex (a3.mono K)
   refine Dh (vs:=[vI af.X,vI af.Y]) O O O O OU O ah .head O λbo D V=>AZ (kp [6,22,21,0,1,23] O) (AD (Bl (.inl O) D (AA O (AC Iy O (AS Bb D O mh O Ag O ?_)))))
   obtain⟨bp,ai,E⟩:=bd E
   refine CE O O O Tn O (λh' o=>KB (St.all h') ((m.mono' (U.trans (C.trans (K.trans V)))).mono' (o.all D.1)) a4 ai) λa5=>?_
   have bq:=a5
   refine AA O (Bi O (Bi O (AY O (AY O (BJ (kp [7,6,22,21,0,1,23] O) λbr F aj=>AI (AC IH O (AS A6 F O mh O Ag O (AA O (Bh O (AN (kp [37,22,21,0,1,23] O) (AX O E (λa6 E=>?_) (λa6 E=>?_))))))))))))
   ·refine AI (AL O (kp [4] O) (Ac (λp s d g=>?_)))
    have ak:=F.drop .head
    cases E
    exact Dm d g O O (U.trans (C.trans (K.trans (V.trans aj)))) ⟨O,ak⟩
   refine AT (BK (BY (.inl O) (Af O (AA O (AN (kp [23,22,21,0,1] O) (WF.nil (λp s d g=>?_)))))))
   have am:=F.drop .head
   exact⟨(BC (z+1)),_,_,d.sub (kp [22,21,0,1,23] O),g,am,(C.trans (K.trans (V.trans aj))),(BI _),E⟩
  refine A9 O (λp s d g=>?_)
  exact⟨_,_,d.sub (kp [0,1] O),g,A,C,E⟩
 rintro p s ⟨W,Z,d,g,an,M,E⟩
 refine Ad ?_ d g
 clear d g s p
 rw[FG] at E
 refine AD (AI (AA O ?_))
 have ao:=m.mono' (U.trans M)
 refine Al O ao H3 O λbs=>AA O (AN (kp [41,40,39,0] O) (Am (λa w=>IV B W Z (66,[]) a w [] (L) λ_ _=>Gf N=some r) ?_ ?_))
 ·refine A3 (λn3=>λa w=>∃(G:Int),IV B W Z (66,[]) a w [(40,vI (↑j.length:Int)),(39,c),(0,b),(41,vI G)] (L) λ_ _=>AG G∧FD N i j (Gf N) n3 G=some r) N ?_ ?_ ?_
  ·intro p s d g
   exact⟨0,_,_,d.sub (kp [40,39,0,41] O),g,an,(B9.refl W Z),(iq (n:=0) O),E⟩
  ·rintro p s ⟨_,_,_,_,_,_,_,_,E⟩
   rw[FD] at E;cases E
  rintro n3 p s ⟨G,bt,bu,d,g,H,I,bv,E⟩
  refine Ad ?_ d g
  clear d g s p
  rw[FD] at E
  refine AI (Aq O (AN (kp [42,40,39,0,41] O) (AD (AX O E (λa7 E=>?_) (λa7 E=>?_)))))
  ·refine AT (AD (A5 (WF.sl (AH 2 ?_))))
   obtain⟨u,ap,E⟩:=bd E
   refine BD O O (ao.mono' I) H3 ap O λbw a8=>B4 A6 H.1 O a8 OU (λe=>by cases e) O λbx a9=>AF (Cs T3 O H λbz b0 aq Q=>?_)
   obtain⟨rfl,⟨ba,b1⟩⟩:=Bq.ex (a9.mono Q)
   refine Dh (vs:=[vI u.X,vI u.Y]) O O O O OU O aq .head O λb2 J ab=>AZ (kp [10,40,39,0,41] O) (AD (Bl (.inl O) J (AA O (AC Iy O (AS Bb J O mh O Ag O ?_)))))
   obtain⟨x,ar,E⟩:=bd E
   refine CE O O O Tn O (λh' o=>KB (St.all h') ((k.mono' (U.trans (M.trans (I.trans (Q.trans ab))))).mono' (o.all J.1)) ba ar) λbb=>?_
   have b3:=bb
   refine AA O (Bi O (Bi O (AY O (AY O (BJ (kp [12,11,10,40,39,0,41] O) λb5 y au=>AI (AA O (AC IH O (AS A6 y O mh O Ag O (Bh O (AA O (AV 8 64 (.bool ((decide (u.Y<x.1))||((decide (x.1=u.Y))&&x.2))) ?_ ?_)))))))))))
   ·cases b6:(decide (u.Y<x.1))
    ·refine AB O (AA O (AB O (AC IH O (AB O (AS A6 y O mh O Ag O (AB O (BH O (AB O (AA O (AV 2 63 (.bool ((decide (x.1=u.Y))&&x.2)) ?_ ?_))))))))))
     ·cases b7:(decide (x.1=u.Y))
      ·exact Aa O O
      exact AB O (AA O (AB O (AJ O (AU O))))
     exact AJ O (AU O)
    exact Aa O O
   refine AN (kp [64,40,39,0,41] O) (AX O E (λbc E=>?_) (λbc E=>?_))
   ·refine AI (AL O (kp [4] O) (Ac (λp s d g=>?_)))
    have av:=y.drop .head
    cases E
    exact Dm d g O O (U.trans (M.trans (I.trans (Q.trans (ab.trans au))))) ⟨O,av⟩
   refine AT (BK (BY (.inl O) (Af O (AA O (AN (kp [41,40,39,0] O) (WF.nil (λp s d g=>?_)))))))
   have aw:=y.drop .head
   exact⟨(BC (G+1)),_,_,d.sub (kp [40,39,0,41] O),g,aw,(I.trans (Q.trans (ab.trans au))),(BI _),E⟩
  refine A9 O (λp s d g=>?_)
  exact⟨_,_,d.sub Ou,g,H,I,E⟩
 rintro p s ⟨b8,be,d,g,ac,ax,E⟩
 refine Ad ?_ d g
 clear d g s p
 rw[Gf] at E
 refine AI (AL O (kp [4] O) (Ac (λp s d g=>?_)))
 cases E
 exact Dm d g O O (U.trans (M.trans ax)) ⟨O,ac⟩
theorem MA (hs:St S L h) {K:Value}{d:Ay}(ab:Rd S h Bu K d) {r:Bool}(E:GT N d=some r):
 CG Tryz.prog 76 #[K] S h (λv S' h'=>v= .bool r∧St S' (L) h'):=by
 refine BB (l:=[K]) 152 Tryz.func76 O Tryz.ntmps76 O λB=>?_
 rw[GT] at E
 refine WF.sl (B5 O ab (λe=>by cases e) O hs λq1 S2 h3 c e5 I=>AH 1 (AY O (AF (AZ (kp [1] O) (AD (AI (Ai O I Ay.f_Kind GD O λq7 k8=>Ah A6 c.1 O k8 Ag O λr9=>AN (kp [4,1] O) (A5 (AI (BH O (AL O (kp [5,4,1] O) (AX O E (λdf E=>?_) (λdf E=>?_)))))))))))))
 ·refine AD (Bl (.inl O) c (Ai O I JU Mr O λfm dg=>An Bb c.1 O dg IL O λfn dh=>?_))
  obtain⟨di,bb,E⟩:=bd E
  refine Az O O O Py O (λh' o=>GJ (St.all h') (dh.mono' (o.all c.1)) bb) (AA O ?_)
  obtain⟨bc,x,E⟩:=bd E
  refine AV 5 15 (.bool bc) ?_ ?_
  ·cases be:di
   ·have x:=GB be x
    cases x
    exact Aa O O
   have x:=GA be x
   refine AB O (Ai O I Ij Ky O λfo dj=>AB O (Ai O dj NS PJ O λfp dk=>AB O (An Bb c.1 O dk IL O λfq dl=>AB O ?_)))
   obtain⟨fr,bf,x⟩:=bd x
   refine Az O O O Py O (λh' o=>GJ (St.all h') (dl.mono' (o.all c.1)) bf) (AJ O ?_)
   cases x
   exact AU O
  refine AA O ?_
  obtain⟨bg,y,E⟩:=bd E
  refine AV 5 21 (.bool bg) ?_ ?_
  ·cases bh:bc
   ·have y:=GB bh y
    cases y
    exact Aa O O
   have y:=GA bh y
   refine AB O (Ai O I Ij Ky O λfs dm=>AB O (Ai O dm NT PI O λft dn=>AB O (An Bb c.1 O dn IL O λfu dp=>AB O ?_)))
   obtain⟨fv,bi,y⟩:=bd y
   refine Az O O O Py O (λh' o=>GJ (St.all h') (dp.mono' (o.all c.1)) bi) (AJ O ?_)
   cases y
   exact AU O
  refine AA O ?_
  obtain⟨bj,z,E⟩:=bd E
  refine AV 7 29 (.bool bj) ?_ ?_
  ·cases bk:bg
   ·have z:=GB bk z
    cases z
    exact Aa O O
   have z:=GA bk z
   refine AB O (Ai O I Ij Ky O λfw dq=>AB O (Ai O dq NS PJ O λfx dr=>AB O (An Bb c.1 O dr IL O λfy ds=>AB O (Ai O I JU Mr O λfz dt=>AB O (An Bb c.1 O dt IL O λf0 du=>AB O ?_)))))
   obtain⟨f1,bl,z⟩:=bd z
   refine Az O O O ZY O (λh' o=>Lv (St.all h') (ds.mono' (o.all c.1)) (du.mono' (o.all c.1)) bl) (AJ O ?_)
   cases z
   exact AU O
  refine AA O ?_
  obtain⟨bm,A,E⟩:=bd E
  refine AV 7 37 (.bool bm) ?_ ?_
  ·cases bn:bj
   ·have A:=GB bn A
    cases A
    exact Aa O O
   have A:=GA bn A
   refine AB O (Ai O I JU Mr O λf2 dv=>AB O (An Bb c.1 O dv IL O λf3 dw=>AB O (Ai O I Ij Ky O λf4 dx=>AB O (Ai O dx NT PI O λf5 dy=>AB O (An Bb c.1 O dy IL O λf6 dz=>AB O ?_)))))
   obtain⟨f7,bo,A⟩:=bd A
   refine Az O O O ZY O (λh' o=>Lv (St.all h') (dw.mono' (o.all c.1)) (dz.mono' (o.all c.1)) bo) (AJ O ?_)
   cases A
   exact AU O
  refine AA O ?_
  obtain⟨bp,C,E⟩:=bd E
  refine AV 4 42 (.bool bp) ?_ ?_
  ·cases bq:bm
   ·have C:=GB bq C
    cases C
    exact Aa O O
   have C:=GA bq C
   refine AB O (Ai O I D1 JF O λf8 d0=>AB O (Ah Bb c.1 O d0 Ag O λd1=>AB O ?_))
   obtain⟨f9,br,C⟩:=bd C
   refine Az O O O Hn O (λh' o=>Bp (St.all h') d1 (iq (n:=0) O) (iq (n:=64) O) br) (AJ O ?_)
   cases C
   exact AU O
  refine AA O ?_
  obtain⟨bs,D,E⟩:=bd E
  refine AV 6 49 (.bool bs) ?_ ?_
  ·cases bt:bp
   ·have D:=GB bt D
    cases D
    exact Aa O O
   have D:=GA bt D
   refine AB O (Ai O I Ix Np O λga d2=>AB O (Ah Bb c.1 O d2 Ag O λd3=>AB O (Ai O I D1 JF O λgb d4=>AB O (Ah Bb c.1 O d4 Ag O λd5=>AB O ?_))))
   obtain⟨gc,bu,D⟩:=bd D
   refine Az O O O Hn O (λh' o=>Bp (St.all h') d3 (iq (n:=0) O) d5 bu) (AJ O ?_)
   cases D
   exact AU O
  refine AA O ?_
  obtain⟨bv,F,E⟩:=bd E
  refine AV 4 54 (.bool bv) ?_ ?_
  ·cases bw:bs
   ·have F:=GB bw F
    cases F
    exact Aa O O
   have F:=GA bw F
   refine AB O (Ai O I Lt Rf O λgd d6=>AB O (Ah Bb c.1 O d6 Ag O λd7=>AB O ?_))
   obtain⟨ge,bx,F⟩:=bd F
   refine Az O O O JZ O (λh' o=>Bv (St.all h') d7 bx) (AJ O ?_)
   cases F
   exact AU O
  refine AA O ?_
  obtain⟨aq,G,E⟩:=bd E
  refine AV 6 61 (.bool aq) ?_ ?_
  ·cases bz:bv
   ·have G:=GB bz G
    cases G
    exact Aa O O
   have G:=GA bz G
   refine AB O (Ai O I IB Kj O λgf d8=>AB O (Ah Bb c.1 O d8 Ag O λd9=>AB O (Ai O I G7 Jx O λgg ea=>AB O (Ah Bb c.1 O ea Ag O λeb=>AB O ?_))))
   obtain⟨gh,b0,G⟩:=bd G
   refine Az O O O XT O (λh' o=>I8 (St.all h') d9 eb b0) (AJ O ?_)
   cases G
   exact AU O
  refine AA O (AV 9 71 (.bool (aq&&((decide (d.To≠(-1)))||(decide (d.BackDen=0))))) ?_ ?_)
  ·cases gi:aq
   ·exact Aa O O
   refine AB O (Ai O I Ay.f_To Hs O λec b1=>AB O (Ah Bb c.1 O b1 Ag O λed=>AB O (Bc O (AB O (AA O (AV 4 70 (.bool ((decide (d.To≠(-1)))||(decide (d.BackDen=0)))) ?_ ?_))))))
   ·cases ee:(decide (d.To≠(-1)))
    ·exact AB O (Ai O I G7 Jx O λef b2=>AB O (Ah Bb c.1 O b2 Ag O λeg=>AB O (BH O (AB O (AJ O (AU O))))))
    exact Aa O O
   exact AJ O (AU O)
  refine AY O (BJ (kp [2] O) λeh ar b3=>Ac (λaa ww Q U=>?_))
  cases E
  exact Dm Q U O O (e5.trans b3) ⟨O,ar⟩
 refine AD (AI (BH O (AL O (kp [72,4,1] O) (Gs (λa w=>∃(W:Bool),IV B S2 h3 (152,[]) a w [(4,vI d.Kind),(1,q1),(72,.bool W)] (L) λ_ _=>EM N d W=some r) ?_ ?_))))
 ·refine AX O E (λb4 E=>?_) (λb4 E=>?_)
  ·refine AT (WF.nil (λaa ww Q U=>?_))
   exact⟨(decide (d.Kind=1)),_,_,Q.sub (kp [4,1,72] O),U,c,(B9.refl S2 h3),E⟩
  refine BY (.inl O) (BH O (AL O (kp [72,4,1] O) (WF.nil (λaa ww Q U=>?_))))
  exact⟨(decide (d.Kind=5)),_,_,Q.sub (kp [4,1,72] O),U,c,(B9.refl S2 h3),E⟩
 rintro aa ww ⟨W,ei,ej,Q,U,b,H,E⟩
 refine Ad ?_ Q U
 clear Q U ww aa
 rw[EM] at E
 refine AX O E (λb5 E=>?_) (λb5 E=>?_)
 ·refine AD (Bl (.inl O) b ?_)
  have X:=I.mono H
  refine Ai O X LD Re O λek b6=>Ah Bb b.1 O b6 Ag O λb7=>?_
  obtain⟨b8,au,E⟩:=bd E
  refine Az O O O JZ O (λh' o=>Bv (St.all h') b7 au) (AA O ?_)
  obtain⟨ac,g,E⟩:=bd E
  refine AV 4 82 (.bool ac) ?_ ?_
  ·cases ad:b8
   ·have g:=GB ad g
    cases g
    exact Aa O O
   have g:=GA ad g
   refine AB O (Ai O X Ay.f_Num IP O λel b9=>AB O (Ah Bb b.1 O b9 Ag O λca=>AB O ?_))
   obtain⟨em,av,g⟩:=bd g
   refine Az O O O JZ O (λh' o=>Bv (St.all h') ca av) (AJ O ?_)
   cases g
   exact AU O
  refine AA O ?_
  obtain⟨cb,i,E⟩:=bd E
  refine AV 4 87 (.bool cb) ?_ ?_
  ·cases ae:ac
   ·have i:=GB ae i
    cases i
    exact Aa O O
   have i:=GA ae i
   refine AB O (Ai O X Ay.f_Den JH O λen cc=>AB O (Ah Bb b.1 O cc Ag O λcd=>AB O ?_))
   obtain⟨eo,aw,i⟩:=bd i
   refine Az O O O Hn O (λh' o=>Bp (St.all h') cd (iq (n:=1) O) (iq (n:=1125899906842624) O) aw) (AJ O ?_)
   cases i
   exact AU O
  refine AY O (BJ (kp [2] O) λep ax ce=>Ac (λaa ww Q U=>?_))
  cases E
  exact Dm Q U O O (e5.trans (H.trans ce)) ⟨O,ax⟩
 refine AI (BH O (AL O (kp [88,4,1] O) (AX O E (λcf E=>?_) (λcf E=>?_))))
 ·refine AD (Bl (.inl O) b ?_)
  have V:=I.mono H
  refine Ai O V Ay.f_Num IP O λeq cg=>Ah Bb b.1 O cg Ag O λch=>?_
  obtain⟨ci,ay,E⟩:=bd E
  refine Az O O O JZ O (λh' o=>Bv (St.all h') ch ay) (AA O ?_)
  obtain⟨af,j,E⟩:=bd E
  refine AV 4 97 (.bool af) ?_ ?_
  ·cases ag:ci
   ·have j:=GB ag j
    cases j
    exact Aa O O
   have j:=GA ag j
   refine AB O (Ai O V D1 JF O λer cj=>AB O (Ah Bb b.1 O cj Ag O λck=>AB O ?_))
   obtain⟨es,az,j⟩:=bd j
   refine Az O O O Hn O (λh' o=>Bp (St.all h') ck (iq (n:=1) O) (iq (n:=64) O) az) (AJ O ?_)
   cases j
   exact AU O
  refine AA O ?_
  obtain⟨cl,k,E⟩:=bd E
  refine AV 6 104 (.bool cl) ?_ ?_
  ·cases ah:af
   ·have k:=GB ah k
    cases k
    exact Aa O O
   have k:=GA ah k
   refine AB O (Ai O V Ix Np O λet cm=>AB O (Ah Bb b.1 O cm Ag O λcn=>AB O (Ai O V D1 JF O λeu co=>AB O (Ah Bb b.1 O co Ag O λcp=>AB O ?_))))
   obtain⟨ev,a0,k⟩:=bd k
   refine Az O O O Hn O (λh' o=>Bp (St.all h') cn (iq (n:=0) O) cp a0) (AJ O ?_)
   cases k
   exact AU O
  refine AY O (BJ (kp [2] O) λew a1 cq=>Ac (λaa ww Q U=>?_))
  cases E
  exact Dm Q U O O (e5.trans (H.trans cq)) ⟨O,a1⟩
 refine AI (BH O (AL O (kp [105,1] O) (AX O E (λcr E=>?_) (λcr E=>?_))))
 ·refine AD (Bl (.inl O) b ?_)
  have J:=I.mono H
  refine Ai O J Ay.f_Num IP O λex cs=>Ah Bb b.1 O cs Ag O λct=>?_
  obtain⟨cu,a2,E⟩:=bd E
  refine Az O O O JZ O (λh' o=>Bv (St.all h') ct a2) (AA O ?_)
  obtain⟨ai,m,E⟩:=bd E
  refine AV 4 114 (.bool ai) ?_ ?_
  ·cases aj:cu
   ·have m:=GB aj m
    cases m
    exact Aa O O
   have m:=GA aj m
   refine AB O (Ai O J Ay.f_Den JH O λey cv=>AB O (Ah Bb b.1 O cv Ag O λcw=>AB O ?_))
   obtain⟨ez,a3,m⟩:=bd m
   refine Az O O O Hn O (λh' o=>Bp (St.all h') cw (iq (n:=1) O) (iq (n:=1125899906842624) O) a3) (AJ O ?_)
   cases m
   exact AU O
  refine AA O ?_
  obtain⟨ak,p,E⟩:=bd E
  refine AV 4 119 (.bool ak) ?_ ?_
  ·cases al:ai
   ·have p:=GB al p
    cases p
    exact Aa O O
   have p:=GA al p
   refine AB O (Ai O J Jq Ns O λe0 cx=>AB O (Ah Bb b.1 O cx Ag O λcy=>AB O ?_))
   obtain⟨e1,a4,p⟩:=bd p
   refine Az O O O JZ O (λh' o=>Bv (St.all h') cy a4) (AJ O ?_)
   cases p
   exact AU O
  refine AA O ?_
  obtain⟨Y,s,E⟩:=bd E
  refine AV 4 124 (.bool Y) ?_ ?_
  ·cases am:ak
   ·have s:=GB am s
    cases s
    exact Aa O O
   have s:=GA am s
   refine AB O (Ai O J Jr Nr O λe2 cz=>AB O (Ah Bb b.1 O cz Ag O λc0=>AB O ?_))
   obtain⟨e3,a5,s⟩:=bd s
   refine Az O O O JZ O (λh' o=>Bv (St.all h') c0 a5) (AJ O ?_)
   cases s
   exact AU O
  refine AA O (AV 6 131 (.bool (Y&&(decide (d.Break<d.Prime)))) ?_ ?_)
  ·cases e4:Y
   ·exact Aa O O
   exact AB O (Ai O J Jr Nr O λe6 c1=>AB O (Ah Bb b.1 O c1 Ag O λe7=>AB O (Ai O J Jq Ns O λe8 c2=>AB O (Ah Bb b.1 O c2 Ag O λe9=>AB O (Aq O (AJ O (AU O)))))))
  refine AY O (BJ (kp [2] O) λfb a6 c3=>Ac (λaa ww Q U=>?_))
  cases E
  exact Dm Q U O O (e5.trans (H.trans c3)) ⟨O,a6⟩
 refine AT (BK (AD (Bl (.inl O) b ?_)))
 have M:=I.mono H
 refine Ai O M Ay.f_Num IP O λfc c4=>Ah Bb b.1 O c4 Ag O λc5=>?_
 obtain⟨c6,a7,E⟩:=bd E
 refine Az O O O JZ O (λh' o=>Bv (St.all h') c5 a7) (AA O ?_)
 obtain⟨an,t,E⟩:=bd E
 refine AV 4 139 (.bool an) ?_ ?_
 ·cases ao:c6
  ·have t:=GB ao t
   cases t
   exact Aa O O
  have t:=GA ao t
  refine AB O (Ai O M Ay.f_Den JH O λfd c7=>AB O (Ah Bb b.1 O c7 Ag O λc8=>AB O ?_))
  obtain⟨fe,a8,t⟩:=bd t
  refine Az O O O Hn O (λh' o=>Bp (St.all h') c8 (iq (n:=1) O) (iq (n:=1125899906842624) O) a8) (AJ O ?_)
  cases t
  exact AU O
 refine AA O ?_
 obtain⟨Z,u,E⟩:=bd E
 refine AV 6 146 (.bool Z) ?_ ?_
 ·cases ap:an
  ·have u:=GB ap u
   cases u
   exact Aa O O
  have u:=GA ap u
  refine AB O (Ai O M IB Kj O λff c9=>AB O (Ah Bb b.1 O c9 Ag O λda=>AB O (Ai O M G7 Jx O λfg db=>AB O (Ah Bb b.1 O db Ag O λdc=>AB O ?_))))
  obtain⟨fh,a9,u⟩:=bd u
  refine Az O O O XT O (λh' o=>I8 (St.all h') da dc a9) (AJ O ?_)
  cases u
  exact AU O
 refine AA O (AV 4 151 (.bool (Z&&(decide (d.To≠(-1))))) ?_ ?_)
 ·cases fi:Z
  ·exact Aa O O
  exact AB O (Ai O M Ay.f_To Hs O λfj dd=>AB O (Ah Bb b.1 O dd Ag O λfk=>AB O (Bc O (AJ O (AU O)))))
 refine AY O (BJ (kp [2] O) λfl ba de=>Ac (λaa ww Q U=>?_))
 cases E
 exact Dm Q U O O (e5.trans (H.trans de)) ⟨O,ba⟩
theorem L6 (hs:St S L h) {d:Value}{a:Ay}(j:Rd S h Bu d a) {r:Bool}(E:GQ N a=some r):
 CG Tryz.prog 77 #[d] S h (λv S' h'=>v= .bool r∧St S' (L) h'):=by
 refine BB (l:=[d]) 112 Tryz.func77 O Tryz.ntmps77 O λB=>?_
 rw[GQ] at E
 refine WF.sl (B5 O j (λe=>by cases e) O hs λq1 S2 h3 b k c=>AH 1 (AY O (AF (AZ (kp [1] O) (AI (Ai O c Ay.f_Kind GD O λq7 k8=>Ah A6 b.1 O k8 Ag O λr9=>BH O (AL O (kp [3,1] O) (AD (AI (AA O (BV O (AA O (AV 24 33 (.bool ((!(decide (a.Kind=0)))&&((((decide (0<(↑a.Rate.length:Int)))||(decide (0<(↑a.Band.Lo.length:Int))))||(decide (0<(↑a.Band.Hi.length:Int))))||(decide (a.Leak≠0))))) ?_ ?_)))))))))))))
 ·cases ae:(!(decide (a.Kind=0)))
  ·exact Aa O O
  refine AB O (Ai O c JU Mr O λaf o=>AB O (An A6 b.1 O o IL O λag p=>AB O (Al O p H3 O λah=>AB O (Bh O (AB O (AA O (AV 6 20 (.bool ((decide (0<(↑a.Rate.length:Int)))||(decide (0<(↑a.Band.Lo.length:Int))))) ?_ ?_)))))))
  ·cases ai:(decide (0<(↑a.Rate.length:Int)))
   ·exact AB O (Ai O c Ij Ky O λaj s=>AB O (Ai O s NS PJ O λak t=>AB O (An A6 b.1 O t IL O λal u=>AB O (Al O u H3 O λam=>AB O (Bh O (AB O (AJ O (AU O))))))))
   exact Aa O O
  refine AB O (AA O (AV 6 27 (.bool (((decide (0<(↑a.Rate.length:Int)))||(decide (0<(↑a.Band.Lo.length:Int))))||(decide (0<(↑a.Band.Hi.length:Int))))) ?_ ?_))
  ·cases an:((decide (0<(↑a.Rate.length:Int)))||(decide (0<(↑a.Band.Lo.length:Int))))
   ·exact AB O (Ai O c Ij Ky O λao w=>AB O (Ai O w NT PI O λap x=>AB O (An A6 b.1 O x IL O λaq y=>AB O (Al O y H3 O λar=>AB O (Bh O (AB O (AJ O (AU O))))))))
   exact Aa O O
  refine AB O (AA O (AV 4 32 (.bool ((((decide (0<(↑a.Rate.length:Int)))||(decide (0<(↑a.Band.Lo.length:Int))))||(decide (0<(↑a.Band.Hi.length:Int))))||(decide (a.Leak≠0)))) ?_ ?_))
  ·cases au:(((decide (0<(↑a.Rate.length:Int)))||(decide (0<(↑a.Band.Lo.length:Int))))||(decide (0<(↑a.Band.Hi.length:Int))))
   ·exact AB O (Ai O c Lt Rf O λav z=>AB O (Ah A6 b.1 O z Ag O λaw=>AB O (Bc O (AB O (AJ O (AU O))))))
   exact Aa O O
  exact AJ O (AU O)
 refine AN (kp [33,3,1] O) (AX O E (λA E=>?_) (λA E=>?_))
 ·refine AI (AL O (kp [2] O) (Ac (λm n g i=>?_)))
  cases E
  exact Dm g i O O k ⟨O,b⟩
 refine AT (AD (AI (AA O (BV O (AA O (AV 4 40 (.bool ((!(decide (a.Kind=0)))&&(decide (a.Kind≠2)))) ?_ ?_))))))
 ·cases ax:(!(decide (a.Kind=0)))
  ·exact Aa O O
  exact AB O (Ai O c Ay.f_Kind GD O λay C=>AB O (Ah A6 b.1 O C Ag O λaz=>AB O (Bc O (AJ O (AU O)))))
 refine AA O (AV 9 50 (.bool (((!(decide (a.Kind=0)))&&(decide (a.Kind≠2)))&&((decide (a.Positions≠0))||(decide (a.Speed≠0))))) ?_ ?_)
 ·cases a0:((!(decide (a.Kind=0)))&&(decide (a.Kind≠2)))
  ·exact Aa O O
  refine AB O (Ai O c D1 JF O λa1 D=>AB O (Ah A6 b.1 O D Ag O λa2=>AB O (Bc O (AB O (AA O (AV 4 49 (.bool ((decide (a.Positions≠0))||(decide (a.Speed≠0)))) ?_ ?_))))))
  ·cases a3:(decide (a.Positions≠0))
   ·exact AB O (Ai O c Ix Np O λa4 F=>AB O (Ah A6 b.1 O F Ag O λa5=>AB O (Bc O (AB O (AJ O (AU O))))))
   exact Aa O O
  exact AJ O (AU O)
 refine AN (kp [50,3,1] O) (AX O E (λG E=>?_) (λG E=>?_))
 ·refine AI (AL O (kp [2] O) (Ac (λm n g i=>?_)))
  cases E
  exact Dm g i O O k ⟨O,b⟩
 refine AT (AD (AI (Ai O c Ay.f_Kind GD O λa6 H=>Ah A6 b.1 O H Ag O λa7=>Bc O (AA O (AV 4 58 (.bool ((decide (a.Kind≠1))&&(decide (a.Kind≠5)))) ?_ ?_)))))
 ·cases a8:(decide (a.Kind≠1))
  ·exact Aa O O
  exact AB O (Ai O c Ay.f_Kind GD O λa9 I=>AB O (Ah A6 b.1 O I Ag O λba=>AB O (Bc O (AJ O (AU O)))))
 refine AA O (AV 4 63 (.bool (((decide (a.Kind≠1))&&(decide (a.Kind≠5)))&&(decide (a.Crest≠0)))) ?_ ?_)
 ·cases bb:((decide (a.Kind≠1))&&(decide (a.Kind≠5)))
  ·exact Aa O O
  exact AB O (Ai O c LD Re O λbc J=>AB O (Ah A6 b.1 O J Ag O λbe=>AB O (Bc O (AJ O (AU O)))))
 refine AN (kp [63,3,1] O) (AX O E (λK E=>?_) (λK E=>?_))
 ·refine AI (AL O (kp [2] O) (Ac (λm n g i=>?_)))
  cases E
  exact Dm g i O O k ⟨O,b⟩
 refine AT (AD (AI (AA O (AA O (AV 4 69 (.bool ((decide (a.Kind=0))&&(decide (a.Num≠0)))) ?_ ?_)))))
 ·cases bf:(decide (a.Kind=0))
  ·exact Aa O O
  exact AB O (Ai O c Ay.f_Num IP O λbg M=>AB O (Ah A6 b.1 O M Ag O λbh=>AB O (Bc O (AJ O (AU O)))))
 refine AA O (AV 12 82 (.bool (((decide (a.Kind=0))&&(decide (a.Num≠0)))||(((decide (a.Kind=0))||(decide (a.Kind=2)))&&(decide (a.Den≠0))))) ?_ ?_)
 ·cases bi:((decide (a.Kind=0))&&(decide (a.Num≠0)))
  ·refine AB O (AA O (AB O (AA O (AV 4 76 (.bool ((decide (a.Kind=0))||(decide (a.Kind=2)))) ?_ ?_))))
   ·cases bj:(decide (a.Kind=0))
    ·exact AB O (Ai O c Ay.f_Kind GD O λbk Q=>AB O (Ah A6 b.1 O Q Ag O λbl=>AB O (BH O (AB O (AJ O (AU O))))))
    exact Aa O O
   refine AB O (AA O (AV 4 81 (.bool (((decide (a.Kind=0))||(decide (a.Kind=2)))&&(decide (a.Den≠0)))) ?_ ?_))
   ·cases bm:((decide (a.Kind=0))||(decide (a.Kind=2)))
    ·exact Aa O O
    exact AB O (Ai O c Ay.f_Den JH O λbn U=>AB O (Ah A6 b.1 O U Ag O λbo=>AB O (Bc O (AB O (AJ O (AU O))))))
   exact AJ O (AU O)
  exact Aa O O
 refine AN (kp [82,3,1] O) (AX O E (λV E=>?_) (λV E=>?_))
 ·refine AI (AL O (kp [2] O) (Ac (λm n g i=>?_)))
  cases E
  exact Dm g i O O k ⟨O,b⟩
 refine AT (AD (AI (Ai O c Ay.f_Kind GD O λbp W=>Ah A6 b.1 O W Ag O λbq=>Bc O (AA O (AV 9 95 (.bool ((decide (a.Kind≠3))&&((decide (a.Prime≠0))||(decide (a.Break≠0))))) ?_ ?_)))))
 ·cases br:(decide (a.Kind≠3))
  ·exact Aa O O
  refine AB O (Ai O c Jq Ns O λbs X=>AB O (Ah A6 b.1 O X Ag O λbt=>AB O (Bc O (AB O (AA O (AV 4 94 (.bool ((decide (a.Prime≠0))||(decide (a.Break≠0)))) ?_ ?_))))))
  ·cases bu:(decide (a.Prime≠0))
   ·exact AB O (Ai O c Jr Nr O λbv Y=>AB O (Ah A6 b.1 O Y Ag O λbw=>AB O (Bc O (AB O (AJ O (AU O))))))
   exact Aa O O
  exact AJ O (AU O)
 refine AN (kp [95,3,1] O) (AX O E (λZ E=>?_) (λZ E=>?_))
 ·refine AI (AL O (kp [2] O) (Ac (λm n g i=>?_)))
  cases E
  exact Dm g i O O k ⟨O,b⟩
 refine AT (AI (AA O (AA O (AV 4 101 (.bool ((decide (a.Kind=0))||(decide (a.Kind=4)))) ?_ ?_))))
 ·cases bx:(decide (a.Kind=0))
  ·exact AB O (Ai O c Ay.f_Kind GD O λbz ab=>AB O (Ah A6 b.1 O ab Ag O λb0=>AB O (BH O (AJ O (AU O)))))
  exact Aa O O
 refine AA O (AV 9 111 (.bool (((decide (a.Kind=0))||(decide (a.Kind=4)))||((decide (a.BackNum=0))&&(decide (a.BackDen=0))))) ?_ ?_)
 ·cases b1:((decide (a.Kind=0))||(decide (a.Kind=4)))
  ·refine AB O (Ai O c IB Kj O λb2 ac=>AB O (Ah A6 b.1 O ac Ag O λb3=>AB O (BH O (AB O (AA O (AV 4 110 (.bool ((decide (a.BackNum=0))&&(decide (a.BackDen=0)))) ?_ ?_))))))
   ·cases b4:(decide (a.BackNum=0))
    ·exact Aa O O
    exact AB O (Ai O c G7 Jx O λb5 ad=>AB O (Ah A6 b.1 O ad Ag O λb6=>AB O (BH O (AB O (AJ O (AU O))))))
   exact AJ O (AU O)
  exact Aa O O
 refine AL O (kp [2] O) (Ac (λm n g i=>?_))
 cases E
 exact Dm g i O O k ⟨O,b⟩
end Go.Proofs.YtblcgjadhemlbaaGreat
