import Derived.Test.YtblcgjadhemlbaaGreatWWalk2
namespace Go.Proofs.YtblcgjadhemlbaaGreat
set_option linter.all false
open Go.RowKit
open Go.Proofs.Tryz
set_option maxRecDepth 10000
set_option maxHeartbeats 2000000
variable {N:Nat}{S:Nat→Prop}{L:List HP}{h:BM}
def I7 (H:St S L h) {b:Int}(w:AH b) {a:Int}(q:AH a) {c:Int}(s:AH c) {r:Int×Int×Bool}(E:GA N b a c=some r):
 DK prog 88 #[vI b,vI a,vI c] S h (λv S' h'=>v= .tuple #[vI r.1,vI r.2.1,.bool r.2.2]∧AH r.1∧AH r.2.1∧St S' (L) h'):=by
 refine B0 (l:=[vI b,vI a,vI c]) 61 func88 O ntmps88 O λB=>?_
 rw[GA] at E
 refine AI (A0 O (A0 O (AM O (kp [0,1,2] O) (AE (AI (AA O (BI O (AA O (AW 3 18 (.bool ((decide (b<0))||(decide (1125899906842624<b)))) ?_ ?_)))))))))
 ·cases W:(decide (b<0))
  ·exact AB O (AA O (AB O (CV O (AL O (AV O)))))
  exact A4 O O
 refine AA O (AW 3 22 (.bool (((decide (b<0))||(decide (1125899906842624<b)))||(decide (a<0)))) ?_ ?_)
 ·cases X:((decide (b<0))||(decide (1125899906842624<b)))
  ·exact AB O (AA O (AB O (BI O (AL O (AV O)))))
  exact A4 O O
 refine AA O (AW 3 26 (.bool ((((decide (b<0))||(decide (1125899906842624<b)))||(decide (a<0)))||(decide (1125899906842624<a)))) ?_ ?_)
 ·cases Y:(((decide (b<0))||(decide (1125899906842624<b)))||(decide (a<0)))
  ·exact AB O (AA O (AB O (CV O (AL O (AV O)))))
  exact A4 O O
 refine AA O (AW 3 30 (.bool (((((decide (b<0))||(decide (1125899906842624<b)))||(decide (a<0)))||(decide (1125899906842624<a)))||(decide (c<1)))) ?_ ?_)
 ·cases Z:((((decide (b<0))||(decide (1125899906842624<b)))||(decide (a<0)))||(decide (1125899906842624<a)))
  ·exact AB O (AA O (AB O (BI O (AL O (AV O)))))
  exact A4 O O
 refine AA O (AW 3 34 (.bool ((((((decide (b<0))||(decide (1125899906842624<b)))||(decide (a<0)))||(decide (1125899906842624<a)))||(decide (c<1)))||(decide (1125899906842624<c)))) ?_ ?_)
 ·cases c5:(((((decide (b<0))||(decide (1125899906842624<b)))||(decide (a<0)))||(decide (1125899906842624<a)))||(decide (c<1)))
  ·exact AB O (AA O (AB O (CV O (AL O (AV O)))))
  exact A4 O O
 refine AN (kp [34,0,1,2] O) (AY O E (λI E=>?_) (λI E=>?_))
 ·refine AI (A0 O (A0 O (AM O (kp [8,7,6] O) (A5 (λy z d k=>?_)))))
  cases E
  exact K5 d O k (JD (Jm d (v:=_) O) (JD (Jm d (v:=_) O) (JD (Jm d (v:=_) O) K4))) O (C9.refl S h) ⟨O,(iq (n:=0) O),(iq (n:=0) O),H⟩
 refine AS (AE (Cn (.inl O) H (AA O (IU O PI L4 O (AA O (IU O PI L4 O ?_))))))
 obtain⟨x,A,E⟩:=bd E
 refine I8 (v:= .tuple #[.int .u64 x.1,.int .u64 x.2]) (Ψ:=IntKind.has .u64 x.1∧IntKind.has .u64 x.2) O O O dN O (λh' o=>(LC (St.all h') (E5 _ _) (E5 _ _) A).mono λ_ _ _ _ p=>⟨p.1,⟨p.2.1,p.2.2.1⟩⟩) λJ=>?_
 obtain⟨K,C⟩:=J
 refine AA O (CX O (CX O (A0 O (A0 O (B9 (kp [10,9,2] O) λM i m=>AE (AI (AA O (AA O (IU O PI L4 O (HY O (AN (kp [46,10,9,2] O) (AY O E (λD E=>?_) (λD E=>?_)))))))))))))
 ·refine AI (A0 O (A0 O (AM O (kp [8,7,6] O) (A5 (λy z d k=>?_)))))
  cases E
  exact K5 d O k (JD (Jm d (v:=_) O) (JD (Jm d (v:=_) O) (JD (Jm d (v:=_) O) K4))) O m ⟨O,(iq (n:=0) O),(iq (n:=0) O),i⟩
 refine AS (AE (Cn (.inl O) i (AA O (AA O (AA O (IU O PI L4 O ?_))))))
 obtain⟨g,t,E⟩:=bd E
 refine I8 (v:= .tuple #[.int .u64 g.1,.int .u64 g.2]) (Ψ:=IntKind.has .u64 g.1∧IntKind.has .u64 g.2) O O O dM O (λh' o=>(LD (St.all h') K C (E5 _ _) t).mono λ_ _ _ _ p=>⟨p.1,⟨p.2.1,p.2.2.1⟩⟩) λF=>?_
 obtain⟨Q,U⟩:=F
 refine AA O (CX O (CX O (A0 O (A0 O (B9 (kp [12,11] O) λV j u=>AE (AI (AA O (CV O (AN (kp [56,12,11] O) (AY O E (λG E=>?_) (λG E=>?_)))))))))))
 ·refine AI (A0 O (A0 O (AM O (kp [8,7,6] O) (A5 (λy z d k=>?_)))))
  cases E
  exact K5 d O k (JD (Jm d (v:=_) O) (JD (Jm d (v:=_) O) (JD (Jm d (v:=_) O) K4))) O (m.trans u) ⟨O,(iq (n:=0) O),(iq (n:=0) O),j⟩
 refine AS (AI (AA O (IU O L4 PI O (AA O (IU O L4 PI O (A0 O (A0 O (AM O (kp [8,7,6] O) (A5 (λy z d k=>?_))))))))))
 cases E
 exact K5 d O k (JD (Jm d (v:=_) O) (JD (Jm d (v:=_) O) (JD (Jm d (v:=_) O) K4))) O (m.trans u) ⟨O,(B5 _),(B5 _),j⟩
def K7 (hs:St S L h) {d:Value}{i:(List BS)}(s:Sl S h Cp d i) {b:Int}(t:AH b) {r:Int×Bool}(E:HC N i b=some r):
 DK prog 102 #[d,vI b] S h (λv S' h'=>v= .tuple #[vI r.1,.bool r.2]∧AH r.1∧St S' (L) h'):=by
 refine B0 (l:=[d,vI b]) 63 func102 O ntmps102 O λB=>?_
 rw[HC] at E
 refine WF.sl (C3 O (Ml s) (λ_=>rfl) O hs λq1 S2 h3 ac e5 k6=>C3 O (⟨_,O,O,t⟩:Rd _ _ AJ _ b) (λ_=>rfl) O ac λq7 S8 h9 j u D=>AF 2 (A0 O (A0 O (AD (AZ (kp [3,2] O) (AE (Cn (.inl O) j ?_)))))))
 have w:=k6.mono u
 refine BF CQ j.1 O w JK O λa2 ad=>BE O ad I3 O λae=>PW O O O ?_
 have F:Rd S8 h9 (BZ.fn prog (λx:Int=>([vI x]:List Value)) (λx:Int=>AH x) (λy:Bool=> .bool y) (λy:Bool=>True)) (.func (.func 111) #[] #[q1,q7]) (λx=>FH N i b x):=Rd.ofFn 111 #[q1,q7] gH λS' h' s' e' L hs x y h1 h2=>(O3 hs h1 (w.mono'' s' e') (D.mono'' s' e') h2).mono λ_ _ _ _ p=>⟨p.1,trivial,p.2⟩
 obtain⟨a3,G,E⟩:=bd E
 refine DW O O O gI O (λh' o=>Pv (St.all h') (KY ae) (F.mono (o.all j.1)) G) λaf=>?_
 have a4:=af
 refine A0 O (B9 (kp [6,3,2] O) λa5 c g=>AE (AI (AA O (B6 O (AN (kp [16,6,3,2] O) (AY O E (λag E=>?_) (λag E=>?_)))))))
 ·refine AI (BF Bu c.1 O (w.mono g) JK O λa6 ah=>?_)
  obtain⟨a7,H,E⟩:=bd E
  refine B1 O O ah I3 H O λa8 ai=>A8 O ai Li JG O λa9 aj=>BC Bu c.1 O aj BA O λak=>A0 O (AM O (kp [5,4] O) (A5 (λaa ww k I=>?_)))
  cases E
  exact K5 k O I (JD (Jm k (v:=_) O) (JD (Jm k (v:=_) O) K4)) O (e5.trans (u.trans g)) ⟨O,ak,c⟩
 refine AS (WF.sl (AF 5 ?_))
 have J:=w.mono g
 refine BF Bu c.1 O J JK O λba am=>AA O (Dl O ?_)
 obtain⟨M,U,E⟩:=bd E
 refine B1 O O am I3 U O λbb an=>Cq Bu c.1 O an Pc (λe=>by cases e) O λbc ao=>AD (Di Vl O c λbe bf V m=>?_)
 obtain⟨rfl,⟨bg,ap⟩⟩:=Cp.ex (ao.mono m)
 refine Ek (vs:=[vI M.K,vI M.Q]) O O O O Pc O V .head O λbh a z=>AZ (kp [7,6,3,2] O) (AE (AI (AA O ?_)))
 have C:=J.mono (m.trans z)
 refine BF Bu a.1 O C JK O λbi aq=>BE O aq I3 O λbj=>B6 O (AN (kp [29,7,6,3,2] O) (AY O E (λar E=>?_) (λar E=>?_)))
 ·refine AI (AG JG O (AT Bu a O mh O BA O (A0 O (AM O (kp [5,4] O) (A5 (λaa ww k I=>?_))))))
  have W:=a.drop .head
  cases E
  exact K5 k O I (JD (Jm k (v:=_) O) (JD (Jm k (v:=_) O) K4)) O (e5.trans (u.trans (g.trans (m.trans z)))) ⟨O,ap,W⟩
 refine AS (AE (Cn (.inr ⟨mo,by kernel_rfl⟩) a (BC CQ a.1 O (D.mono (g.trans (m.trans z))) BA O λbk=>AG Jw O (AT CQ a O mh O BA O (Dl O (BF CQ a.1 O C JK O λbl au=>AA O ?_))))))
 obtain⟨bm,X,E⟩:=bd E
 refine B1 O O au I3 X O λbn av=>A8 O av Li JG O λbo aw=>BC CQ a.1 O aw BA O λbp=>AG JG O (AT CQ a O mh O BA O (Dl O (BF CQ a.1 O C JK O λbq ax=>AA O ?_)))
 obtain⟨br,Y,E⟩:=bd E
 refine B1 O O ax I3 Y O λbs ay=>A8 O ay Lj Jw O λbt az=>BC CQ a.1 O az BA O λbu=>AG Jw O (AT CQ a O mh O BA O (Dl O ?_))
 obtain⟨n,Z,E⟩:=bd E
 refine I8 (v:= .tuple #[vI n.1,vI n.2.1,.bool n.2.2]) (Ψ:=AH n.1∧AH n.2.1) O O O Uj O (λh' o=>(I7 (St.all h') (B5 _) (B5 _) (B5 _) Z).mono λ_ _ _ _ p=>⟨p.1,⟨p.2.1,p.2.2.1⟩⟩) λa0=>?_
 obtain⟨bv,bw⟩:=a0
 refine AA O (CX O (CX O (CX O (A0 O (A0 O (A0 O (B9 (kp [9,8,7] O) λbx A a1=>AI (AG JG O (AT Bu A O mh O BA O (AA O (A9 O (AA O (CV O (A0 O (AM O (kp [5,4] O) (A5 (λaa ww k I=>?_)))))))))))))))))
 have ab:=A.drop .head
 cases E
 exact K5 k O I (JD (Jm k (v:=_) O) (JD (Jm k (v:=_) O) K4)) O (e5.trans (u.trans (g.trans (m.trans (z.trans a1))))) ⟨O,(B5 _),ab⟩
def Mq (hs:St S L h) {b:Value}{i:(List BS)}(k:Sl S h Cp b i) {c:Value}{j:(List BS)}(m:Sl S h Cp c j) {r:Bool}(E:Gh N i j=some r):
 DK prog 93 #[b,c] S h (λv S' h'=>v= .bool r∧St S' (L) h'):=by
 refine B0 (l:=[b,c]) 66 func93 O ntmps93 O λB=>?_
 rw[Gh] at E
 refine AI (AM O (kp [0,1] O) (AE (AE (Cn (.inl O) hs (AA O ?_)))))
 obtain⟨y1,ay,E⟩:=bd E
 refine BU O O O Q6 O (λh' o=>Hc (St.all h') (k.mono' (o.all hs.1)) ay) (CI O (AA O ?_))
 obtain⟨b4,t,E⟩:=bd E
 refine AW 4 20 (.bool b4) ?_ ?_
 ·cases c3:(!y1)
  ·have t:=Hj c3 t
   refine AB O (AA O (AB O ?_))
   obtain⟨y5,az,t⟩:=bd t
   refine BU O O O Q6 O (λh' o=>Hc (St.all h') (m.mono' (o.all hs.1)) az) (AB O (CI O (AL O ?_)))
   cases t
   exact AV O
  have t:=Hi c3 t
  cases t
  exact A4 O O
 refine B9 (kp [20,0,1] O) λh7 ad W=>AY O E (λa0 E=>?_) (λa0 E=>?_)
 ·refine AI (AM O (kp [4] O) (A5 (λp s d g=>?_)))
  cases E
  exact Em d g O O W ⟨O,ad⟩
 refine AS (AE (AI (AA O ?_)))
 have ae:=k.mono' W
 refine BE O ae I3 O λbf=>AA O (AN (kp [23,22,21,0,1] O) (BH (λa w=>IV B S h7 (66,[]) a w [(0,b),(1,c)] (L) λ_ _=>GZ N i j=some r) ?_ ?_))
 ·refine BV (λn1=>λa w=>∃(z:Int),IV B S h7 (66,[]) a w [(22,vI (↑i.length:Int)),(21,b),(0,b),(1,c),(23,vI z)] (L) λ_ _=>AH z∧GY N i j (GZ N i j) n1 z=some r) N ?_ ?_ ?_
  ·intro p s d g
   exact⟨0,_,_,d.sub (kp [22,21,0,1,23] O),g,ad,(C9.refl S h7),(iq (n:=0) O),E⟩
  ·rintro p s ⟨_,_,_,_,_,_,_,_,E⟩
   rw[GY] at E;cases E
  rintro n1 p s ⟨z,bg,bh,d,g,A,C,bi,E⟩
  refine A6 ?_ d g
  clear d g s p
  rw[GY] at E
  refine AI (BI O (AN (kp [24,22,21,0,1,23] O) (AE (AY O E (λa1 E=>?_) (λa1 E=>?_)))))
  ·refine AS (AE (BY (WF.sl (AF 2 ?_))))
   obtain⟨af,ag,E⟩:=bd E
   refine B1 O O (ae.mono' C) I3 ag O λbj a2=>Cq Bu A.1 O a2 Pc (λe=>by cases e) O λbk a3=>AD (Di Vl O A λbl bm ah M=>?_)
   obtain⟨rfl,⟨a4,bn⟩⟩:=Cp.ex (a3.mono M)
   refine Ek (vs:=[vI af.K,vI af.Q]) O O O O Pc O ah .head O λbo D X=>AZ (kp [6,22,21,0,1,23] O) (AE (Cn (.inl O) D (AA O (AG Jw O (AT CQ D O mh O BA O ?_)))))
   obtain⟨bp,ai,E⟩:=bd E
   refine DW O O O VV O (λh' o=>K7 (St.all h') ((m.mono' (W.trans (C.trans (M.trans X)))).mono' (o.all D.1)) a4 ai) λa5=>?_
   have bq:=a5
   refine AA O (CX O (CX O (A0 O (A0 O (B9 (kp [7,6,22,21,0,1,23] O) λbr F aj=>AI (AG JG O (AT Bu F O mh O BA O (AA O (CV O (AN (kp [37,22,21,0,1,23] O) (AY O E (λa6 E=>?_) (λa6 E=>?_))))))))))))
   ·refine AI (AM O (kp [4] O) (A5 (λp s d g=>?_)))
    have ak:=F.drop .head
    cases E
    exact Em d g O O (W.trans (C.trans (M.trans (X.trans aj)))) ⟨O,ak⟩
   refine AS (B7 (CL (.inl O) (A9 O (AA O (AN (kp [23,22,21,0,1] O) (WF.nil (λp s d g=>?_)))))))
   have am:=F.drop .head
   exact⟨(Bw (z+1)),_,_,d.sub (kp [22,21,0,1,23] O),g,am,(C.trans (M.trans (X.trans aj))),(B5 _),E⟩
  refine By O (λp s d g=>?_)
  exact⟨_,_,d.sub (kp [0,1] O),g,A,C,E⟩
 rintro p s ⟨Y,Z,d,g,an,U,E⟩
 refine A6 ?_ d g
 clear d g s p
 rw[GZ] at E
 refine AE (AI (AA O ?_))
 have ao:=m.mono' (W.trans U)
 refine BE O ao I3 O λbs=>AA O (AN (kp [41,40,39,0] O) (BH (λa w=>IV B Y Z (66,[]) a w [] (L) λ_ _=>Hx N=some r) ?_ ?_))
 ·refine BV (λn3=>λa w=>∃(G:Int),IV B Y Z (66,[]) a w [(40,vI (↑j.length:Int)),(39,c),(0,b),(41,vI G)] (L) λ_ _=>AH G∧GX N i j (Hx N) n3 G=some r) N ?_ ?_ ?_
  ·intro p s d g
   exact⟨0,_,_,d.sub (kp [40,39,0,41] O),g,an,(C9.refl Y Z),(iq (n:=0) O),E⟩
  ·rintro p s ⟨_,_,_,_,_,_,_,_,E⟩
   rw[GX] at E;cases E
  rintro n3 p s ⟨G,bt,bu,d,g,H,I,bv,E⟩
  refine A6 ?_ d g
  clear d g s p
  rw[GX] at E
  refine AI (BI O (AN (kp [42,40,39,0,41] O) (AE (AY O E (λa7 E=>?_) (λa7 E=>?_)))))
  ·refine AS (AE (BY (WF.sl (AF 2 ?_))))
   obtain⟨u,ap,E⟩:=bd E
   refine B1 O O (ao.mono' I) I3 ap O λbw a8=>Cq Bu H.1 O a8 Pc (λe=>by cases e) O λbx a9=>AD (Di Vl O H λbz b0 aq V=>?_)
   obtain⟨rfl,⟨ba,b1⟩⟩:=Cp.ex (a9.mono V)
   refine Ek (vs:=[vI u.K,vI u.Q]) O O O O Pc O aq .head O λb2 J ab=>AZ (kp [10,40,39,0,41] O) (AE (Cn (.inl O) J (AA O (AG Jw O (AT CQ J O mh O BA O ?_)))))
   obtain⟨x,ar,E⟩:=bd E
   refine DW O O O VV O (λh' o=>K7 (St.all h') ((k.mono' (W.trans (U.trans (I.trans (V.trans ab))))).mono' (o.all J.1)) ba ar) λbb=>?_
   have b3:=bb
   refine AA O (CX O (CX O (A0 O (A0 O (B9 (kp [12,11,10,40,39,0,41] O) λb5 y au=>AI (AA O (AG JG O (AT Bu y O mh O BA O (CV O (AA O (AW 8 64 (.bool ((decide (u.Q<x.1))||((decide (x.1=u.Q))&&x.2))) ?_ ?_)))))))))))
   ·cases b6:(decide (u.Q<x.1))
    ·refine AB O (AA O (AB O (AG JG O (AB O (AT Bu y O mh O BA O (AB O (B6 O (AB O (AA O (AW 2 63 (.bool ((decide (x.1=u.Q))&&x.2)) ?_ ?_))))))))))
     ·cases b7:(decide (x.1=u.Q))
      ·exact A4 O O
      exact AB O (AA O (AB O (AL O (AV O))))
     exact AL O (AV O)
    exact A4 O O
   refine AN (kp [64,40,39,0,41] O) (AY O E (λbc E=>?_) (λbc E=>?_))
   ·refine AI (AM O (kp [4] O) (A5 (λp s d g=>?_)))
    have av:=y.drop .head
    cases E
    exact Em d g O O (W.trans (U.trans (I.trans (V.trans (ab.trans au))))) ⟨O,av⟩
   refine AS (B7 (CL (.inl O) (A9 O (AA O (AN (kp [41,40,39,0] O) (WF.nil (λp s d g=>?_)))))))
   have aw:=y.drop .head
   exact⟨(Bw (G+1)),_,_,d.sub (kp [40,39,0,41] O),g,aw,(I.trans (V.trans (ab.trans au))),(B5 _),E⟩
  refine By O (λp s d g=>?_)
  exact⟨_,_,d.sub Py,g,H,I,E⟩
 rintro p s ⟨b8,be,d,g,ac,ax,E⟩
 refine A6 ?_ d g
 clear d g s p
 rw[Hx] at E
 refine AI (AM O (kp [4] O) (A5 (λp s d g=>?_)))
 cases E
 exact Em d g O O (W.trans (U.trans ax)) ⟨O,ac⟩
def M2 (hs:St S L h) {M:Value}{d:BL}(ac:Rd S h Ct M d) {r:Bool}(E:Fk N d=some r):
 DK prog 76 #[M] S h (λv S' h'=>v= .bool r∧St S' (L) h'):=by
 refine B0 (l:=[M]) 152 func76 O ntmps76 O λB=>?_
 rw[Fk] at E
 refine WF.sl (C3 O ac (λe=>by cases e) O hs λq1 S2 h3 c e5 J=>AF 1 (A0 O (AD (AZ (kp [1] O) (AE (AI (A8 O J BL.f_Kind HA O λq7 k8=>BC Bu c.1 O k8 BA O λr9=>AN (kp [4,1] O) (BY (AI (B6 O (AM O (kp [5,4,1] O) (AY O E (λdg E=>?_) (λdg E=>?_)))))))))))))
 ·refine AE (Cn (.inl O) c (A8 O J KV Nr O λfn dh=>BF CQ c.1 O dh JK O λfo di=>?_))
  obtain⟨dj,bc,E⟩:=bd E
  refine BU O O O Q6 O (λh' o=>Hc (St.all h') (di.mono' (o.all c.1)) bc) (AA O ?_)
  obtain⟨be,x,E⟩:=bd E
  refine AW 5 15 (.bool be) ?_ ?_
  ·cases bf:dj
   ·have x:=Hj bf x
    cases x
    exact A4 O O
   have x:=Hi bf x
   refine AB O (A8 O J Jh Lu O λfp dk=>AB O (A8 O dk OT QP O λfq dl=>AB O (BF CQ c.1 O dl JK O λfr dm=>AB O ?_)))
   obtain⟨fs,bg,x⟩:=bd x
   refine BU O O O Q6 O (λh' o=>Hc (St.all h') (dm.mono' (o.all c.1)) bg) (AL O ?_)
   cases x
   exact AV O
  refine AA O ?_
  obtain⟨bh,y,E⟩:=bd E
  refine AW 5 21 (.bool bh) ?_ ?_
  ·cases bi:be
   ·have y:=Hj bi y
    cases y
    exact A4 O O
   have y:=Hi bi y
   refine AB O (A8 O J Jh Lu O λft dn=>AB O (A8 O dn OU QO O λfu dp=>AB O (BF CQ c.1 O dp JK O λfv dq=>AB O ?_)))
   obtain⟨fw,bj,y⟩:=bd y
   refine BU O O O Q6 O (λh' o=>Hc (St.all h') (dq.mono' (o.all c.1)) bj) (AL O ?_)
   cases y
   exact AV O
  refine AA O ?_
  obtain⟨bk,z,E⟩:=bd E
  refine AW 7 29 (.bool bk) ?_ ?_
  ·cases bl:bh
   ·have z:=Hj bl z
    cases z
    exact A4 O O
   have z:=Hi bl z
   refine AB O (A8 O J Jh Lu O λfx dr=>AB O (A8 O dr OT QP O λfy ds=>AB O (BF CQ c.1 O ds JK O λfz dt=>AB O (A8 O J KV Nr O λf0 du=>AB O (BF CQ c.1 O du JK O λf1 dv=>AB O ?_)))))
   obtain⟨f2,bm,z⟩:=bd z
   refine BU O O O dO O (λh' o=>Mq (St.all h') (dt.mono' (o.all c.1)) (dv.mono' (o.all c.1)) bm) (AL O ?_)
   cases z
   exact AV O
  refine AA O ?_
  obtain⟨bn,A,E⟩:=bd E
  refine AW 7 37 (.bool bn) ?_ ?_
  ·cases bo:bk
   ·have A:=Hj bo A
    cases A
    exact A4 O O
   have A:=Hi bo A
   refine AB O (A8 O J KV Nr O λf3 dw=>AB O (BF CQ c.1 O dw JK O λf4 dx=>AB O (A8 O J Jh Lu O λf5 dy=>AB O (A8 O dy OU QO O λf6 dz=>AB O (BF CQ c.1 O dz JK O λf7 d0=>AB O ?_)))))
   obtain⟨f8,bp,A⟩:=bd A
   refine BU O O O dO O (λh' o=>Mq (St.all h') (dx.mono' (o.all c.1)) (d0.mono' (o.all c.1)) bp) (AL O ?_)
   cases A
   exact AV O
  refine AA O ?_
  obtain⟨bq,D,E⟩:=bd E
  refine AW 4 42 (.bool bq) ?_ ?_
  ·cases br:bn
   ·have D:=Hj br D
    cases D
    exact A4 O O
   have D:=Hi br D
   refine AB O (A8 O J E7 KL O λf9 d1=>AB O (BC CQ c.1 O d1 BA O λd2=>AB O ?_))
   obtain⟨ga,bs,D⟩:=bd D
   refine BU O O O Ip O (λh' o=>Cm (St.all h') d2 (iq (n:=0) O) (iq (n:=64) O) bs) (AL O ?_)
   cases D
   exact AV O
  refine AA O ?_
  obtain⟨bt,F,E⟩:=bd E
  refine AW 6 49 (.bool bt) ?_ ?_
  ·cases bu:bq
   ·have F:=Hj bu F
    cases F
    exact A4 O O
   have F:=Hi bu F
   refine AB O (A8 O J Jv Ow O λgb d3=>AB O (BC CQ c.1 O d3 BA O λd4=>AB O (A8 O J E7 KL O λgc d5=>AB O (BC CQ c.1 O d5 BA O λd6=>AB O ?_))))
   obtain⟨gd,bv,F⟩:=bd F
   refine BU O O O Ip O (λh' o=>Cm (St.all h') d4 (iq (n:=0) O) d6 bv) (AL O ?_)
   cases F
   exact AV O
  refine AA O ?_
  obtain⟨bw,G,E⟩:=bd E
  refine AW 4 54 (.bool bw) ?_ ?_
  ·cases bx:bt
   ·have G:=Hj bx G
    cases G
    exact A4 O O
   have G:=Hi bx G
   refine AB O (A8 O J Mo TC O λge d7=>AB O (BC CQ c.1 O d7 BA O λd8=>AB O ?_))
   obtain⟨gf,bz,G⟩:=bd G
   refine BU O O O Ka O (λh' o=>Cv (St.all h') d8 bz) (AL O ?_)
   cases G
   exact AV O
  refine AA O ?_
  obtain⟨ar,H,E⟩:=bd E
  refine AW 6 61 (.bool ar) ?_ ?_
  ·cases b0:bw
   ·have H:=Hj b0 H
    cases H
    exact A4 O O
   have H:=Hi b0 H
   refine AB O (A8 O J JB Lf O λgg d9=>AB O (BC CQ c.1 O d9 BA O λea=>AB O (A8 O J IL Kw O λgh eb=>AB O (BC CQ c.1 O eb BA O λec=>AB O ?_))))
   obtain⟨gi,b1,H⟩:=bd H
   refine BU O O O ZY O (λh' o=>KA (St.all h') ea ec b1) (AL O ?_)
   cases H
   exact AV O
  refine AA O (AW 9 71 (.bool (ar&&((decide (d.C≠(-1)))||(decide (d.Aa=0))))) ?_ ?_)
  ·cases gj:ar
   ·exact A4 O O
   refine AB O (A8 O J BL.f_To Ia O λed b2=>AB O (BC CQ c.1 O b2 BA O λee=>AB O (Cg O (AB O (AA O (AW 4 70 (.bool ((decide (d.C≠(-1)))||(decide (d.Aa=0)))) ?_ ?_))))))
   ·cases ef:(decide (d.C≠(-1)))
    ·exact AB O (A8 O J IL Kw O λeg b3=>AB O (BC CQ c.1 O b3 BA O λeh=>AB O (B6 O (AB O (AL O (AV O))))))
    exact A4 O O
   exact AL O (AV O)
  refine A0 O (B9 (kp [2] O) λei au b4=>A5 (λaa ww U V=>?_))
  cases E
  exact Em U V O O (e5.trans b4) ⟨O,au⟩
 refine AE (AI (B6 O (AM O (kp [72,4,1] O) (He (λa w=>∃(X:Bool),IV B S2 h3 (152,[]) a w [(4,vI d.B),(1,q1),(72,.bool X)] (L) λ_ _=>EB N d X=some r) ?_ ?_))))
 ·refine AY O E (λb5 E=>?_) (λb5 E=>?_)
  ·refine AS (WF.nil (λaa ww U V=>?_))
   exact⟨(decide (d.B=1)),_,_,U.sub (kp [4,1,72] O),V,c,(C9.refl S2 h3),E⟩
  refine CL (.inl O) (B6 O (AM O (kp [72,4,1] O) (WF.nil (λaa ww U V=>?_))))
  exact⟨(decide (d.B=5)),_,_,U.sub (kp [4,1,72] O),V,c,(C9.refl S2 h3),E⟩
 rintro aa ww ⟨X,ej,ek,U,V,b,I,E⟩
 refine A6 ?_ U V
 clear U V ww aa
 rw[EB] at E
 refine AY O E (λb6 E=>?_) (λb6 E=>?_)
 ·refine AE (Cn (.inl O) b ?_)
  have Y:=J.mono I
  refine A8 O Y MB TB O λel b7=>BC CQ b.1 O b7 BA O λb8=>?_
  obtain⟨b9,av,E⟩:=bd E
  refine BU O O O Ka O (λh' o=>Cv (St.all h') b8 av) (AA O ?_)
  obtain⟨ad,g,E⟩:=bd E
  refine AW 4 82 (.bool ad) ?_ ?_
  ·cases ae:b9
   ·have g:=Hj ae g
    cases g
    exact A4 O O
   have g:=Hi ae g
   refine AB O (A8 O Y BL.f_Num JN O λem ca=>AB O (BC CQ b.1 O ca BA O λcb=>AB O ?_))
   obtain⟨en,aw,g⟩:=bd g
   refine BU O O O Ka O (λh' o=>Cv (St.all h') cb aw) (AL O ?_)
   cases g
   exact AV O
  refine AA O ?_
  obtain⟨cc,i,E⟩:=bd E
  refine AW 4 87 (.bool cc) ?_ ?_
  ·cases af:ad
   ·have i:=Hj af i
    cases i
    exact A4 O O
   have i:=Hi af i
   refine AB O (A8 O Y BL.f_Den KM O λeo cd=>AB O (BC CQ b.1 O cd BA O λce=>AB O ?_))
   obtain⟨ep,ax,i⟩:=bd i
   refine BU O O O Ip O (λh' o=>Cm (St.all h') ce (iq (n:=1) O) (iq (n:=1125899906842624) O) ax) (AL O ?_)
   cases i
   exact AV O
  refine A0 O (B9 (kp [2] O) λeq ay cf=>A5 (λaa ww U V=>?_))
  cases E
  exact Em U V O O (e5.trans (I.trans cf)) ⟨O,ay⟩
 refine AI (B6 O (AM O (kp [88,4,1] O) (AY O E (λcg E=>?_) (λcg E=>?_))))
 ·refine AE (Cn (.inl O) b ?_)
  have W:=J.mono I
  refine A8 O W BL.f_Num JN O λer ch=>BC CQ b.1 O ch BA O λci=>?_
  obtain⟨cj,az,E⟩:=bd E
  refine BU O O O Ka O (λh' o=>Cv (St.all h') ci az) (AA O ?_)
  obtain⟨ag,j,E⟩:=bd E
  refine AW 4 97 (.bool ag) ?_ ?_
  ·cases ah:cj
   ·have j:=Hj ah j
    cases j
    exact A4 O O
   have j:=Hi ah j
   refine AB O (A8 O W E7 KL O λes ck=>AB O (BC CQ b.1 O ck BA O λcl=>AB O ?_))
   obtain⟨et,a0,j⟩:=bd j
   refine BU O O O Ip O (λh' o=>Cm (St.all h') cl (iq (n:=1) O) (iq (n:=64) O) a0) (AL O ?_)
   cases j
   exact AV O
  refine AA O ?_
  obtain⟨cm,k,E⟩:=bd E
  refine AW 6 104 (.bool cm) ?_ ?_
  ·cases ai:ag
   ·have k:=Hj ai k
    cases k
    exact A4 O O
   have k:=Hi ai k
   refine AB O (A8 O W Jv Ow O λeu cn=>AB O (BC CQ b.1 O cn BA O λco=>AB O (A8 O W E7 KL O λev cp=>AB O (BC CQ b.1 O cp BA O λcq=>AB O ?_))))
   obtain⟨ew,a1,k⟩:=bd k
   refine BU O O O Ip O (λh' o=>Cm (St.all h') co (iq (n:=0) O) cq a1) (AL O ?_)
   cases k
   exact AV O
  refine A0 O (B9 (kp [2] O) λex a2 cr=>A5 (λaa ww U V=>?_))
  cases E
  exact Em U V O O (e5.trans (I.trans cr)) ⟨O,a2⟩
 refine AI (B6 O (AM O (kp [105,1] O) (AY O E (λcs E=>?_) (λcs E=>?_))))
 ·refine AE (Cn (.inl O) b ?_)
  have K:=J.mono I
  refine A8 O K BL.f_Num JN O λey ct=>BC CQ b.1 O ct BA O λcu=>?_
  obtain⟨cv,a3,E⟩:=bd E
  refine BU O O O Ka O (λh' o=>Cv (St.all h') cu a3) (AA O ?_)
  obtain⟨aj,m,E⟩:=bd E
  refine AW 4 114 (.bool aj) ?_ ?_
  ·cases ak:cv
   ·have m:=Hj ak m
    cases m
    exact A4 O O
   have m:=Hi ak m
   refine AB O (A8 O K BL.f_Den KM O λez cw=>AB O (BC CQ b.1 O cw BA O λcx=>AB O ?_))
   obtain⟨e0,a4,m⟩:=bd m
   refine BU O O O Ip O (λh' o=>Cm (St.all h') cx (iq (n:=1) O) (iq (n:=1125899906842624) O) a4) (AL O ?_)
   cases m
   exact AV O
  refine AA O ?_
  obtain⟨al,p,E⟩:=bd E
  refine AW 4 119 (.bool al) ?_ ?_
  ·cases am:aj
   ·have p:=Hj am p
    cases p
    exact A4 O O
   have p:=Hi am p
   refine AB O (A8 O K Kr Oz O λe1 cy=>AB O (BC CQ b.1 O cy BA O λcz=>AB O ?_))
   obtain⟨e2,a5,p⟩:=bd p
   refine BU O O O Ka O (λh' o=>Cv (St.all h') cz a5) (AL O ?_)
   cases p
   exact AV O
  refine AA O ?_
  obtain⟨Z,s,E⟩:=bd E
  refine AW 4 124 (.bool Z) ?_ ?_
  ·cases an:al
   ·have s:=Hj an s
    cases s
    exact A4 O O
   have s:=Hi an s
   refine AB O (A8 O K Ks Oy O λe3 c0=>AB O (BC CQ b.1 O c0 BA O λc1=>AB O ?_))
   obtain⟨e4,a6,s⟩:=bd s
   refine BU O O O Ka O (λh' o=>Cv (St.all h') c1 a6) (AL O ?_)
   cases s
   exact AV O
  refine AA O (AW 6 131 (.bool (Z&&(decide (d.Ai<d.Ah)))) ?_ ?_)
  ·cases e6:Z
   ·exact A4 O O
   exact AB O (A8 O K Ks Oy O λe7 c2=>AB O (BC CQ b.1 O c2 BA O λe8=>AB O (A8 O K Kr Oz O λe9 c3=>AB O (BC CQ b.1 O c3 BA O λfb=>AB O (BI O (AL O (AV O)))))))
  refine A0 O (B9 (kp [2] O) λfc a7 c4=>A5 (λaa ww U V=>?_))
  cases E
  exact Em U V O O (e5.trans (I.trans c4)) ⟨O,a7⟩
 refine AS (B7 (AE (Cn (.inl O) b ?_)))
 have Q:=J.mono I
 refine A8 O Q BL.f_Num JN O λfd c5=>BC CQ b.1 O c5 BA O λc6=>?_
 obtain⟨c7,a8,E⟩:=bd E
 refine BU O O O Ka O (λh' o=>Cv (St.all h') c6 a8) (AA O ?_)
 obtain⟨ao,t,E⟩:=bd E
 refine AW 4 139 (.bool ao) ?_ ?_
 ·cases ap:c7
  ·have t:=Hj ap t
   cases t
   exact A4 O O
  have t:=Hi ap t
  refine AB O (A8 O Q BL.f_Den KM O λfe c8=>AB O (BC CQ b.1 O c8 BA O λc9=>AB O ?_))
  obtain⟨ff,a9,t⟩:=bd t
  refine BU O O O Ip O (λh' o=>Cm (St.all h') c9 (iq (n:=1) O) (iq (n:=1125899906842624) O) a9) (AL O ?_)
  cases t
  exact AV O
 refine AA O ?_
 obtain⟨ab,u,E⟩:=bd E
 refine AW 6 146 (.bool ab) ?_ ?_
 ·cases aq:ao
  ·have u:=Hj aq u
   cases u
   exact A4 O O
  have u:=Hi aq u
  refine AB O (A8 O Q JB Lf O λfg da=>AB O (BC CQ b.1 O da BA O λdb=>AB O (A8 O Q IL Kw O λfh dc=>AB O (BC CQ b.1 O dc BA O λdd=>AB O ?_))))
  obtain⟨fi,ba,u⟩:=bd u
  refine BU O O O ZY O (λh' o=>KA (St.all h') db dd ba) (AL O ?_)
  cases u
  exact AV O
 refine AA O (AW 4 151 (.bool (ab&&(decide (d.C≠(-1))))) ?_ ?_)
 ·cases fj:ab
  ·exact A4 O O
  exact AB O (A8 O Q BL.f_To Ia O λfk de=>AB O (BC CQ b.1 O de BA O λfl=>AB O (Cg O (AL O (AV O)))))
 refine A0 O (B9 (kp [2] O) λfm bb df=>A5 (λaa ww U V=>?_))
 cases E
 exact Em U V O O (e5.trans (I.trans df)) ⟨O,bb⟩
def My (hs:St S L h) {d:Value}{a:BL}(j:Rd S h Ct d a) {r:Bool}(E:Fj N a=some r):
 DK prog 77 #[d] S h (λv S' h'=>v= .bool r∧St S' (L) h'):=by
 refine B0 (l:=[d]) 112 func77 O ntmps77 O λB=>?_
 rw[Fj] at E
 refine WF.sl (C3 O j (λe=>by cases e) O hs λq1 S2 h3 b k c=>AF 1 (A0 O (AD (AZ (kp [1] O) (AI (A8 O c BL.f_Kind HA O λq7 k8=>BC Bu b.1 O k8 BA O λr9=>B6 O (AM O (kp [3,1] O) (AE (AI (AA O (CI O (AA O (AW 24 33 (.bool ((!(decide (a.B=0)))&&((((decide (0<(↑a.Af.length:Int)))||(decide (0<(↑a.Y.Ar.length:Int))))||(decide (0<(↑a.Y.Aw.length:Int))))||(decide (a.Aj≠0))))) ?_ ?_)))))))))))))
 ·cases ag:(!(decide (a.B=0)))
  ·exact A4 O O
  refine AB O (A8 O c KV Nr O λah o=>AB O (BF Bu b.1 O o JK O λai p=>AB O (BE O p I3 O λaj=>AB O (CV O (AB O (AA O (AW 6 20 (.bool ((decide (0<(↑a.Af.length:Int)))||(decide (0<(↑a.Y.Ar.length:Int))))) ?_ ?_)))))))
  ·cases ak:(decide (0<(↑a.Af.length:Int)))
   ·exact AB O (A8 O c Jh Lu O λal s=>AB O (A8 O s OT QP O λam t=>AB O (BF Bu b.1 O t JK O λan u=>AB O (BE O u I3 O λao=>AB O (CV O (AB O (AL O (AV O))))))))
   exact A4 O O
  refine AB O (AA O (AW 6 27 (.bool (((decide (0<(↑a.Af.length:Int)))||(decide (0<(↑a.Y.Ar.length:Int))))||(decide (0<(↑a.Y.Aw.length:Int))))) ?_ ?_))
  ·cases ap:((decide (0<(↑a.Af.length:Int)))||(decide (0<(↑a.Y.Ar.length:Int))))
   ·exact AB O (A8 O c Jh Lu O λaq w=>AB O (A8 O w OU QO O λar x=>AB O (BF Bu b.1 O x JK O λau y=>AB O (BE O y I3 O λav=>AB O (CV O (AB O (AL O (AV O))))))))
   exact A4 O O
  refine AB O (AA O (AW 4 32 (.bool ((((decide (0<(↑a.Af.length:Int)))||(decide (0<(↑a.Y.Ar.length:Int))))||(decide (0<(↑a.Y.Aw.length:Int))))||(decide (a.Aj≠0)))) ?_ ?_))
  ·cases aw:(((decide (0<(↑a.Af.length:Int)))||(decide (0<(↑a.Y.Ar.length:Int))))||(decide (0<(↑a.Y.Aw.length:Int))))
   ·exact AB O (A8 O c Mo TC O λax z=>AB O (BC Bu b.1 O z BA O λay=>AB O (Cg O (AB O (AL O (AV O))))))
   exact A4 O O
  exact AL O (AV O)
 refine AN (kp [33,3,1] O) (AY O E (λA E=>?_) (λA E=>?_))
 ·refine AI (AM O (kp [2] O) (A5 (λm n g i=>?_)))
  cases E
  exact Em g i O O k ⟨O,b⟩
 refine AS (AE (AI (AA O (CI O (AA O (AW 4 40 (.bool ((!(decide (a.B=0)))&&(decide (a.B≠2)))) ?_ ?_))))))
 ·cases az:(!(decide (a.B=0)))
  ·exact A4 O O
  exact AB O (A8 O c BL.f_Kind HA O λa0 C=>AB O (BC Bu b.1 O C BA O λa1=>AB O (Cg O (AL O (AV O)))))
 refine AA O (AW 9 50 (.bool (((!(decide (a.B=0)))&&(decide (a.B≠2)))&&((decide (a.R≠0))||(decide (a.Ab≠0))))) ?_ ?_)
 ·cases a2:((!(decide (a.B=0)))&&(decide (a.B≠2)))
  ·exact A4 O O
  refine AB O (A8 O c E7 KL O λa3 D=>AB O (BC Bu b.1 O D BA O λa4=>AB O (Cg O (AB O (AA O (AW 4 49 (.bool ((decide (a.R≠0))||(decide (a.Ab≠0)))) ?_ ?_))))))
  ·cases a5:(decide (a.R≠0))
   ·exact AB O (A8 O c Jv Ow O λa6 F=>AB O (BC Bu b.1 O F BA O λa7=>AB O (Cg O (AB O (AL O (AV O))))))
   exact A4 O O
  exact AL O (AV O)
 refine AN (kp [50,3,1] O) (AY O E (λG E=>?_) (λG E=>?_))
 ·refine AI (AM O (kp [2] O) (A5 (λm n g i=>?_)))
  cases E
  exact Em g i O O k ⟨O,b⟩
 refine AS (AE (AI (A8 O c BL.f_Kind HA O λa8 H=>BC Bu b.1 O H BA O λa9=>Cg O (AA O (AW 4 58 (.bool ((decide (a.B≠1))&&(decide (a.B≠5)))) ?_ ?_)))))
 ·cases ba:(decide (a.B≠1))
  ·exact A4 O O
  exact AB O (A8 O c BL.f_Kind HA O λbb J=>AB O (BC Bu b.1 O J BA O λbc=>AB O (Cg O (AL O (AV O)))))
 refine AA O (AW 4 63 (.bool (((decide (a.B≠1))&&(decide (a.B≠5)))&&(decide (a.Al≠0)))) ?_ ?_)
 ·cases be:((decide (a.B≠1))&&(decide (a.B≠5)))
  ·exact A4 O O
  exact AB O (A8 O c MB TB O λbf K=>AB O (BC Bu b.1 O K BA O λbg=>AB O (Cg O (AL O (AV O)))))
 refine AN (kp [63,3,1] O) (AY O E (λM E=>?_) (λM E=>?_))
 ·refine AI (AM O (kp [2] O) (A5 (λm n g i=>?_)))
  cases E
  exact Em g i O O k ⟨O,b⟩
 refine AS (AE (AI (AA O (AA O (AW 4 69 (.bool ((decide (a.B=0))&&(decide (a.L≠0)))) ?_ ?_)))))
 ·cases bh:(decide (a.B=0))
  ·exact A4 O O
  exact AB O (A8 O c BL.f_Num JN O λbi Q=>AB O (BC Bu b.1 O Q BA O λbj=>AB O (Cg O (AL O (AV O)))))
 refine AA O (AW 12 82 (.bool (((decide (a.B=0))&&(decide (a.L≠0)))||(((decide (a.B=0))||(decide (a.B=2)))&&(decide (a.I≠0))))) ?_ ?_)
 ·cases bk:((decide (a.B=0))&&(decide (a.L≠0)))
  ·refine AB O (AA O (AB O (AA O (AW 4 76 (.bool ((decide (a.B=0))||(decide (a.B=2)))) ?_ ?_))))
   ·cases bl:(decide (a.B=0))
    ·exact AB O (A8 O c BL.f_Kind HA O λbm U=>AB O (BC Bu b.1 O U BA O λbn=>AB O (B6 O (AB O (AL O (AV O))))))
    exact A4 O O
   refine AB O (AA O (AW 4 81 (.bool (((decide (a.B=0))||(decide (a.B=2)))&&(decide (a.I≠0)))) ?_ ?_))
   ·cases bo:((decide (a.B=0))||(decide (a.B=2)))
    ·exact A4 O O
    exact AB O (A8 O c BL.f_Den KM O λbp V=>AB O (BC Bu b.1 O V BA O λbq=>AB O (Cg O (AB O (AL O (AV O))))))
   exact AL O (AV O)
  exact A4 O O
 refine AN (kp [82,3,1] O) (AY O E (λW E=>?_) (λW E=>?_))
 ·refine AI (AM O (kp [2] O) (A5 (λm n g i=>?_)))
  cases E
  exact Em g i O O k ⟨O,b⟩
 refine AS (AE (AI (A8 O c BL.f_Kind HA O λbr X=>BC Bu b.1 O X BA O λbs=>Cg O (AA O (AW 9 95 (.bool ((decide (a.B≠3))&&((decide (a.Ah≠0))||(decide (a.Ai≠0))))) ?_ ?_)))))
 ·cases bt:(decide (a.B≠3))
  ·exact A4 O O
  refine AB O (A8 O c Kr Oz O λbu Z=>AB O (BC Bu b.1 O Z BA O λbv=>AB O (Cg O (AB O (AA O (AW 4 94 (.bool ((decide (a.Ah≠0))||(decide (a.Ai≠0)))) ?_ ?_))))))
  ·cases bw:(decide (a.Ah≠0))
   ·exact AB O (A8 O c Ks Oy O λbx ab=>AB O (BC Bu b.1 O ab BA O λbz=>AB O (Cg O (AB O (AL O (AV O))))))
   exact A4 O O
  exact AL O (AV O)
 refine AN (kp [95,3,1] O) (AY O E (λac E=>?_) (λac E=>?_))
 ·refine AI (AM O (kp [2] O) (A5 (λm n g i=>?_)))
  cases E
  exact Em g i O O k ⟨O,b⟩
 refine AS (AI (AA O (AA O (AW 4 101 (.bool ((decide (a.B=0))||(decide (a.B=4)))) ?_ ?_))))
 ·cases b0:(decide (a.B=0))
  ·exact AB O (A8 O c BL.f_Kind HA O λb1 ad=>AB O (BC Bu b.1 O ad BA O λb2=>AB O (B6 O (AL O (AV O)))))
  exact A4 O O
 refine AA O (AW 9 111 (.bool (((decide (a.B=0))||(decide (a.B=4)))||((decide (a.Ac=0))&&(decide (a.Aa=0))))) ?_ ?_)
 ·cases b3:((decide (a.B=0))||(decide (a.B=4)))
  ·refine AB O (A8 O c JB Lf O λb4 ae=>AB O (BC Bu b.1 O ae BA O λb5=>AB O (B6 O (AB O (AA O (AW 4 110 (.bool ((decide (a.Ac=0))&&(decide (a.Aa=0)))) ?_ ?_))))))
   ·cases b6:(decide (a.Ac=0))
    ·exact A4 O O
    exact AB O (A8 O c IL Kw O λb7 af=>AB O (BC Bu b.1 O af BA O λb8=>AB O (B6 O (AB O (AL O (AV O))))))
   exact AL O (AV O)
  exact A4 O O
 refine AM O (kp [2] O) (A5 (λm n g i=>?_))
 cases E
 exact Em g i O O k ⟨O,b⟩
end Go.Proofs.YtblcgjadhemlbaaGreat
