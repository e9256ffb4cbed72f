import Derived.Test.YtblcgjadhemlbaaGreatVWalk2
namespace Go.Proofs.YtblcgjadhemlbaaGreat
set_option linter.all false
open Go.RowKit
open Go.Proofs.Tryz
set_option maxRecDepth 10000
set_option maxHeartbeats 2000000
variable {N:Nat}{S:Nat→Prop}{L:List HP}{h:BL}
def Is (H:St S L h) {b:Int}(w:AH b) {a:Int}(q:AH a) {c:Int}(s:AH c) {r:Int×Int×Bool}(E:Fj N b a c=some r):
 C5 prog 88 #[vI b,vI a,vI c] S h (λv S' h'=>v= .tuple #[vI r.1,vI r.2.1,.bool r.2.2]∧AH r.1∧AH r.2.1∧St S' (L) h'):=by
 refine Bv (l:=[vI b,vI a,vI c]) 61 func88 O ntmps88 O λB=>?_
 rw[Fj] at E
 refine AI (AY O (AY O (AM O (kp [0,1,2] O) (AE (AI (AA O (BK O (AA O (AW 3 18 (.bool ((decide (b<0))||(decide (1125899906842624<b)))) ?_ ?_)))))))))
 ·cases W:(decide (b<0))
  ·exact AB O (AA O (AB O (CP O (AL O (AV O)))))
  exact A3 O O
 refine AA O (AW 3 22 (.bool (((decide (b<0))||(decide (1125899906842624<b)))||(decide (a<0)))) ?_ ?_)
 ·cases X:((decide (b<0))||(decide (1125899906842624<b)))
  ·exact AB O (AA O (AB O (BK O (AL O (AV O)))))
  exact A3 O O
 refine AA O (AW 3 26 (.bool ((((decide (b<0))||(decide (1125899906842624<b)))||(decide (a<0)))||(decide (1125899906842624<a)))) ?_ ?_)
 ·cases Y:(((decide (b<0))||(decide (1125899906842624<b)))||(decide (a<0)))
  ·exact AB O (AA O (AB O (CP O (AL O (AV O)))))
  exact A3 O O
 refine AA O (AW 3 30 (.bool (((((decide (b<0))||(decide (1125899906842624<b)))||(decide (a<0)))||(decide (1125899906842624<a)))||(decide (c<1)))) ?_ ?_)
 ·cases Z:((((decide (b<0))||(decide (1125899906842624<b)))||(decide (a<0)))||(decide (1125899906842624<a)))
  ·exact AB O (AA O (AB O (BK O (AL O (AV O)))))
  exact A3 O O
 refine AA O (AW 3 34 (.bool ((((((decide (b<0))||(decide (1125899906842624<b)))||(decide (a<0)))||(decide (1125899906842624<a)))||(decide (c<1)))||(decide (1125899906842624<c)))) ?_ ?_)
 ·cases c5:(((((decide (b<0))||(decide (1125899906842624<b)))||(decide (a<0)))||(decide (1125899906842624<a)))||(decide (c<1)))
  ·exact AB O (AA O (AB O (CP O (AL O (AV O)))))
  exact A3 O O
 refine AN (kp [34,0,1,2] O) (AX O E (λI E=>?_) (λI E=>?_))
 ·refine AI (AY O (AY O (AM O (kp [8,7,6] O) (A5 (λy z d k=>?_)))))
  cases E
  exact Kn d O k (Ix (JP d (v:=_) O) (Ix (JP d (v:=_) O) (Ix (JP d (v:=_) O) Km))) O (Cv.refl S h) ⟨O,(iq (n:=0) O),(iq (n:=0) O),H⟩
 refine AT (AE (CX (.inl O) H (AA O (H9 O Oj Lf O (AA O (H9 O Oj Lf O ?_))))))
 obtain⟨x,A,E⟩:=bd E
 refine It (v:= .tuple #[.int .u64 x.1,.int .u64 x.2]) (Ψ:=IntKind.has .u64 x.1∧IntKind.has .u64 x.2) O O O aK O (λh' o=>(Kw (St.all h') (En _ _) (En _ _) A).mono λ_ _ _ _ p=>⟨p.1,⟨p.2.1,p.2.2.1⟩⟩) λJ=>?_
 obtain⟨K,C⟩:=J
 refine AA O (CS O (CS O (AY O (AY O (B3 (kp [10,9,2] O) λM i m=>AE (AI (AA O (AA O (H9 O Oj Lf O (HQ O (AN (kp [46,10,9,2] O) (AX O E (λD E=>?_) (λD E=>?_)))))))))))))
 ·refine AI (AY O (AY O (AM O (kp [8,7,6] O) (A5 (λy z d k=>?_)))))
  cases E
  exact Kn d O k (Ix (JP d (v:=_) O) (Ix (JP d (v:=_) O) (Ix (JP d (v:=_) O) Km))) O m ⟨O,(iq (n:=0) O),(iq (n:=0) O),i⟩
 refine AT (AE (CX (.inl O) i (AA O (AA O (AA O (H9 O Oj Lf O ?_))))))
 obtain⟨g,t,E⟩:=bd E
 refine It (v:= .tuple #[.int .u64 g.1,.int .u64 g.2]) (Ψ:=IntKind.has .u64 g.1∧IntKind.has .u64 g.2) O O O aJ O (λh' o=>(Kx (St.all h') K C (En _ _) t).mono λ_ _ _ _ p=>⟨p.1,⟨p.2.1,p.2.2.1⟩⟩) λF=>?_
 obtain⟨Q,U⟩:=F
 refine AA O (CS O (CS O (AY O (AY O (B3 (kp [12,11] O) λV j u=>AE (AI (AA O (CP O (AN (kp [56,12,11] O) (AX O E (λG E=>?_) (λG E=>?_)))))))))))
 ·refine AI (AY O (AY O (AM O (kp [8,7,6] O) (A5 (λy z d k=>?_)))))
  cases E
  exact Kn d O k (Ix (JP d (v:=_) O) (Ix (JP d (v:=_) O) (Ix (JP d (v:=_) O) Km))) O (m.trans u) ⟨O,(iq (n:=0) O),(iq (n:=0) O),j⟩
 refine AT (AI (AA O (H9 O Lf Oj O (AA O (H9 O Lf Oj O (AY O (AY O (AM O (kp [8,7,6] O) (A5 (λy z d k=>?_))))))))))
 cases E
 exact Kn d O k (Ix (JP d (v:=_) O) (Ix (JP d (v:=_) O) (Ix (JP d (v:=_) O) Km))) O (m.trans u) ⟨O,(B1 _),(B1 _),j⟩
def Kp (hs:St S L h) {d:Value}{i:(List B4)}(s:Sl S h CY d i) {b:Int}(t:AH b) {r:Int×Bool}(E:IF N i b=some r):
 C5 prog 102 #[d,vI b] S h (λv S' h'=>v= .tuple #[vI r.1,.bool r.2]∧AH r.1∧St S' (L) h'):=by
 refine Bv (l:=[d,vI b]) 63 func102 O ntmps102 O λB=>?_
 rw[IF] at E
 refine WF.sl (Cm O (NR s) (λ_=>rfl) O hs λq1 S2 h3 ab e5 k6=>Cm O (⟨_,O,O,t⟩:Rd _ _ AJ _ b) (λ_=>rfl) O ab λq7 S8 h9 j u D=>AF 2 (AY O (AY O (AG (AZ (kp [3,2] O) (AE (CX (.inl O) j ?_)))))))
 have w:=k6.mono u
 refine BG CL j.1 O w I4 O λa1 ac=>BC O ac Im O λad=>Oz O O O ?_
 have F:Rd S8 h9 (BW.fn prog (λx:Int=>([vI x]:List Value)) (λx:Int=>AH x) (λy:Bool=> .bool y) (λy:Bool=>True)) (.func (.func 111) #[] #[q1,q7]) (λx=>Hw N i b x):=Rd.ofFn 111 #[q1,q7] cU λS' h' s' e' L hs x y h1 h2=>(OV hs h1 (w.mono'' s' e') (D.mono'' s' e') h2).mono λ_ _ _ _ p=>⟨p.1,trivial,p.2⟩
 obtain⟨a2,G,E⟩:=bd E
 refine DF O O O cV O (λh' o=>PL (St.all h') (J9 ad) (F.mono (o.all j.1)) G) λae=>?_
 have a3:=ae
 refine AY O (B3 (kp [6,3,2] O) λa4 c g=>AE (AI (AA O (B9 O (AN (kp [16,6,3,2] O) (AX O E (λaf E=>?_) (λaf E=>?_)))))))
 ·refine AI (BG BY c.1 O (w.mono g) I4 O λa5 ag=>?_)
  obtain⟨a6,H,E⟩:=bd E
  refine Bz O O ag Im H O λa7 ah=>A8 O ah LO I1 O λa8 ai=>A9 BY c.1 O ai A7 O λaj=>AY O (AM O (kp [5,4] O) (A5 (λaa ww k I=>?_)))
  cases E
  exact Kn k O I (Ix (JP k (v:=_) O) (Ix (JP k (v:=_) O) Km)) O (e5.trans (u.trans g)) ⟨O,aj,c⟩
 refine AT (WF.sl (AF 5 ?_))
 have J:=w.mono g
 refine BG BY c.1 O J I4 O λa9 ak=>AA O (Dk O ?_)
 obtain⟨K,M,E⟩:=bd E
 refine Bz O O ak Im M O λba am=>Ci BY c.1 O am O4 (λe=>by cases e) O λbb an=>AG (Di Un O c λbc be Q m=>?_)
 obtain⟨rfl,⟨bf,ao⟩⟩:=CY.ex (an.mono m)
 refine EW (vs:=[vI K.N,vI K.Y]) O O O O O4 O Q .head O λbg a z=>AZ (kp [7,6,3,2] O) (AE (AI (AA O ?_)))
 have C:=J.mono (m.trans z)
 refine BG BY a.1 O C I4 O λbh ap=>BC O ap Im O λbi=>B9 O (AN (kp [29,7,6,3,2] O) (AX O E (λaq E=>?_) (λaq E=>?_)))
 ·refine AI (AD I1 O (AS BY a O mh O A7 O (AY O (AM O (kp [5,4] O) (A5 (λaa ww k I=>?_))))))
  have U:=a.drop .head
  cases E
  exact Kn k O I (Ix (JP k (v:=_) O) (Ix (JP k (v:=_) O) Km)) O (e5.trans (u.trans (g.trans (m.trans z)))) ⟨O,ao,U⟩
 refine AT (AE (CX (.inr ⟨mo,by kernel_rfl⟩) a (A9 CL a.1 O (D.mono (g.trans (m.trans z))) A7 O λbj=>AD JY O (AS CL a O mh O A7 O (Dk O (BG CL a.1 O C I4 O λbk ar=>AA O ?_))))))
 obtain⟨bl,V,E⟩:=bd E
 refine Bz O O ar Im V O λbm au=>A8 O au LO I1 O λbn av=>A9 CL a.1 O av A7 O λbo=>AD I1 O (AS CL a O mh O A7 O (Dk O (BG CL a.1 O C I4 O λbp aw=>AA O ?_)))
 obtain⟨bq,W,E⟩:=bd E
 refine Bz O O aw Im W O λbr ax=>A8 O ax LP JY O λbs ay=>A9 CL a.1 O ay A7 O λbt=>AD JY O (AS CL a O mh O A7 O (Dk O ?_))
 obtain⟨n,X,E⟩:=bd E
 refine It (v:= .tuple #[vI n.1,vI n.2.1,.bool n.2.2]) (Ψ:=AH n.1∧AH n.2.1) O O O Tu O (λh' o=>(Is (St.all h') (B1 _) (B1 _) (B1 _) X).mono λ_ _ _ _ p=>⟨p.1,⟨p.2.1,p.2.2.1⟩⟩) λaz=>?_
 obtain⟨bu,bv⟩:=az
 refine AA O (CS O (CS O (CS O (AY O (AY O (AY O (B3 (kp [9,8,7] O) λbw A a0=>AI (AD I1 O (AS BY A O mh O A7 O (AA O (BB O (AA O (CP O (AY O (AM O (kp [5,4] O) (A5 (λaa ww k I=>?_)))))))))))))))))
 have Z:=A.drop .head
 cases E
 exact Kn k O I (Ix (JP k (v:=_) O) (Ix (JP k (v:=_) O) Km)) O (e5.trans (u.trans (g.trans (m.trans (z.trans a0))))) ⟨O,(B1 _),Z⟩
def MT (hs:St S L h) {b:Value}{i:(List B4)}(k:Sl S h CY b i) {c:Value}{j:(List B4)}(m:Sl S h CY c j) {r:Bool}(E:HX N i j=some r):
 C5 prog 93 #[b,c] S h (λv S' h'=>v= .bool r∧St S' (L) h'):=by
 refine Bv (l:=[b,c]) 66 func93 O ntmps93 O λB=>?_
 rw[HX] at E
 refine AI (AM O (kp [0,1] O) (AE (AE (CX (.inl O) hs (AA O ?_)))))
 obtain⟨y1,ax,E⟩:=bd E
 refine BR O O O QQ O (λh' o=>G9 (St.all h') (k.mono' (o.all hs.1)) ax) (CE O (AA O ?_))
 obtain⟨b4,t,E⟩:=bd E
 refine AW 4 20 (.bool b4) ?_ ?_
 ·cases c3:(!y1)
  ·have t:=HG c3 t
   refine AB O (AA O (AB O ?_))
   obtain⟨y5,ay,t⟩:=bd t
   refine BR O O O QQ O (λh' o=>G9 (St.all h') (m.mono' (o.all hs.1)) ay) (AB O (CE O (AL O ?_)))
   cases t
   exact AV O
  have t:=HE c3 t
  cases t
  exact A3 O O
 refine B3 (kp [20,0,1] O) λh7 ac U=>AX O E (λaz E=>?_) (λaz E=>?_)
 ·refine AI (AM O (kp [4] O) (A5 (λp s d g=>?_)))
  cases E
  exact Ee d g O O U ⟨O,ac⟩
 refine AT (AE (AI (AA O ?_)))
 have ad:=k.mono' U
 refine BC O ad Im O λbe=>AA O (AN (kp [23,22,21,0,1] O) (BF (λa w=>IV B S h7 (66,[]) a w [(0,b),(1,c)] (L) λ_ _=>GG N i j=some r) ?_ ?_))
 ·refine BT (λn1=>λa w=>∃(z:Int),IV B S h7 (66,[]) a w [(22,vI (↑i.length:Int)),(21,b),(0,b),(1,c),(23,vI z)] (L) λ_ _=>AH z∧GF N i j (GG N i j) n1 z=some r) N ?_ ?_ ?_
  ·intro p s d g
   exact⟨0,_,_,d.sub (kp [22,21,0,1,23] O),g,ac,(Cv.refl S h7),(iq (n:=0) O),E⟩
  ·rintro p s ⟨_,_,_,_,_,_,_,_,E⟩
   rw[GF] at E;cases E
  rintro n1 p s ⟨z,bf,bg,d,g,A,C,bh,E⟩
  refine A6 ?_ d g
  clear d g s p
  rw[GF] at E
  refine AI (BK O (AN (kp [24,22,21,0,1,23] O) (AE (AX O E (λa0 E=>?_) (λa0 E=>?_)))))
  ·refine AT (AE (BV (WF.sl (AF 2 ?_))))
   obtain⟨ae,af,E⟩:=bd E
   refine Bz O O (ad.mono' C) Im af O λbi a1=>Ci BY A.1 O a1 O4 (λe=>by cases e) O λbj a2=>AG (Di Un O A λbk bl ag K=>?_)
   obtain⟨rfl,⟨a3,bm⟩⟩:=CY.ex (a2.mono K)
   refine EW (vs:=[vI ae.N,vI ae.Y]) O O O O O4 O ag .head O λbn D V=>AZ (kp [6,22,21,0,1,23] O) (AE (CX (.inl O) D (AA O (AD JY O (AS CL D O mh O A7 O ?_)))))
   obtain⟨bo,ah,E⟩:=bd E
   refine DF O O O Ua O (λh' o=>Kp (St.all h') ((m.mono' (U.trans (C.trans (K.trans V)))).mono' (o.all D.1)) a3 ah) λa4=>?_
   have bp:=a4
   refine AA O (CS O (CS O (AY O (AY O (B3 (kp [7,6,22,21,0,1,23] O) λbq F ai=>AI (AD I1 O (AS BY F O mh O A7 O (AA O (CP O (AN (kp [37,22,21,0,1,23] O) (AX O E (λa5 E=>?_) (λa5 E=>?_))))))))))))
   ·refine AI (AM O (kp [4] O) (A5 (λp s d g=>?_)))
    have aj:=F.drop .head
    cases E
    exact Ee d g O O (U.trans (C.trans (K.trans (V.trans ai)))) ⟨O,aj⟩
   refine AT (B5 (CN (.inl O) (BB O (AA O (AN (kp [23,22,21,0,1] O) (WF.nil (λp s d g=>?_)))))))
   have ak:=F.drop .head
   exact⟨(B0 (z+1)),_,_,d.sub (kp [22,21,0,1,23] O),g,ak,(C.trans (K.trans (V.trans ai))),(B1 _),E⟩
  refine By O (λp s d g=>?_)
  exact⟨_,_,d.sub (kp [0,1] O),g,A,C,E⟩
 rintro p s ⟨W,X,d,g,am,M,E⟩
 refine A6 ?_ d g
 clear d g s p
 rw[GG] at E
 refine AE (AI (AA O ?_))
 have an:=m.mono' (U.trans M)
 refine BC O an Im O λbr=>AA O (AN (kp [41,40,39,0] O) (BF (λa w=>IV B W X (66,[]) a w [] (L) λ_ _=>Hb N=some r) ?_ ?_))
 ·refine BT (λn3=>λa w=>∃(G:Int),IV B W X (66,[]) a w [(40,vI (↑j.length:Int)),(39,c),(0,b),(41,vI G)] (L) λ_ _=>AH G∧GE N i j (Hb N) n3 G=some r) N ?_ ?_ ?_
  ·intro p s d g
   exact⟨0,_,_,d.sub (kp [40,39,0,41] O),g,am,(Cv.refl W X),(iq (n:=0) O),E⟩
  ·rintro p s ⟨_,_,_,_,_,_,_,_,E⟩
   rw[GE] at E;cases E
  rintro n3 p s ⟨G,bs,bt,d,g,H,I,bu,E⟩
  refine A6 ?_ d g
  clear d g s p
  rw[GE] at E
  refine AI (BK O (AN (kp [42,40,39,0,41] O) (AE (AX O E (λa6 E=>?_) (λa6 E=>?_)))))
  ·refine AT (AE (BV (WF.sl (AF 2 ?_))))
   obtain⟨u,ao,E⟩:=bd E
   refine Bz O O (an.mono' I) Im ao O λbv a7=>Ci BY H.1 O a7 O4 (λe=>by cases e) O λbw a8=>AG (Di Un O H λbx bz ap Q=>?_)
   obtain⟨rfl,⟨a9,b0⟩⟩:=CY.ex (a8.mono Q)
   refine EW (vs:=[vI u.N,vI u.Y]) O O O O O4 O ap .head O λb1 J Z=>AZ (kp [10,40,39,0,41] O) (AE (CX (.inl O) J (AA O (AD JY O (AS CL J O mh O A7 O ?_)))))
   obtain⟨x,aq,E⟩:=bd E
   refine DF O O O Ua O (λh' o=>Kp (St.all h') ((k.mono' (U.trans (M.trans (I.trans (Q.trans Z))))).mono' (o.all J.1)) a9 aq) λba=>?_
   have b2:=ba
   refine AA O (CS O (CS O (AY O (AY O (B3 (kp [12,11,10,40,39,0,41] O) λb3 y ar=>AI (AA O (AD I1 O (AS BY y O mh O A7 O (CP O (AA O (AW 8 64 (.bool ((decide (u.Y<x.1))||((decide (x.1=u.Y))&&x.2))) ?_ ?_)))))))))))
   ·cases b5:(decide (u.Y<x.1))
    ·refine AB O (AA O (AB O (AD I1 O (AB O (AS BY y O mh O A7 O (AB O (B9 O (AB O (AA O (AW 2 63 (.bool ((decide (x.1=u.Y))&&x.2)) ?_ ?_))))))))))
     ·cases b6:(decide (x.1=u.Y))
      ·exact A3 O O
      exact AB O (AA O (AB O (AL O (AV O))))
     exact AL O (AV O)
    exact A3 O O
   refine AN (kp [64,40,39,0,41] O) (AX O E (λbb E=>?_) (λbb E=>?_))
   ·refine AI (AM O (kp [4] O) (A5 (λp s d g=>?_)))
    have au:=y.drop .head
    cases E
    exact Ee d g O O (U.trans (M.trans (I.trans (Q.trans (Z.trans ar))))) ⟨O,au⟩
   refine AT (B5 (CN (.inl O) (BB O (AA O (AN (kp [41,40,39,0] O) (WF.nil (λp s d g=>?_)))))))
   have av:=y.drop .head
   exact⟨(B0 (G+1)),_,_,d.sub (kp [40,39,0,41] O),g,av,(I.trans (Q.trans (Z.trans ar))),(B1 _),E⟩
  refine By O (λp s d g=>?_)
  exact⟨_,_,d.sub PO,g,H,I,E⟩
 rintro p s ⟨b7,bc,d,g,ab,aw,E⟩
 refine A6 ?_ d g
 clear d g s p
 rw[Hb] at E
 refine AI (AM O (kp [4] O) (A5 (λp s d g=>?_)))
 cases E
 exact Ee d g O O (U.trans (M.trans aw)) ⟨O,ab⟩
def Mi (hs:St S L h) {Q:Value}{d:BQ}(ad:Rd S h Ce Q d) {r:Bool}(E:FW N d=some r):
 C5 prog 76 #[Q] S h (λv S' h'=>v= .bool r∧St S' (L) h'):=by
 refine Bv (l:=[Q]) 152 func76 O ntmps76 O λB=>?_
 rw[FW] at E
 refine WF.sl (Cm O ad (λe=>by cases e) O hs λq1 S2 h3 c e5 K=>AF 1 (AY O (AG (AZ (kp [1] O) (AE (AI (A8 O K BQ.f_Kind G5 O λq7 k8=>A9 BY c.1 O k8 A7 O λr9=>AN (kp [4,1] O) (BV (AI (B9 O (AM O (kp [5,4,1] O) (AX O E (λdh E=>?_) (λdh E=>?_)))))))))))))
 ·refine AE (CX (.inl O) c (A8 O K J7 NN O λfo di=>BG CL c.1 O di I4 O λfp dj=>?_))
  obtain⟨dk,be,E⟩:=bd E
  refine BR O O O QQ O (λh' o=>G9 (St.all h') (dj.mono' (o.all c.1)) be) (AA O ?_)
  obtain⟨bf,x,E⟩:=bd E
  refine AW 5 15 (.bool bf) ?_ ?_
  ·cases bg:dk
   ·have x:=HG bg x
    cases x
    exact A3 O O
   have x:=HE bg x
   refine AB O (A8 O K JM LY O λfq dl=>AB O (A8 O dl N1 Pn O λfr dm=>AB O (BG CL c.1 O dm I4 O λfs dn=>AB O ?_)))
   obtain⟨ft,bh,x⟩:=bd x
   refine BR O O O QQ O (λh' o=>G9 (St.all h') (dn.mono' (o.all c.1)) bh) (AL O ?_)
   cases x
   exact AV O
  refine AA O ?_
  obtain⟨bi,y,E⟩:=bd E
  refine AW 5 21 (.bool bi) ?_ ?_
  ·cases bj:bf
   ·have y:=HG bj y
    cases y
    exact A3 O O
   have y:=HE bj y
   refine AB O (A8 O K JM LY O λfu dp=>AB O (A8 O dp N2 Pm O λfv dq=>AB O (BG CL c.1 O dq I4 O λfw dr=>AB O ?_)))
   obtain⟨fx,bk,y⟩:=bd y
   refine BR O O O QQ O (λh' o=>G9 (St.all h') (dr.mono' (o.all c.1)) bk) (AL O ?_)
   cases y
   exact AV O
  refine AA O ?_
  obtain⟨bl,z,E⟩:=bd E
  refine AW 7 29 (.bool bl) ?_ ?_
  ·cases bm:bi
   ·have z:=HG bm z
    cases z
    exact A3 O O
   have z:=HE bm z
   refine AB O (A8 O K JM LY O λfy ds=>AB O (A8 O ds N1 Pn O λfz dt=>AB O (BG CL c.1 O dt I4 O λf0 du=>AB O (A8 O K J7 NN O λf1 dv=>AB O (BG CL c.1 O dv I4 O λf2 dw=>AB O ?_)))))
   obtain⟨f3,bn,z⟩:=bd z
   refine BR O O O aL O (λh' o=>MT (St.all h') (du.mono' (o.all c.1)) (dw.mono' (o.all c.1)) bn) (AL O ?_)
   cases z
   exact AV O
  refine AA O ?_
  obtain⟨bo,A,E⟩:=bd E
  refine AW 7 37 (.bool bo) ?_ ?_
  ·cases bp:bl
   ·have A:=HG bp A
    cases A
    exact A3 O O
   have A:=HE bp A
   refine AB O (A8 O K J7 NN O λf4 dx=>AB O (BG CL c.1 O dx I4 O λf5 dy=>AB O (A8 O K JM LY O λf6 dz=>AB O (A8 O dz N2 Pm O λf7 d0=>AB O (BG CL c.1 O d0 I4 O λf8 d1=>AB O ?_)))))
   obtain⟨f9,bq,A⟩:=bd A
   refine BR O O O aL O (λh' o=>MT (St.all h') (dy.mono' (o.all c.1)) (d1.mono' (o.all c.1)) bq) (AL O ?_)
   cases A
   exact AV O
  refine AA O ?_
  obtain⟨br,F,E⟩:=bd E
  refine AW 4 42 (.bool br) ?_ ?_
  ·cases bs:bo
   ·have F:=HG bs F
    cases F
    exact A3 O O
   have F:=HE bs F
   refine AB O (A8 O K Ep Jr O λga d2=>AB O (A9 CL c.1 O d2 A7 O λd3=>AB O ?_))
   obtain⟨gb,bt,F⟩:=bd F
   refine BR O O O IZ O (λh' o=>CV (St.all h') d3 (iq (n:=0) O) (iq (n:=64) O) bt) (AL O ?_)
   cases F
   exact AV O
  refine AA O ?_
  obtain⟨bu,G,E⟩:=bd E
  refine AW 6 49 (.bool bu) ?_ ?_
  ·cases bv:br
   ·have G:=HG bv G
    cases G
    exact A3 O O
   have G:=HE bv G
   refine AB O (A8 O K JX ON O λgc d4=>AB O (A9 CL c.1 O d4 A7 O λd5=>AB O (A8 O K Ep Jr O λgd d6=>AB O (A9 CL c.1 O d6 A7 O λd7=>AB O ?_))))
   obtain⟨ge,bw,G⟩:=bd G
   refine BR O O O IZ O (λh' o=>CV (St.all h') d5 (iq (n:=0) O) d7 bw) (AL O ?_)
   cases G
   exact AV O
  refine AA O ?_
  obtain⟨bx,H,E⟩:=bd E
  refine AW 4 54 (.bool bx) ?_ ?_
  ·cases bz:bu
   ·have H:=HG bz H
    cases H
    exact A3 O O
   have H:=HE bz H
   refine AB O (A8 O K MR SG O λgf d8=>AB O (A9 CL c.1 O d8 A7 O λd9=>AB O ?_))
   obtain⟨gg,b0,H⟩:=bd H
   refine BR O O O KB O (λh' o=>Cf (St.all h') d9 b0) (AL O ?_)
   cases H
   exact AV O
  refine AA O ?_
  obtain⟨au,I,E⟩:=bd E
  refine AW 6 61 (.bool au) ?_ ?_
  ·cases b1:bx
   ·have I:=HG b1 I
    cases I
    exact A3 O O
   have I:=HE b1 I
   refine AB O (A8 O K Iw LI O λgh ea=>AB O (A9 CL c.1 O ea A7 O λeb=>AB O (A8 O K Hy Ka O λgi ec=>AB O (A9 CL c.1 O ec A7 O λed=>AB O ?_))))
   obtain⟨gj,b2,I⟩:=bd I
   refine BR O O O YI O (λh' o=>Jj (St.all h') eb ed b2) (AL O ?_)
   cases I
   exact AV O
  refine AA O (AW 9 71 (.bool (au&&((decide (d.D≠(-1)))||(decide (d.Ab=0))))) ?_ ?_)
  ·cases gl:au
   ·exact A3 O O
   refine AB O (A8 O K BQ.f_To Id O λee b3=>AB O (A9 CL c.1 O b3 A7 O λef=>AB O (CW O (AB O (AA O (AW 4 70 (.bool ((decide (d.D≠(-1)))||(decide (d.Ab=0)))) ?_ ?_))))))
   ·cases eg:(decide (d.D≠(-1)))
    ·exact AB O (A8 O K Hy Ka O λeh b4=>AB O (A9 CL c.1 O b4 A7 O λei=>AB O (B9 O (AB O (AL O (AV O))))))
    exact A3 O O
   exact AL O (AV O)
  refine AY O (B3 (kp [2] O) λej av b5=>A5 (λaa ww V W=>?_))
  cases E
  exact Ee V W O O (e5.trans b5) ⟨O,av⟩
 refine AE (AI (B9 O (AM O (kp [72,4,1] O) (HN (λa w=>∃(Y:Bool),IV B S2 h3 (152,[]) a w [(4,vI d.C),(1,q1),(72,.bool Y)] (L) λ_ _=>D0 N d Y=some r) ?_ ?_))))
 ·refine AX O E (λb6 E=>?_) (λb6 E=>?_)
  ·refine AT (WF.nil (λaa ww V W=>?_))
   exact⟨(decide (d.C=1)),_,_,V.sub (kp [4,1,72] O),W,c,(Cv.refl S2 h3),E⟩
  refine CN (.inl O) (B9 O (AM O (kp [72,4,1] O) (WF.nil (λaa ww V W=>?_))))
  exact⟨(decide (d.C=5)),_,_,V.sub (kp [4,1,72] O),W,c,(Cv.refl S2 h3),E⟩
 rintro aa ww ⟨Y,ek,el,V,W,b,J,E⟩
 refine A6 ?_ V W
 clear V W ww aa
 rw[D0] at E
 refine AX O E (λb7 E=>?_) (λb7 E=>?_)
 ·refine AE (CX (.inl O) b ?_)
  have Z:=K.mono J
  refine A8 O Z Lm SF O λem b8=>A9 CL b.1 O b8 A7 O λb9=>?_
  obtain⟨ca,aw,E⟩:=bd E
  refine BR O O O KB O (λh' o=>Cf (St.all h') b9 aw) (AA O ?_)
  obtain⟨ae,g,E⟩:=bd E
  refine AW 4 82 (.bool ae) ?_ ?_
  ·cases af:ca
   ·have g:=HG af g
    cases g
    exact A3 O O
   have g:=HE af g
   refine AB O (A8 O Z BQ.f_Num I8 O λen cb=>AB O (A9 CL b.1 O cb A7 O λcc=>AB O ?_))
   obtain⟨eo,ax,g⟩:=bd g
   refine BR O O O KB O (λh' o=>Cf (St.all h') cc ax) (AL O ?_)
   cases g
   exact AV O
  refine AA O ?_
  obtain⟨cd,i,E⟩:=bd E
  refine AW 4 87 (.bool cd) ?_ ?_
  ·cases ag:ae
   ·have i:=HG ag i
    cases i
    exact A3 O O
   have i:=HE ag i
   refine AB O (A8 O Z BQ.f_Den Jt O λep ce=>AB O (A9 CL b.1 O ce A7 O λcf=>AB O ?_))
   obtain⟨eq,ay,i⟩:=bd i
   refine BR O O O IZ O (λh' o=>CV (St.all h') cf (iq (n:=1) O) (iq (n:=1125899906842624) O) ay) (AL O ?_)
   cases i
   exact AV O
  refine AY O (B3 (kp [2] O) λer az cg=>A5 (λaa ww V W=>?_))
  cases E
  exact Ee V W O O (e5.trans (J.trans cg)) ⟨O,az⟩
 refine AI (B9 O (AM O (kp [88,4,1] O) (AX O E (λch E=>?_) (λch E=>?_))))
 ·refine AE (CX (.inl O) b ?_)
  have X:=K.mono J
  refine A8 O X BQ.f_Num I8 O λes ci=>A9 CL b.1 O ci A7 O λcj=>?_
  obtain⟨ck,a0,E⟩:=bd E
  refine BR O O O KB O (λh' o=>Cf (St.all h') cj a0) (AA O ?_)
  obtain⟨ah,j,E⟩:=bd E
  refine AW 4 97 (.bool ah) ?_ ?_
  ·cases ai:ck
   ·have j:=HG ai j
    cases j
    exact A3 O O
   have j:=HE ai j
   refine AB O (A8 O X Ep Jr O λet cl=>AB O (A9 CL b.1 O cl A7 O λcm=>AB O ?_))
   obtain⟨eu,a1,j⟩:=bd j
   refine BR O O O IZ O (λh' o=>CV (St.all h') cm (iq (n:=1) O) (iq (n:=64) O) a1) (AL O ?_)
   cases j
   exact AV O
  refine AA O ?_
  obtain⟨cn,k,E⟩:=bd E
  refine AW 6 104 (.bool cn) ?_ ?_
  ·cases aj:ah
   ·have k:=HG aj k
    cases k
    exact A3 O O
   have k:=HE aj k
   refine AB O (A8 O X JX ON O λev co=>AB O (A9 CL b.1 O co A7 O λcp=>AB O (A8 O X Ep Jr O λew cq=>AB O (A9 CL b.1 O cq A7 O λcr=>AB O ?_))))
   obtain⟨ex,a2,k⟩:=bd k
   refine BR O O O IZ O (λh' o=>CV (St.all h') cp (iq (n:=0) O) cr a2) (AL O ?_)
   cases k
   exact AV O
  refine AY O (B3 (kp [2] O) λey a3 cs=>A5 (λaa ww V W=>?_))
  cases E
  exact Ee V W O O (e5.trans (J.trans cs)) ⟨O,a3⟩
 refine AI (B9 O (AM O (kp [105,1] O) (AX O E (λct E=>?_) (λct E=>?_))))
 ·refine AE (CX (.inl O) b ?_)
  have M:=K.mono J
  refine A8 O M BQ.f_Num I8 O λez cu=>A9 CL b.1 O cu A7 O λcv=>?_
  obtain⟨cw,a4,E⟩:=bd E
  refine BR O O O KB O (λh' o=>Cf (St.all h') cv a4) (AA O ?_)
  obtain⟨ak,m,E⟩:=bd E
  refine AW 4 114 (.bool ak) ?_ ?_
  ·cases al:cw
   ·have m:=HG al m
    cases m
    exact A3 O O
   have m:=HE al m
   refine AB O (A8 O M BQ.f_Den Jt O λe0 cx=>AB O (A9 CL b.1 O cx A7 O λcy=>AB O ?_))
   obtain⟨e1,a5,m⟩:=bd m
   refine BR O O O IZ O (λh' o=>CV (St.all h') cy (iq (n:=1) O) (iq (n:=1125899906842624) O) a5) (AL O ?_)
   cases m
   exact AV O
  refine AA O ?_
  obtain⟨am,p,E⟩:=bd E
  refine AW 4 119 (.bool am) ?_ ?_
  ·cases an:ak
   ·have p:=HG an p
    cases p
    exact A3 O O
   have p:=HE an p
   refine AB O (A8 O M KU OR O λe2 cz=>AB O (A9 CL b.1 O cz A7 O λc0=>AB O ?_))
   obtain⟨e3,a6,p⟩:=bd p
   refine BR O O O KB O (λh' o=>Cf (St.all h') c0 a6) (AL O ?_)
   cases p
   exact AV O
  refine AA O ?_
  obtain⟨ab,s,E⟩:=bd E
  refine AW 4 124 (.bool ab) ?_ ?_
  ·cases ao:am
   ·have s:=HG ao s
    cases s
    exact A3 O O
   have s:=HE ao s
   refine AB O (A8 O M KV OQ O λe4 c1=>AB O (A9 CL b.1 O c1 A7 O λc2=>AB O ?_))
   obtain⟨e6,a7,s⟩:=bd s
   refine BR O O O KB O (λh' o=>Cf (St.all h') c2 a7) (AL O ?_)
   cases s
   exact AV O
  refine AA O (AW 6 131 (.bool (ab&&(decide (d.Ai<d.Ah)))) ?_ ?_)
  ·cases e7:ab
   ·exact A3 O O
   exact AB O (A8 O M KV OQ O λe8 c3=>AB O (A9 CL b.1 O c3 A7 O λe9=>AB O (A8 O M KU OR O λfb c4=>AB O (A9 CL b.1 O c4 A7 O λfc=>AB O (BK O (AL O (AV O)))))))
  refine AY O (B3 (kp [2] O) λfd a8 c5=>A5 (λaa ww V W=>?_))
  cases E
  exact Ee V W O O (e5.trans (J.trans c5)) ⟨O,a8⟩
 refine AT (B5 (AE (CX (.inl O) b ?_)))
 have U:=K.mono J
 refine A8 O U BQ.f_Num I8 O λfe c6=>A9 CL b.1 O c6 A7 O λc7=>?_
 obtain⟨c8,a9,E⟩:=bd E
 refine BR O O O KB O (λh' o=>Cf (St.all h') c7 a9) (AA O ?_)
 obtain⟨ap,t,E⟩:=bd E
 refine AW 4 139 (.bool ap) ?_ ?_
 ·cases aq:c8
  ·have t:=HG aq t
   cases t
   exact A3 O O
  have t:=HE aq t
  refine AB O (A8 O U BQ.f_Den Jt O λff c9=>AB O (A9 CL b.1 O c9 A7 O λda=>AB O ?_))
  obtain⟨fg,ba,t⟩:=bd t
  refine BR O O O IZ O (λh' o=>CV (St.all h') da (iq (n:=1) O) (iq (n:=1125899906842624) O) ba) (AL O ?_)
  cases t
  exact AV O
 refine AA O ?_
 obtain⟨ac,u,E⟩:=bd E
 refine AW 6 146 (.bool ac) ?_ ?_
 ·cases ar:ap
  ·have u:=HG ar u
   cases u
   exact A3 O O
  have u:=HE ar u
  refine AB O (A8 O U Iw LI O λfh db=>AB O (A9 CL b.1 O db A7 O λdc=>AB O (A8 O U Hy Ka O λfi dd=>AB O (A9 CL b.1 O dd A7 O λde=>AB O ?_))))
  obtain⟨fj,bb,u⟩:=bd u
  refine BR O O O YI O (λh' o=>Jj (St.all h') dc de bb) (AL O ?_)
  cases u
  exact AV O
 refine AA O (AW 4 151 (.bool (ac&&(decide (d.D≠(-1))))) ?_ ?_)
 ·cases fk:ac
  ·exact A3 O O
  exact AB O (A8 O U BQ.f_To Id O λfl df=>AB O (A9 CL b.1 O df A7 O λfm=>AB O (CW O (AL O (AV O)))))
 refine AY O (B3 (kp [2] O) λfn bc dg=>A5 (λaa ww V W=>?_))
 cases E
 exact Ee V W O O (e5.trans (J.trans dg)) ⟨O,bc⟩
def Me (hs:St S L h) {d:Value}{a:BQ}(j:Rd S h Ce d a) {r:Bool}(E:FU N a=some r):
 C5 prog 77 #[d] S h (λv S' h'=>v= .bool r∧St S' (L) h'):=by
 refine Bv (l:=[d]) 112 func77 O ntmps77 O λB=>?_
 rw[FU] at E
 refine WF.sl (Cm O j (λe=>by cases e) O hs λq1 S2 h3 b k c=>AF 1 (AY O (AG (AZ (kp [1] O) (AI (A8 O c BQ.f_Kind G5 O λq7 k8=>A9 BY b.1 O k8 A7 O λr9=>B9 O (AM O (kp [3,1] O) (AE (AI (AA O (CE O (AA O (AW 24 33 (.bool ((!(decide (a.C=0)))&&((((decide (0<(↑a.Ba.length:Int)))||(decide (0<(↑a.Af.Bb.length:Int))))||(decide (0<(↑a.Af.Bc.length:Int))))||(decide (a.Ao≠0))))) ?_ ?_)))))))))))))
 ·cases ag:(!(decide (a.C=0)))
  ·exact A3 O O
  refine AB O (A8 O c J7 NN O λah o=>AB O (BG BY b.1 O o I4 O λai p=>AB O (BC O p Im O λaj=>AB O (CP O (AB O (AA O (AW 6 20 (.bool ((decide (0<(↑a.Ba.length:Int)))||(decide (0<(↑a.Af.Bb.length:Int))))) ?_ ?_)))))))
  ·cases ak:(decide (0<(↑a.Ba.length:Int)))
   ·exact AB O (A8 O c JM LY O λal s=>AB O (A8 O s N1 Pn O λam t=>AB O (BG BY b.1 O t I4 O λan u=>AB O (BC O u Im O λao=>AB O (CP O (AB O (AL O (AV O))))))))
   exact A3 O O
  refine AB O (AA O (AW 6 27 (.bool (((decide (0<(↑a.Ba.length:Int)))||(decide (0<(↑a.Af.Bb.length:Int))))||(decide (0<(↑a.Af.Bc.length:Int))))) ?_ ?_))
  ·cases ap:((decide (0<(↑a.Ba.length:Int)))||(decide (0<(↑a.Af.Bb.length:Int))))
   ·exact AB O (A8 O c JM LY O λaq w=>AB O (A8 O w N2 Pm O λar x=>AB O (BG BY b.1 O x I4 O λau y=>AB O (BC O y Im O λav=>AB O (CP O (AB O (AL O (AV O))))))))
   exact A3 O O
  refine AB O (AA O (AW 4 32 (.bool ((((decide (0<(↑a.Ba.length:Int)))||(decide (0<(↑a.Af.Bb.length:Int))))||(decide (0<(↑a.Af.Bc.length:Int))))||(decide (a.Ao≠0)))) ?_ ?_))
  ·cases aw:(((decide (0<(↑a.Ba.length:Int)))||(decide (0<(↑a.Af.Bb.length:Int))))||(decide (0<(↑a.Af.Bc.length:Int))))
   ·exact AB O (A8 O c MR SG O λax z=>AB O (A9 BY b.1 O z A7 O λay=>AB O (CW O (AB O (AL O (AV O))))))
   exact A3 O O
  exact AL O (AV O)
 refine AN (kp [33,3,1] O) (AX O E (λA E=>?_) (λA E=>?_))
 ·refine AI (AM O (kp [2] O) (A5 (λm n g i=>?_)))
  cases E
  exact Ee g i O O k ⟨O,b⟩
 refine AT (AE (AI (AA O (CE O (AA O (AW 4 40 (.bool ((!(decide (a.C=0)))&&(decide (a.C≠2)))) ?_ ?_))))))
 ·cases az:(!(decide (a.C=0)))
  ·exact A3 O O
  exact AB O (A8 O c BQ.f_Kind G5 O λa0 D=>AB O (A9 BY b.1 O D A7 O λa1=>AB O (CW O (AL O (AV O)))))
 refine AA O (AW 9 50 (.bool (((!(decide (a.C=0)))&&(decide (a.C≠2)))&&((decide (a.T≠0))||(decide (a.Z≠0))))) ?_ ?_)
 ·cases a2:((!(decide (a.C=0)))&&(decide (a.C≠2)))
  ·exact A3 O O
  refine AB O (A8 O c Ep Jr O λa3 F=>AB O (A9 BY b.1 O F A7 O λa4=>AB O (CW O (AB O (AA O (AW 4 49 (.bool ((decide (a.T≠0))||(decide (a.Z≠0)))) ?_ ?_))))))
  ·cases a5:(decide (a.T≠0))
   ·exact AB O (A8 O c JX ON O λa6 G=>AB O (A9 BY b.1 O G A7 O λa7=>AB O (CW O (AB O (AL O (AV O))))))
   exact A3 O O
  exact AL O (AV O)
 refine AN (kp [50,3,1] O) (AX O E (λH E=>?_) (λH E=>?_))
 ·refine AI (AM O (kp [2] O) (A5 (λm n g i=>?_)))
  cases E
  exact Ee g i O O k ⟨O,b⟩
 refine AT (AE (AI (A8 O c BQ.f_Kind G5 O λa8 I=>A9 BY b.1 O I A7 O λa9=>CW O (AA O (AW 4 58 (.bool ((decide (a.C≠1))&&(decide (a.C≠5)))) ?_ ?_)))))
 ·cases ba:(decide (a.C≠1))
  ·exact A3 O O
  exact AB O (A8 O c BQ.f_Kind G5 O λbb J=>AB O (A9 BY b.1 O J A7 O λbc=>AB O (CW O (AL O (AV O)))))
 refine AA O (AW 4 63 (.bool (((decide (a.C≠1))&&(decide (a.C≠5)))&&(decide (a.Ap≠0)))) ?_ ?_)
 ·cases be:((decide (a.C≠1))&&(decide (a.C≠5)))
  ·exact A3 O O
  exact AB O (A8 O c Lm SF O λbf K=>AB O (A9 BY b.1 O K A7 O λbg=>AB O (CW O (AL O (AV O)))))
 refine AN (kp [63,3,1] O) (AX O E (λM E=>?_) (λM E=>?_))
 ·refine AI (AM O (kp [2] O) (A5 (λm n g i=>?_)))
  cases E
  exact Ee g i O O k ⟨O,b⟩
 refine AT (AE (AI (AA O (AA O (AW 4 69 (.bool ((decide (a.C=0))&&(decide (a.S≠0)))) ?_ ?_)))))
 ·cases bh:(decide (a.C=0))
  ·exact A3 O O
  exact AB O (A8 O c BQ.f_Num I8 O λbi Q=>AB O (A9 BY b.1 O Q A7 O λbj=>AB O (CW O (AL O (AV O)))))
 refine AA O (AW 12 82 (.bool (((decide (a.C=0))&&(decide (a.S≠0)))||(((decide (a.C=0))||(decide (a.C=2)))&&(decide (a.L≠0))))) ?_ ?_)
 ·cases bk:((decide (a.C=0))&&(decide (a.S≠0)))
  ·refine AB O (AA O (AB O (AA O (AW 4 76 (.bool ((decide (a.C=0))||(decide (a.C=2)))) ?_ ?_))))
   ·cases bl:(decide (a.C=0))
    ·exact AB O (A8 O c BQ.f_Kind G5 O λbm U=>AB O (A9 BY b.1 O U A7 O λbn=>AB O (B9 O (AB O (AL O (AV O))))))
    exact A3 O O
   refine AB O (AA O (AW 4 81 (.bool (((decide (a.C=0))||(decide (a.C=2)))&&(decide (a.L≠0)))) ?_ ?_))
   ·cases bo:((decide (a.C=0))||(decide (a.C=2)))
    ·exact A3 O O
    exact AB O (A8 O c BQ.f_Den Jt O λbp V=>AB O (A9 BY b.1 O V A7 O λbq=>AB O (CW O (AB O (AL O (AV O))))))
   exact AL O (AV O)
  exact A3 O O
 refine AN (kp [82,3,1] O) (AX O E (λW E=>?_) (λW E=>?_))
 ·refine AI (AM O (kp [2] O) (A5 (λm n g i=>?_)))
  cases E
  exact Ee g i O O k ⟨O,b⟩
 refine AT (AE (AI (A8 O c BQ.f_Kind G5 O λbr X=>A9 BY b.1 O X A7 O λbs=>CW O (AA O (AW 9 95 (.bool ((decide (a.C≠3))&&((decide (a.Ah≠0))||(decide (a.Ai≠0))))) ?_ ?_)))))
 ·cases bt:(decide (a.C≠3))
  ·exact A3 O O
  refine AB O (A8 O c KU OR O λbu Y=>AB O (A9 BY b.1 O Y A7 O λbv=>AB O (CW O (AB O (AA O (AW 4 94 (.bool ((decide (a.Ah≠0))||(decide (a.Ai≠0)))) ?_ ?_))))))
  ·cases bw:(decide (a.Ah≠0))
   ·exact AB O (A8 O c KV OQ O λbx ab=>AB O (A9 BY b.1 O ab A7 O λbz=>AB O (CW O (AB O (AL O (AV O))))))
   exact A3 O O
  exact AL O (AV O)
 refine AN (kp [95,3,1] O) (AX O E (λac E=>?_) (λac E=>?_))
 ·refine AI (AM O (kp [2] O) (A5 (λm n g i=>?_)))
  cases E
  exact Ee g i O O k ⟨O,b⟩
 refine AT (AI (AA O (AA O (AW 4 101 (.bool ((decide (a.C=0))||(decide (a.C=4)))) ?_ ?_))))
 ·cases b0:(decide (a.C=0))
  ·exact AB O (A8 O c BQ.f_Kind G5 O λb1 ad=>AB O (A9 BY b.1 O ad A7 O λb2=>AB O (B9 O (AL O (AV O)))))
  exact A3 O O
 refine AA O (AW 9 111 (.bool (((decide (a.C=0))||(decide (a.C=4)))||((decide (a.Ac=0))&&(decide (a.Ab=0))))) ?_ ?_)
 ·cases b3:((decide (a.C=0))||(decide (a.C=4)))
  ·refine AB O (A8 O c Iw LI O λb4 ae=>AB O (A9 BY b.1 O ae A7 O λb5=>AB O (B9 O (AB O (AA O (AW 4 110 (.bool ((decide (a.Ac=0))&&(decide (a.Ab=0)))) ?_ ?_))))))
   ·cases b6:(decide (a.Ac=0))
    ·exact A3 O O
    exact AB O (A8 O c Hy Ka O λb7 af=>AB O (A9 BY b.1 O af A7 O λb8=>AB O (B9 O (AB O (AL O (AV O))))))
   exact AL O (AV O)
  exact A3 O O
 refine AM O (kp [2] O) (A5 (λm n g i=>?_))
 cases E
 exact Ee g i O O k ⟨O,b⟩
end Go.Proofs.YtblcgjadhemlbaaGreat
