import Derived.Test.YtblcgjadhemlbaaGreatWWalk0
namespace Go.Proofs.YtblcgjadhemlbaaGreat
set_option linter.all false
open Go.RowKit
open Go.Proofs.Tryz
set_option maxRecDepth 10000
set_option maxHeartbeats 2000000
variable {N:Nat}{S:Nat→Prop}{L:List HP}{h:BM}
def PS (F:St S L h) {b:ByteArray}(y:b.size≤maxLen) {r:Bool}(E:JV N b=some r):
 DK prog 92 #[.string b] S h (λv S' h'=>v= .bool r∧St S' (L) h'):=by
 refine B0 (l:=[.string b]) 54 func92 O ntmps92 O λB=>?_
 rw[JV] at E
 refine AI (AM O (kp [0] O) (AE (AI (AA O (O8 O RP O (BI O (AA O (AW 4 12 (.bool ((decide ((↑b.size:Int)<1))||(decide (24<(↑b.size:Int))))) ?_ ?_))))))))
 ·cases c1:(decide ((↑b.size:Int)<1))
  ·exact AB O (AA O (AB O (O8 O RP O (AB O (CV O (AL O (AV O)))))))
  exact A4 O O
 refine AA O (AW 3 16 (.bool (((decide ((↑b.size:Int)<1))||(decide (24<(↑b.size:Int))))||(b==(ByteArray.mk #[111,117,116])))) ?_ ?_)
 ·cases c2:((decide ((↑b.size:Int)<1))||(decide (24<(↑b.size:Int))))
  ·exact AB O (AA O (AB O (Us O O O (AL O (AV O)))))
  exact A4 O O
 refine AA O ?_
 obtain⟨G,d,E⟩:=bd E
 refine AW 4 21 (.bool G) ?_ ?_
 ·cases H:(((decide ((↑b.size:Int)<1))||(decide (24<(↑b.size:Int))))||(b==(ByteArray.mk #[111,117,116])))
  ·have d:=Hj H d
   refine AB O (AA O (AB O ?_))
   obtain⟨z5,t,d⟩:=bd d
   have r6:=O5 t
   refine PB O O RP t O (AB O (BI O (AL O ?_)))
   cases d
   exact AV O
  have d:=Hi H d
  cases d
  exact A4 O O
 refine AA O ?_
 obtain⟨K,g,E⟩:=bd E
 refine AW 4 26 (.bool K) ?_ ?_
 ·cases I:G
  ·have g:=Hj I g
   refine AB O (AA O (AB O ?_))
   obtain⟨z9,u,g⟩:=bd g
   have M:=O5 u
   refine PB O O RP u O (AB O (CV O (AL O ?_)))
   cases g
   exact AV O
  have g:=Hi I g
  cases g
  exact A4 O O
 refine AN (kp [26,0] O) (AY O E (λz E=>?_) (λz E=>?_))
 ·refine AI (AM O (kp [2] O) (A5 (λo p i j=>?_)))
  cases E
  exact Em i j O O (C9.refl S h) ⟨O,F⟩
 refine AS (AE (AI (AM O (kp [3,0] O) (BH (λa w=>IV B S h (54,[]) a w [] (L) λ_ _=>HW N=some r) ?_ ?_))))
 ·refine BV (λJ=>λa w=>∃(k:Int),IV B S h (54,[]) a w [(0,.string b),(3,vI k)] (L) λ_ _=>AH k∧Fv N b (HW N) J k=some r) N ?_ ?_ ?_
  ·intro o p i j
   exact⟨1,_,_,i.sub (kp [0,3] O),j,F,(C9.refl S h),(iq (n:=1) O),E⟩
  ·rintro o p ⟨_,_,_,_,_,_,_,_,E⟩
   rw[Fv] at E;cases E
  rintro J o p ⟨k,Q,U,i,j,m,s,V,E⟩
  refine A6 ?_ i j
  clear i j p o
  rw[Fv] at E
  refine AE (AI (AA O (AA O (O8 O RP O (BI O (AN (kp [30,0,3] O) (AY O E (λA E=>?_) (λA E=>?_))))))))
  ·refine AS (AE (BY (AI (AA O (AA O ?_)))))
   obtain⟨c,q,E⟩:=bd E
   have W:=O5 q
   refine PB O O RP q O (AM O (kp [4,0,3] O) (AI (AA O (BI O (AA O (AW 3 41 (.bool ((decide (c<97))||(decide (122<c)))) ?_ ?_))))))
   ·cases X:(decide (c<97))
    ·exact AB O (AA O (AB O (CV O (AL O (AV O)))))
    exact A4 O O
   refine AA O (AW 7 49 (.bool (((decide (c<97))||(decide (122<c)))&&((decide (c<48))||(decide (57<c))))) ?_ ?_)
   ·cases Y:((decide (c<97))||(decide (122<c)))
    ·exact A4 O O
    refine AB O (AA O (AB O (BI O (AB O (AA O (AW 3 48 (.bool ((decide (c<48))||(decide (57<c)))) ?_ ?_))))))
    ·cases Z:(decide (c<48))
     ·exact AB O (AA O (AB O (CV O (AB O (AL O (AV O))))))
     exact A4 O O
    exact AL O (AV O)
   refine AA O (AW 3 53 (.bool ((((decide (c<97))||(decide (122<c)))&&((decide (c<48))||(decide (57<c))))&&(decide (c≠95)))) ?_ ?_)
   ·cases ab:(((decide (c<97))||(decide (122<c)))&&((decide (c<48))||(decide (57<c))))
    ·exact A4 O O
    exact AB O (AA O (AB O (Cg O (AL O (AV O)))))
   refine AN (kp [53,0,3] O) (AY O E (λC E=>?_) (λC E=>?_))
   ·refine AI (AM O (kp [2] O) (A5 (λo p i j=>?_)))
    cases E
    exact Em i j O O s ⟨O,m⟩
   refine AS (B7 (CL (.inl O) (AA O (A9 O (AM O (kp [3,0] O) (WF.nil (λo p i j=>?_)))))))
   exact⟨(Bw (k+1)),_,_,i.sub (kp [0,3] O),j,m,s,(B5 _),E⟩
  refine By O (λo p i j=>?_)
  exact⟨_,_,i.sub Py,j,m,s,E⟩
 rintro o p ⟨ac,ad,i,j,x,D,E⟩
 refine A6 ?_ i j
 clear i j p o
 rw[HW] at E
 refine AI (AM O (kp [2] O) (A5 (λo p i j=>?_)))
 cases E
 exact Em i j O O D ⟨O,x⟩
def P4 {c:Nat}{d:(List (AQ×Bool))}(V:St S (MP (λk:AQ=>Value.agg (AQ.v k).toArray) Value.bool c d::L) h) {g:ByteArray}(i:g.size≤maxLen) {b:ByteArray}(j:b.size≤maxLen) {r:Bool×(List (AQ×Bool))}(E:Js N d g b=some r):
 DK prog 71 #[.map (some c),.string g,.string b] S h (λv S' h'=>v= .bool r.1∧St S' (MP (λk:AQ=>Value.agg (AQ.v k).toArray) Value.bool c r.2::L) h'):=by
 refine B0 (l:=[.map (some c),.string g,.string b]) 23 func71 O ntmps71 O λB=>?_
 rw[Js] at E
 refine AI (AM O (kp [0,1,2] O) (AE (AI (AA O (Us O O O (AN (kp [9,0,1,2] O) (He (λa w=>∃(m:ByteArray),IV B S h (23,[]) a w [(0,.map (some c)),(2,.string b),(1,.string m)] (MP (λk:AQ=>Value.agg (AQ.v k).toArray) Value.bool c d::L) λ_ _=>m.size≤maxLen∧Hz N d b m=some r) ?_ ?_)))))))
 ·refine AY O E (λX E=>?_) (λX E=>?_)
  ·refine CL (.inl O) (AM O (kp [1,0,2] O) (WF.nil (λu y s t=>?_)))
   exact⟨(ByteArray.mk #[116,111,119,110]),_,_,s.sub (kp [0,2,1] O),t,V,(C9.refl S h),(by decide),E⟩
  refine AS (WF.nil (λu y s t=>?_))
  exact⟨g,_,_,s.sub (kp [0,2,1] O),t,V,(C9.refl S h),i,E⟩
 rintro u y ⟨m,S4,h5,s,t,M,W,r2,E⟩
 refine A6 ?_ s t
 clear s t y u
 rw[Hz] at E
 refine WF.sl (AF 3 (AA O (AA O (Iz (cs:=[.string m,.string b]) eV O O O (AD (Di eH O M λb8 h9 A C=>Ek (vs:=[.string m,.string b]) O O O O Uz O A .head O λY n D=>AZ (kp [7,0,2] O) (AE (AE (Cn (.inl O) n (AA O ?_))))))))))
 obtain⟨F,G,E⟩:=bd E
 refine BU O O O lZ O (λh' o=>PS (St.all h') j G) (CI O (AA O (AW 4 20 (.bool ((!F)||((P1 (λk:AQ=>Value.agg (AQ.v k).toArray) d (⟨m,b⟩:AQ)).getD false))) ?_ ?_)))
 ·cases Z:(!F)
  ·exact AB O (AA O (AB O (ES (vs:=[.string m,.string b]) CQ n O mh O O Uz O O (AB O (iF (k0:=(⟨m,b⟩:AQ)) (z:=false) CQ n (mt mh) O O Xx WK oO O O (AL O (AV O)))))))
  exact A4 O O
 refine B9 (kp [20,7,0] O) λab p H=>AY O E (λQ E=>?_) (λQ E=>?_)
 ·refine AI (AM O (kp [6] O) (A5 (λu y s t=>?_)))
  have I:=p.sel [1] 1 O
  cases E
  exact Em s t O O (W.trans (C.trans (D.trans H))) ⟨O,I⟩
 refine AS (WF.sl (AF 2 (AA O (ES (vs:=[.string m,.string b]) Bu p O mh O O Uz O O (AD (iV (k0:=(⟨m,b⟩:AQ)) (x:=true) p (.tail .head) O O O Xx WK λac J U=>AZ Py (AI (AM O (kp [6] O) (A5 (λu y s t=>?_))))))))))
 have K:=J.sel [1] 1 O
 cases E
 exact Em s t O O (W.trans (C.trans (D.trans (H.trans U)))) ⟨O,K⟩
def Ej {d:Nat}{c2_:(List (AQ×Bool))}{a:Nat}{g:Nat}{c3_:Bool}(x:St S (Bx d 120 [.map (some a)]::MP (λk:AQ=>Value.agg (AQ.v k).toArray) Value.bool a c2_::Bx g 4 [.bool c3_]::L) h) {b:ByteArray}(i:b.size≤maxLen) {c:ByteArray}(j:c.size≤maxLen) {r:(List (AQ×Bool))×Bool}(E:DV N c2_ c3_ b c=some r):
 DK prog 70 #[.string b,.string c,vP d 0,vP g 0] S h (λv S' h'=>v= .tuple #[]∧St S' (Bx d 120 [.map (some a)]::MP (λk:AQ=>Value.agg (AQ.v k).toArray) Value.bool a r.1::Bx g 4 [.bool r.2]::L) h'):=by
 refine B0 (l:=[.string b,.string c,vP d 0,vP g 0]) 13 func70 O ntmps70 O λB=>?_
 rw[DV] at E
 refine FG (AF 3 (AT Bu x O mh O X1 O (AA O (AA O (AD ?_)))))
 have s:=x.pick (.tail .head)
 obtain⟨t,u,E⟩:=bd E
 refine Dj O O O mJ O (P4 s i j u) λC D F y p=>?_
 obtain⟨rfl,m⟩:=p
 refine AF 3 (AA O (AW 2 12 (.bool (t.1&&c3_)) ?_ ?_))
 ·cases G:t.1
  ·exact A4 O O
  exact AB O (AT Bu m O (mt (mt mh)) O Pr O (AL O (AV O)))
 refine AD (Ek (vs:=[.bool (t.1&&c3_)]) O O O O Pr O m (.tail (.tail .head)) O λH n w=>AZ Py (WF.nil (λI J z A=>?_)))
 have o:=n.sel [1,0,0] 0 O
 cases E
 exact K5 z O A K4 O (y.trans w) ⟨O,o⟩
def NT (hs:St S L h) {y:Value}{c:AU}(b0:Rd S h C2 y c) {r:Bool}(E:Iy N c=some r):
 DK prog 48 #[y] S h (λv S' h'=>v= .bool r∧St S' (L) h'):=by
 refine B0 (l:=[y]) 106 func48 O ntmps48 O λB=>?_
 rw[Iy] at E
 refine WF.sl (C3 O b0 (λe=>by cases e) O hs λq1 S2 h3 ge e5 k6=>AF 1 (A0 O (AD (AZ (kp [1] O) (WF.sl (iW (K:=0) (E:=0) O ge (λk:AQ=>Value.agg (AQ.v k).toArray) Value.bool λt h8 gf ea=>Di eK O gf λo j5 eb ec=>Ek (vs:=[.map (some t)]) O O O O X1 O eb .head O λj6 ed ee=>AZ (kp [3,1] O) (WF.sl (Di oP O ed λi j7 ef eg=>Ek (vs:=[.bool true]) O O O O Pr O ef .head O λc4 b5 eh=>AZ (kp [4,3,1] O) (AI (PW O O O (AM O (kp [5,4,1] O) (AE (AI ?_)))))))))))))
 have ei:=k6.mono (ea.trans (ec.trans (ee.trans (eg.trans eh))))
 refine A8 O ei Eq Ib O λj8 gg=>BF Bu b5.1 O gg LA O λgh ej=>BE O ej Ku O λj9=>AA O (AN (kp [25,24,23,5,4,1] O) (BH (λa w=>∃(b1:Bool) (b2:(List (AQ×Bool))),IV B S2 c4 (106,[]) a w [(5,.func (.func 70) #[] #[vP o 0,vP i 0]),(4,vP i 0),(1,q1)] (Bx i 4 [.bool b1]::Bx o 120 [.map (some t)]::MP (λk:AQ=>Value.agg (AQ.v k).toArray) Value.bool t b2::L) λ_ _=>E2 N c b1 b2=some r) ?_ ?_))
 ·refine BV (λn1=>λa w=>∃(ay:Int) (az:Bool) (a0:(List (AQ×Bool))),IV B S2 c4 (106,[]) a w [(24,vI (↑c.J.length:Int)),(23,gh),(5,.func (.func 70) #[] #[vP o 0,vP i 0]),(4,vP i 0),(1,q1),(25,vI ay)] (Bx i 4 [.bool az]::Bx o 120 [.map (some t)]::MP (λk:AQ=>Value.agg (AQ.v k).toArray) Value.bool t a0::L) λ_ _=>AH ay∧Dr N c (E2 N c) n1 ay az a0=some r) N ?_ ?_ ?_
  ·intro j m d g
   exact⟨0,true,([]:(List (AQ×Bool))),_,_,d.sub (kp [24,23,5,4,1,25] O),g,b5,(C9.refl S2 c4),(iq (n:=0) O),E⟩
  ·rintro j m ⟨_,_,_,_,_,_,_,_,_,_,E⟩
   rw[Dr] at E;cases E
  rintro n1 j m ⟨ay,az,a0,ka,kb,d,g,a1,c5,kc,E⟩
  refine A6 ?_ d g
  clear d g m j
  rw[Dr] at E
  refine AI (BI O (AN (kp [26,24,23,5,4,1,25] O) (AE (AY O E (λgi E=>?_) (λgi E=>?_)))))
  ·refine AS (AE (BY (AI ?_)))
   obtain⟨kd,ek,E⟩:=bd E
   refine B1 O O (ej.mono' c5) Ku ek O λke gj=>TZ Bu a1.1 O gj RQ O λgl=>AM O (kp [7,24,23,5,4,1,25] O) (FG (AF 2 (AA O (AA O (AD ?_)))))
   have el:=a1.sel [1,1,0] 0 O
   obtain⟨em,en,E⟩:=bd E
   refine Dj O O O Q7 O (Ej (c2_:=a0) (c3_:=az) el (by decide) gl en) λkf kg kh gm p=>?_
   obtain⟨rfl,eo⟩:=p
   refine AZ (kp [24,23,5,4,1,25] O) (B7 (CL (.inl O) (A9 O (AA O (AN (kp [25,24,23,5,4,1] O) (WF.nil (λj m d g=>?_)))))))
   have ep:=eo.sel [2,0,0] 0 O
   exact⟨(Bw (ay+1)),em.2,em.1,_,_,d.sub (kp [24,23,5,4,1,25] O),g,ep,(c5.trans gm),(B5 _),E⟩
  refine By O (λj m d g=>?_)
  exact⟨az,a0,_,_,d.sub (kp [5,4,1] O),g,a1,c5,E⟩
 rintro j m ⟨b1,b2,c6,c7,d,g,b6,eq,E⟩
 refine A6 ?_ d g
 clear d g m j
 rw[E2] at E
 refine AE (AI ?_)
 have er:=ei.mono eq
 refine A8 O er B8 D1 O λki gn=>BF Bu b6.1 O gn G7 O λgp es=>BE O es GL O λkj=>AA O (AN (kp [36,35,34,5,4,1] O) (BH (λa w=>∃(b3:Bool) (b4:(List (AQ×Bool))),IV B c6 c7 (106,[]) a w [(5,.func (.func 70) #[] #[vP o 0,vP i 0]),(4,vP i 0),(1,q1)] (Bx i 4 [.bool b3]::Bx o 120 [.map (some t)]::MP (λk:AQ=>Value.agg (AQ.v k).toArray) Value.bool t b4::L) λ_ _=>E0 N c b3 b4=some r) ?_ ?_))
 ·refine BV (λn3=>λa w=>∃(a2:Int) (a3:Bool) (a4:(List (AQ×Bool))),IV B c6 c7 (106,[]) a w [(35,vI (↑c.A.length:Int)),(34,gp),(5,.func (.func 70) #[] #[vP o 0,vP i 0]),(4,vP i 0),(1,q1),(36,vI a2)] (Bx i 4 [.bool a3]::Bx o 120 [.map (some t)]::MP (λk:AQ=>Value.agg (AQ.v k).toArray) Value.bool t a4::L) λ_ _=>AH a2∧Dq N c (E0 N c) n3 a2 a3 a4=some r) N ?_ ?_ ?_
  ·intro j m d g
   exact⟨0,b1,b2,_,_,d.sub (kp [35,34,5,4,1,36] O),g,b6,(C9.refl c6 c7),(iq (n:=0) O),E⟩
  ·rintro j m ⟨_,_,_,_,_,_,_,_,_,_,E⟩
   rw[Dq] at E;cases E
  rintro n3 j m ⟨a2,a3,a4,kk,kl,d,g,a5,c8,km,E⟩
  refine A6 ?_ d g
  clear d g m j
  rw[Dq] at E
  refine AI (BI O (AN (kp [37,35,34,5,4,1,36] O) (AE (AY O E (λgq E=>?_) (λgq E=>?_)))))
  ·refine AS (AE (BY (WF.sl (AF 2 ?_))))
   obtain⟨s,et,E⟩:=bd E
   refine B1 O O (es.mono' c8) GL et O λkn gr=>Cq Bu a5.1 O gr Kt (λe=>by cases e) O λko gs=>AD (Di Pb O a5 λkq kr eu ev=>?_)
   obtain⟨b8,b9,ca,rfl,gu,ks,kt,gv,ew,ey,gw,gx,gy,gz,g0,ez⟩:=Cw.ex (gs.mono ev)
   refine Ht (vs:=[.string s.H,vI s.B,vI s.As,vI s.Ae,b8,b9,vI s.L,vI s.I,vI s.Aq,vI s.N,vI s.Bc,ca]) (cs':=[.string s.H,vI s.B,vI s.As,vI s.Ae,b8,b9,vI s.L,vI s.I,vI s.Aq,vI s.N,vI s.Bc,ca]) O O O (AC O (AC O (AC O (AC O (AC ew.one (AC ey.one (AC O (AC O (AC O (AC O (AC O (AC ez.one Es)))))))))))) Kt O eu .head O O λg1 a6 e0=>AZ (kp [9,35,34,5,4,1,36] O) (FG (AF 3 (AA O (AG bD O (AT Bu a6 O mh O RQ O (AD ?_))))))
   have c9:=a6.sel [2,2,1,0] 0 O
   obtain⟨cb,da,E⟩:=bd E
   refine Dj O O O Q7 O (Ej (c2_:=a4) (c3_:=a3) c9 (by decide) gu da) λg2 g3 g4 e1 p=>?_
   obtain⟨rfl,db⟩:=p
   refine AZ (kp [35,34,5,4,1,36] O) (B7 (CL (.inl O) (A9 O (AA O (AN (kp [36,35,34,5,4,1] O) (WF.nil (λj m d g=>?_)))))))
   have dc:=db.sel [2,0,0] 1 O
   exact⟨(Bw (a2+1)),cb.2,cb.1,_,_,d.sub (kp [35,34,5,4,1,36] O),g,dc,(c8.trans (ev.trans (e0.trans e1))),(B5 _),E⟩
  refine By O (λj m d g=>?_)
  exact⟨a3,a4,_,_,d.sub (kp [5,4,1] O),g,a5,c8,E⟩
 rintro j m ⟨b3,b4,a7,a8,d,g,a9,cc,E⟩
 refine A6 ?_ d g
 clear d g m j
 rw[E0] at E
 refine AE (AI ?_)
 have cd:=er.mono cc
 refine A8 O cd Er Hn O λg5 e2=>BF Bu a9.1 O e2 KF O λe3 ce=>BE O ce Ie O λg6=>AA O (AN (kp [48,47,46,5,4,1] O) (BH (λa w=>∃(an:Bool) (ao:(List (AQ×Bool))),IV B a7 a8 (106,[]) a w [(5,.func (.func 70) #[] #[vP o 0,vP i 0]),(4,vP i 0),(1,q1)] (Bx i 4 [.bool an]::Bx o 120 [.map (some t)]::MP (λk:AQ=>Value.agg (AQ.v k).toArray) Value.bool t ao::L) λ_ _=>Ez N c an ao=some r) ?_ ?_))
 ·refine BV (λn5=>λa w=>∃(z:Int) (D:Bool) (F:(List (AQ×Bool))),IV B a7 a8 (106,[]) a w [(47,vI (↑c.E.length:Int)),(46,e3),(5,.func (.func 70) #[] #[vP o 0,vP i 0]),(4,vP i 0),(1,q1),(48,vI z)] (Bx i 4 [.bool D]::Bx o 120 [.map (some t)]::MP (λk:AQ=>Value.agg (AQ.v k).toArray) Value.bool t F::L) λ_ _=>AH z∧Dp N c (Ez N c) n5 z D F=some r) N ?_ ?_ ?_
  ·intro j m d g
   exact⟨0,b3,b4,_,_,d.sub (kp [47,46,5,4,1,48] O),g,a9,(C9.refl a7 a8),(iq (n:=0) O),E⟩
  ·rintro j m ⟨_,_,_,_,_,_,_,_,_,_,E⟩
   rw[Dp] at E;cases E
  rintro n5 j m ⟨z,D,F,g7,g8,d,g,ah,ba,g9,E⟩
  refine A6 ?_ d g
  clear d g m j
  rw[Dp] at E
  refine AI (BI O (AN (kp [49,47,46,5,4,1,48] O) (AE (AY O E (λe4 E=>?_) (λe4 E=>?_)))))
  ·refine AS (AE (BY (WF.sl (AF 2 ?_))))
   obtain⟨b,dd,E⟩:=bd E
   refine B1 O O (ce.mono' ba) Ie dd O λha e6=>Cq Bu ah.1 O e6 IM (λe=>by cases e) O λhb e7=>AD (Di OX O ah λhc hd de cf=>?_)
   obtain⟨cg,ch,ci,rfl,e8,he,hg,hh,e9,fb,fc,hi,hj,hk,hl,hm,hn,ho,hp,hq,hr,ht⟩:=Ct.ex (e7.mono cf)
   refine Ht (vs:=[.string b.H,vI b.B,vI b.G,vI b.C,cg,ch,ci,vI b.R,vI b.Ab,vI b.Aj,vI b.Al,vI b.L,vI b.I,vI b.Ah,vI b.Ai,vI b.Ac,vI b.Aa,vI b.N]) (cs':=[.string b.H,vI b.B,vI b.G,vI b.C,cg,ch,ci,vI b.R,vI b.Ab,vI b.Aj,vI b.Al,vI b.L,vI b.I,vI b.Ah,vI b.Ai,vI b.Ac,vI b.Aa,vI b.N]) O O O (AC O (AC O (AC O (AC O (AC e9.one (AC fb.one (AC fc.one (AC O (AC O (AC O (AC O (AC O (AC O (AC O (AC O (AC O (AC O (AC O Es)))))))))))))))))) IM O de .head O O λhu bb fd=>AZ (kp [11,47,46,5,4,1,48] O) (FG (AF 3 (AA O (AG bA O (AT Bu bb O mh O RQ O (AD ?_))))))
   have df:=bb.sel [2,2,1,0] 0 O
   obtain⟨cj,dg,E⟩:=bd E
   refine Dj O O O Q7 O (Ej (c2_:=F) (c3_:=D) df (by decide) e8 dg) λhv hx hy fe p=>?_
   obtain⟨rfl,dh⟩:=p
   refine AZ (kp [47,46,5,4,1,48] O) (B7 (CL (.inl O) (A9 O (AA O (AN (kp [48,47,46,5,4,1] O) (WF.nil (λj m d g=>?_)))))))
   have di:=dh.sel [2,0,0] 1 O
   exact⟨(Bw (z+1)),cj.2,cj.1,_,_,d.sub (kp [47,46,5,4,1,48] O),g,di,(ba.trans (cf.trans (fd.trans fe))),(B5 _),E⟩
  refine By O (λj m d g=>?_)
  exact⟨D,F,_,_,d.sub (kp [5,4,1] O),g,ah,ba,E⟩
 rintro j m ⟨an,ao,bc,be,d,g,bf,ck,E⟩
 refine A6 ?_ d g
 clear d g m j
 rw[Ez] at E
 refine AE (AI ?_)
 have cl:=cd.mono ck
 refine A8 O cl Ja O2 O λhz ff=>BF Bu bf.1 O ff To O λfg cm=>BE O cm Qh O λh0=>AA O (AN (kp [60,59,58,5,4,1] O) (BH (λa w=>∃(ap:Bool) (aq:(List (AQ×Bool))),IV B bc be (106,[]) a w [(5,.func (.func 70) #[] #[vP o 0,vP i 0]),(4,vP i 0),(1,q1)] (Bx i 4 [.bool ap]::Bx o 120 [.map (some t)]::MP (λk:AQ=>Value.agg (AQ.v k).toArray) Value.bool t aq::L) λ_ _=>Ey N c ap aq=some r) ?_ ?_))
 ·refine BV (λn7=>λa w=>∃(M:Int) (Q:Bool) (U:(List (AQ×Bool))),IV B bc be (106,[]) a w [(59,vI (↑c.Am.length:Int)),(58,fg),(5,.func (.func 70) #[] #[vP o 0,vP i 0]),(4,vP i 0),(1,q1),(60,vI M)] (Bx i 4 [.bool Q]::Bx o 120 [.map (some t)]::MP (λk:AQ=>Value.agg (AQ.v k).toArray) Value.bool t U::L) λ_ _=>AH M∧Do N c (Ey N c) n7 M Q U=some r) N ?_ ?_ ?_
  ·intro j m d g
   exact⟨0,an,ao,_,_,d.sub (kp [59,58,5,4,1,60] O),g,bf,(C9.refl bc be),(iq (n:=0) O),E⟩
  ·rintro j m ⟨_,_,_,_,_,_,_,_,_,_,E⟩
   rw[Do] at E;cases E
  rintro n7 j m ⟨M,Q,U,h1,h2,d,g,ai,bg,h4,E⟩
  refine A6 ?_ d g
  clear d g m j
  rw[Do] at E
  refine AI (BI O (AN (kp [61,59,58,5,4,1,60] O) (AE (AY O E (λfh E=>?_) (λfh E=>?_)))))
  ·refine AS (AE (BY (WF.sl (AF 2 ?_))))
   obtain⟨u,dj,E⟩:=bd E
   refine B1 O O (cm.mono' bg) Qh dj O λh5 fi=>Cq Bu ai.1 O fi SZ (λe=>by cases e) O λh6 fj=>AD (Di Xr O ai λh7 h9 dk cn=>?_)
   obtain⟨rfl,⟨fk,ia,ib,ic,id,ie,ig⟩⟩:=HL.ex (fj.mono cn)
   refine Ek (vs:=[.string u.H,vI u.An,vI u.Bm,vI u.Bl,vI u.Bq,vI u.Bn,vI u.Bk]) O O O O SZ O dk .head O λih bh fl=>AZ (kp [13,59,58,5,4,1,60] O) (FG (AF 3 (AA O (AG ZJ O (AT Bu bh O mh O RQ O (AD ?_))))))
   have dl:=bh.sel [2,2,1,0] 0 O
   obtain⟨co,dm,E⟩:=bd E
   refine Dj O O O Q7 O (Ej (c2_:=U) (c3_:=Q) dl (by decide) fk dm) λii ij ik fm p=>?_
   obtain⟨rfl,dn⟩:=p
   refine AZ (kp [59,58,5,4,1,60] O) (B7 (CL (.inl O) (A9 O (AA O (AN (kp [60,59,58,5,4,1] O) (WF.nil (λj m d g=>?_)))))))
   have dp:=dn.sel [2,0,0] 1 O
   exact⟨(Bw (M+1)),co.2,co.1,_,_,d.sub (kp [59,58,5,4,1,60] O),g,dp,(bg.trans (cn.trans (fl.trans fm))),(B5 _),E⟩
  refine By O (λj m d g=>?_)
  exact⟨Q,U,_,_,d.sub (kp [5,4,1] O),g,ai,bg,E⟩
 rintro j m ⟨ap,aq,bi,bj,d,g,bk,cp,E⟩
 refine A6 ?_ d g
 clear d g m j
 rw[Ey] at E
 refine AE (AI ?_)
 have cq:=cl.mono cp
 refine A8 O cq JI QS O λil fn=>BF Bu bk.1 O fn Vr O λfo cr=>BE O cr Rr O λim=>AA O (AN (kp [72,71,70,5,4,1] O) (BH (λa w=>∃(ar:Bool) (au:(List (AQ×Bool))),IV B bi bj (106,[]) a w [(5,.func (.func 70) #[] #[vP o 0,vP i 0]),(4,vP i 0),(1,q1)] (Bx i 4 [.bool ar]::Bx o 120 [.map (some t)]::MP (λk:AQ=>Value.agg (AQ.v k).toArray) Value.bool t au::L) λ_ _=>Ex N c ar au=some r) ?_ ?_))
 ·refine BV (λn9=>λa w=>∃(W:Int) (X:Bool) (Y:(List (AQ×Bool))),IV B bi bj (106,[]) a w [(71,vI (↑c.Ay.length:Int)),(70,fo),(5,.func (.func 70) #[] #[vP o 0,vP i 0]),(4,vP i 0),(1,q1),(72,vI W)] (Bx i 4 [.bool X]::Bx o 120 [.map (some t)]::MP (λk:AQ=>Value.agg (AQ.v k).toArray) Value.bool t Y::L) λ_ _=>AH W∧Dn N c (Ex N c) n9 W X Y=some r) N ?_ ?_ ?_
  ·intro j m d g
   exact⟨0,ap,aq,_,_,d.sub (kp [71,70,5,4,1,72] O),g,bk,(C9.refl bi bj),(iq (n:=0) O),E⟩
  ·rintro j m ⟨_,_,_,_,_,_,_,_,_,_,E⟩
   rw[Dn] at E;cases E
  rintro n9 j m ⟨W,X,Y,io,ip,d,g,aj,bl,ir,E⟩
  refine A6 ?_ d g
  clear d g m j
  rw[Dn] at E
  refine AI (BI O (AN (kp [73,71,70,5,4,1,72] O) (AE (AY O E (λfp E=>?_) (λfp E=>?_)))))
  ·refine AS (AE (BY (WF.sl (AF 2 ?_))))
   obtain⟨cs,dq,E⟩:=bd E
   refine B1 O O (cr.mono' bl) Rr dq O λit fq=>Cq Bu aj.1 O fq SY (λe=>by cases e) O λiu fr=>AD (Di Xq O aj λiv iw dr ct=>?_)
   obtain⟨rfl,⟨fs,iy⟩⟩:=Dy.ex (fr.mono ct)
   refine Ek (vs:=[.string cs.H,vI cs.Ax]) O O O O SY O dr .head O λiz bm ft=>AZ (kp [15,71,70,5,4,1,72] O) (FG (AF 3 (AA O (AG ZC O (AT Bu bm O mh O RQ O (AD ?_))))))
   have ds:=bm.sel [2,2,1,0] 0 O
   obtain⟨cu,dt,E⟩:=bd E
   refine Dj O O O Q7 O (Ej (c2_:=Y) (c3_:=X) ds (by decide) fs dt) λi0 i1 i2 fu p=>?_
   obtain⟨rfl,du⟩:=p
   refine AZ (kp [71,70,5,4,1,72] O) (B7 (CL (.inl O) (A9 O (AA O (AN (kp [72,71,70,5,4,1] O) (WF.nil (λj m d g=>?_)))))))
   have dv:=du.sel [2,0,0] 1 O
   exact⟨(Bw (W+1)),cu.2,cu.1,_,_,d.sub (kp [71,70,5,4,1,72] O),g,dv,(bl.trans (ct.trans (ft.trans fu))),(B5 _),E⟩
  refine By O (λj m d g=>?_)
  exact⟨X,Y,_,_,d.sub (kp [5,4,1] O),g,aj,bl,E⟩
 rintro j m ⟨ar,au,bn,bo,d,g,bp,cv,E⟩
 refine A6 ?_ d g
 clear d g m j
 rw[Ex] at E
 refine AE (AI ?_)
 have cw:=cq.mono cv
 refine A8 O cw K9 TH O λi3 fv=>BF Bu bp.1 O fv Xz O λfw cx=>BE O cx T3 O λi4=>AA O (AN (kp [84,83,82,5,4,1] O) (BH (λa w=>∃(av:Bool) (aw:(List (AQ×Bool))),IV B bn bo (106,[]) a w [(5,.func (.func 70) #[] #[vP o 0,vP i 0]),(4,vP i 0),(1,q1)] (Bx i 4 [.bool av]::Bx o 120 [.map (some t)]::MP (λk:AQ=>Value.agg (AQ.v k).toArray) Value.bool t aw::L) λ_ _=>Ei N c av aw=some r) ?_ ?_))
 ·refine BV (λfx=>λa w=>∃(ab:Int) (ac:Bool) (ad:(List (AQ×Bool))),IV B bn bo (106,[]) a w [(83,vI (↑c.Au.length:Int)),(82,fw),(5,.func (.func 70) #[] #[vP o 0,vP i 0]),(4,vP i 0),(1,q1),(84,vI ab)] (Bx i 4 [.bool ac]::Bx o 120 [.map (some t)]::MP (λk:AQ=>Value.agg (AQ.v k).toArray) Value.bool t ad::L) λ_ _=>AH ab∧De N c (Ei N c) fx ab ac ad=some r) N ?_ ?_ ?_
  ·intro j m d g
   exact⟨0,ar,au,_,_,d.sub (kp [83,82,5,4,1,84] O),g,bp,(C9.refl bn bo),(iq (n:=0) O),E⟩
  ·rintro j m ⟨_,_,_,_,_,_,_,_,_,_,E⟩
   rw[De] at E;cases E
  rintro fx j m ⟨ab,ac,ad,i5,i6,d,g,ak,bq,i7,E⟩
  refine A6 ?_ d g
  clear d g m j
  rw[De] at E
  refine AI (BI O (AN (kp [85,83,82,5,4,1,84] O) (AE (AY O E (λfy E=>?_) (λfy E=>?_)))))
  ·refine AS (AE (BY (WF.sl (AF 2 ?_))))
   obtain⟨ae,dw,E⟩:=bd E
   refine B1 O O (cx.mono' bq) T3 dw O λi8 fz=>Cq Bu ak.1 O fz SW (λe=>by cases e) O λi9 f0=>AD (Di Xp O ak λja jb dx cy=>?_)
   obtain⟨rfl,⟨f1,jc,jd,je,jf⟩⟩:=Fc.ex (f0.mono cy)
   refine Ek (vs:=[.string ae.H,vI ae.B,vI ae.Z,vI ae.V,vI ae.Bo]) O O O O SW O dx .head O λjg br f2=>AZ (kp [17,83,82,5,4,1,84] O) (FG (AF 3 (AA O (AG Y9 O (AT Bu br O mh O RQ O (AD ?_))))))
   have dy:=br.sel [2,2,1,0] 0 O
   obtain⟨cz,dz,E⟩:=bd E
   refine Dj O O O Q7 O (Ej (c2_:=ad) (c3_:=ac) dy (by decide) f1 dz) λjh ji jj f3 p=>?_
   obtain⟨rfl,d0⟩:=p
   refine AZ (kp [83,82,5,4,1,84] O) (B7 (CL (.inl O) (A9 O (AA O (AN (kp [84,83,82,5,4,1] O) (WF.nil (λj m d g=>?_)))))))
   have d1:=d0.sel [2,0,0] 1 O
   exact⟨(Bw (ab+1)),cz.2,cz.1,_,_,d.sub (kp [83,82,5,4,1,84] O),g,d1,(bq.trans (cy.trans (f2.trans f3))),(B5 _),E⟩
  refine By O (λj m d g=>?_)
  exact⟨ac,ad,_,_,d.sub (kp [5,4,1] O),g,ak,bq,E⟩
 rintro j m ⟨av,aw,bs,bt,d,g,bu,c0,E⟩
 refine A6 ?_ d g
 clear d g m j
 rw[Ei] at E
 refine AE (AI (A8 O (cw.mono c0) Ll TG O λjk f4=>BF Bu bu.1 O f4 Xy O λf5 c1=>BE O c1 T1 O λjl=>AA O (AN (kp [96,95,94,5,4] O) (BH (λa w=>∃(bv:Bool),IV B bs bt (106,[]) a w [(4,vP i 0)] (Bx i 4 [.bool bv]::L) λ_ _=>Eh N bv=some r) ?_ ?_))))
 ·refine BV (λf6=>λa w=>∃(af:Int) (ag:Bool) (ax:(List (AQ×Bool))),IV B bs bt (106,[]) a w [(95,vI (↑c.Av.length:Int)),(94,f5),(5,.func (.func 70) #[] #[vP o 0,vP i 0]),(4,vP i 0),(96,vI af)] (Bx i 4 [.bool ag]::Bx o 120 [.map (some t)]::MP (λk:AQ=>Value.agg (AQ.v k).toArray) Value.bool t ax::L) λ_ _=>AH af∧Dd N c (Eh N) f6 af ag ax=some r) N ?_ ?_ ?_
  ·intro j m d g
   exact⟨0,av,aw,_,_,d.sub (kp [95,94,5,4,96] O),g,bu,(C9.refl bs bt),(iq (n:=0) O),E⟩
  ·rintro j m ⟨_,_,_,_,_,_,_,_,_,_,E⟩
   rw[Dd] at E;cases E
  rintro f6 j m ⟨af,ag,ax,jm,jn,d,g,am,bw,jo,E⟩
  refine A6 ?_ d g
  clear d g m j
  rw[Dd] at E
  refine AI (BI O (AN (kp [97,95,94,5,4,96] O) (AE (AY O E (λf7 E=>?_) (λf7 E=>?_)))))
  ·refine AS (AE (BY (WF.sl (AF 2 ?_))))
   obtain⟨x,d2,E⟩:=bd E
   refine B1 O O (c1.mono' bw) T1 d2 O λjp f8=>Cq Bu am.1 O f8 SV (λe=>by cases e) O λjq f9=>AD (Di Xo O am λjr js d3 c2=>?_)
   obtain⟨rfl,⟨ga,jt,ju,jv,jw,jx,jy⟩⟩:=HN.ex (f9.mono c2)
   refine Ek (vs:=[.string x.H,vI x.G,vI x.C,vI x.Br,vI x.Bs,vI x.Bh,vI x.Bj]) O O O O SV O d3 .head O λjz bx gb=>AZ (kp [19,95,94,5,4,96] O) (FG (AF 3 (AA O (AG Y5 O (AT Bu bx O mh O RQ O (AD ?_))))))
   have d4:=bx.sel [2,2,1,0] 0 O
   obtain⟨c3,d5,E⟩:=bd E
   refine Dj O O O Q7 O (Ej (c2_:=ax) (c3_:=ag) d4 (by decide) ga d5) λj0 j1 j2 gc p=>?_
   obtain⟨rfl,d6⟩:=p
   refine AZ (kp [95,94,5,4,96] O) (B7 (CL (.inl O) (A9 O (AA O (AN (kp [96,95,94,5,4] O) (WF.nil (λj m d g=>?_)))))))
   have d7:=d6.sel [2,0,0] 1 O
   exact⟨(Bw (af+1)),c3.2,c3.1,_,_,d.sub (kp [95,94,5,4,96] O),g,d7,(bw.trans (c2.trans (gb.trans gc))),(B5 _),E⟩
  refine By O (λj m d g=>?_)
  have d8:=am.sel [0] 2 O
  exact⟨ag,_,_,d.sub (kp [4] O),g,d8,bw,E⟩
 rintro j m ⟨bv,j3,j4,d,g,bz,gd,E⟩
 refine A6 ?_ d g
 clear d g m j
 rw[Eh] at E
 refine AI (AT Bu bz O mh O Pr O (AM O (kp [2] O) (A5 (λj m d g=>?_))))
 have d9:=bz.drop .head
 cases E
 exact Em d g O O (e5.trans (ea.trans (ec.trans (ee.trans (eg.trans (eh.trans (eq.trans (cc.trans (ck.trans (cp.trans (cv.trans (c0.trans gd)))))))))))) ⟨O,d9⟩
def Hc (hs:St S L h) {i:Value}{k:(List BS)}(d:Sl S h Cp i k) {r:Bool}(E:Eu N k=some r):
 DK prog 72 #[i] S h (λv S' h'=>v= .bool r∧St S' (L) h'):=by
 refine B0 (l:=[i]) 63 func72 O ntmps72 O λB=>?_
 rw[Eu] at E
 refine AI (AM O (kp [0] O) (AE (AI (AA O (BE O d I3 O λb1=>BI O (AA O (AW 4 12 (.bool ((decide ((↑k.length:Int)<1))||(decide (32<(↑k.length:Int))))) ?_ ?_)))))))
 ·cases c2:(decide ((↑k.length:Int)<1))
  ·exact AB O (AA O (AB O (BE O d I3 O λb3=>AB O (CV O (AL O (AV O))))))
  exact A4 O O
 refine AN (kp [12,0] O) (AY O E (λc4 E=>?_) (λc4 E=>?_))
 ·refine AI (AM O (kp [2] O) (A5 (λt u m o=>?_)))
  cases E
  exact Em m o O O (C9.refl S h) ⟨O,hs⟩
 refine AS (AE (AI (AA O (BE O d I3 O λb5=>AA O (AN (kp [15,14,13,0] O) (BH (λa w=>IV B S h (63,[]) a w [] (L) λ_ _=>G4 N=some r) ?_ ?_))))))
 ·refine BV (λn1=>λa w=>∃(z:Int),IV B S h (63,[]) a w [(14,vI (↑k.length:Int)),(13,i),(0,i),(15,vI z)] (L) λ_ _=>AH z∧Et N k (G4 N) n1 z=some r) N ?_ ?_ ?_
  ·intro t u m o
   exact⟨0,_,_,m.sub (kp [14,13,0,15] O),o,hs,(C9.refl S h),(iq (n:=0) O),E⟩
  ·rintro t u ⟨_,_,_,_,_,_,_,_,E⟩
   rw[Et] at E;cases E
  rintro n1 t u ⟨z,aj,ak,m,o,x,p,r9,E⟩
  refine A6 ?_ m o
  clear m o u t
  rw[Et] at E
  refine AI (BI O (AN (kp [16,14,13,0,15] O) (AE (AY O E (λV E=>?_) (λV E=>?_)))))
  ·refine AS (AE (BY (WF.sl (AF 3 (AA O ?_)))))
   obtain⟨b,A,E⟩:=bd E
   refine B1 O O (d.mono' p) I3 A O λam W=>Cq Bu x.1 O W Pc (λe=>by cases e) O λan X=>AD (Di Vl O x λao ap C s=>AF 1 (A0 O (AD ?_)))
   obtain⟨rfl,⟨aq,ar⟩⟩:=Cp.ex (X.mono s)
   refine Ek (vs:=[vI b.K,vI b.Q]) O O O O Pc O C .head O λau c y=>AZ (kp [3,4,14,13,0,15] O) (AE (AI (AG Jw O (AT Bu c O mh O BA O (BI O (AA O (AW 4 27 (.bool ((decide (b.K<0))||(decide (1125899906842624<b.K)))) ?_ ?_)))))))
   ·cases av:(decide (b.K<0))
    ·exact AB O (AG Jw O (AB O (AT Bu c O mh O BA O (AB O (CV O (AL O (AV O)))))))
    exact A4 O O
   refine AA O (AW 4 32 (.bool (((decide (b.K<0))||(decide (1125899906842624<b.K)))||(decide (b.Q<0)))) ?_ ?_)
   ·cases aw:((decide (b.K<0))||(decide (1125899906842624<b.K)))
    ·exact AB O (AG JG O (AB O (AT Bu c O mh O BA O (AB O (BI O (AL O (AV O)))))))
    exact A4 O O
   refine AA O (AW 4 37 (.bool ((((decide (b.K<0))||(decide (1125899906842624<b.K)))||(decide (b.Q<0)))||(decide (1125899906842624<b.Q)))) ?_ ?_)
   ·cases ax:(((decide (b.K<0))||(decide (1125899906842624<b.K)))||(decide (b.Q<0)))
    ·exact AB O (AG JG O (AB O (AT Bu c O mh O BA O (AB O (CV O (AL O (AV O)))))))
    exact A4 O O
   refine AN (kp [37,3,4,14,13,0,15] O) (AY O E (λY E=>?_) (λY E=>?_))
   ·refine AI (AM O (kp [2] O) (A5 (λt u m o=>?_)))
    have D:=c.drop .head
    cases E
    exact Em m o O O (p.trans (s.trans y)) ⟨O,D⟩
   refine AS (AE (CL (.inr ⟨mo,by kernel_rfl⟩) (AA O (CV O (AA O ?_)))))
   obtain⟨Z,g,E⟩:=bd E
   refine AW 21 61 (.bool Z) ?_ ?_
   ·cases F:(decide (0<z))
    ·have g:=Hj F g
     cases g
     exact A4 O O
    have g:=Hi F g
    refine AB O (AG Jw O (AB O (AT Bu c O mh O BA O (AB O (AA O (AB O (AA O (AB O (Dl O (AB O ?_))))))))))
    obtain⟨ab,G,g⟩:=bd g
    refine B1 O O (d.mono' (p.trans (s.trans y))) I3 G O λay ac=>AB O (A8 O ac Lj Jw O λaz ad=>AB O (BC Bu c.1 O ad BA O λa0=>AB O (HX O (AB O (AA O ?_)))))
    obtain⟨ae,j,g⟩:=bd g
    refine AW 10 60 (.bool ae) ?_ ?_
    ·cases H:(decide (b.K≤ab.K))
     ·have j:=Hj H j
      refine AB O (AG JG O (AB O (AT Bu c O mh O BA O (AB O (AA O (AB O (AA O (AB O (Dl O (AB O ?_))))))))))
      obtain⟨a1,I,j⟩:=bd j
      refine B1 O O (d.mono' (p.trans (s.trans y))) I3 I O λa2 af=>AB O (A8 O af Li JG O λa3 ag=>AB O (BC Bu c.1 O ag BA O λa4=>AB O (BI O (AB O (AL O ?_)))))
      cases j
      exact AV O
     have j:=Hi H j
     cases j
     exact A4 O O
    refine AL O ?_
    cases g
    exact AV O
   refine AN (kp [61,14,13,0,15] O) (AY O E (λah E=>?_) (λah E=>?_))
   ·refine AI (AM O (kp [2] O) (A5 (λt u m o=>?_)))
    have J:=c.drop .head
    cases E
    exact Em m o O O (p.trans (s.trans y)) ⟨O,J⟩
   refine AS (B7 (CL (.inl O) (A9 O (AA O (AN (kp [15,14,13,0] O) (WF.nil (λt u m o=>?_)))))))
   have M:=c.drop .head
   exact⟨(Bw (z+1)),_,_,m.sub (kp [14,13,0,15] O),o,M,(p.trans (s.trans y)),(B5 _),E⟩
  refine By O (λt u m o=>?_)
  exact⟨_,_,m.sub Py,o,x,p,E⟩
 rintro t u ⟨a5,a6,m,o,U,ai,E⟩
 refine A6 ?_ m o
 clear m o u t
 rw[G4] at E
 refine AI (AM O (kp [2] O) (A5 (λt u m o=>?_)))
 cases E
 exact Em m o O O ai ⟨O,U⟩
end Go.Proofs.YtblcgjadhemlbaaGreat
