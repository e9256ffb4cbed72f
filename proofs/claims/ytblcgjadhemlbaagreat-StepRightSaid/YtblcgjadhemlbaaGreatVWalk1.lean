import Derived.Test.YtblcgjadhemlbaaGreatVWalk0
namespace Go.Proofs.YtblcgjadhemlbaaGreat
set_option linter.all false
open Go.RowKit
open Go.Proofs.Tryz
set_option maxRecDepth 10000
set_option maxHeartbeats 2000000
variable {N:Nat}{S:Nat→Prop}{L:List HP}{h:BL}
def Ox (F:St S L h) {b:ByteArray}(y:b.size≤maxLen) {r:Bool}(E:JC N b=some r):
 C5 prog 92 #[.string b] S h (λv S' h'=>v= .bool r∧St S' (L) h'):=by
 refine Bv (l:=[.string b]) 54 func92 O ntmps92 O λB=>?_
 rw[JC] at E
 refine AI (AM O (kp [0] O) (AE (AI (AA O (Ob O Qk O (BK O (AA O (AW 4 12 (.bool ((decide ((↑b.size:Int)<1))||(decide (24<(↑b.size:Int))))) ?_ ?_))))))))
 ·cases c1:(decide ((↑b.size:Int)<1))
  ·exact AB O (AA O (AB O (Ob O Qk O (AB O (CP O (AL O (AV O)))))))
  exact A3 O O
 refine AA O (AW 3 16 (.bool (((decide ((↑b.size:Int)<1))||(decide (24<(↑b.size:Int))))||(b==(ByteArray.mk #[111,117,116])))) ?_ ?_)
 ·cases c2:((decide ((↑b.size:Int)<1))||(decide (24<(↑b.size:Int))))
  ·exact AB O (AA O (AB O (T3 O O O (AL O (AV O)))))
  exact A3 O O
 refine AA O ?_
 obtain⟨G,d,E⟩:=bd E
 refine AW 4 21 (.bool G) ?_ ?_
 ·cases H:(((decide ((↑b.size:Int)<1))||(decide (24<(↑b.size:Int))))||(b==(ByteArray.mk #[111,117,116])))
  ·have d:=HG H d
   refine AB O (AA O (AB O ?_))
   obtain⟨z5,t,d⟩:=bd d
   have r6:=OY t
   refine Od O O Qk t O (AB O (BK O (AL O ?_)))
   cases d
   exact AV O
  have d:=HE H d
  cases d
  exact A3 O O
 refine AA O ?_
 obtain⟨K,g,E⟩:=bd E
 refine AW 4 26 (.bool K) ?_ ?_
 ·cases I:G
  ·have g:=HG I g
   refine AB O (AA O (AB O ?_))
   obtain⟨z9,u,g⟩:=bd g
   have M:=OY u
   refine Od O O Qk u O (AB O (CP O (AL O ?_)))
   cases g
   exact AV O
  have g:=HE I g
  cases g
  exact A3 O O
 refine AN (kp [26,0] O) (AX O E (λz E=>?_) (λz E=>?_))
 ·refine AI (AM O (kp [2] O) (A5 (λo p i j=>?_)))
  cases E
  exact Ee i j O O (Cv.refl S h) ⟨O,F⟩
 refine AT (AE (AI (AM O (kp [3,0] O) (BF (λa w=>IV B S h (54,[]) a w [] (L) λ_ _=>G8 N=some r) ?_ ?_))))
 ·refine BT (λJ=>λa w=>∃(k:Int),IV B S h (54,[]) a w [(0,.string b),(3,vI k)] (L) λ_ _=>AH k∧Fc N b (G8 N) J k=some r) N ?_ ?_ ?_
  ·intro o p i j
   exact⟨1,_,_,i.sub (kp [0,3] O),j,F,(Cv.refl S h),(iq (n:=1) O),E⟩
  ·rintro o p ⟨_,_,_,_,_,_,_,_,E⟩
   rw[Fc] at E;cases E
  rintro J o p ⟨k,Q,U,i,j,m,s,V,E⟩
  refine A6 ?_ i j
  clear i j p o
  rw[Fc] at E
  refine AE (AI (AA O (AA O (Ob O Qk O (BK O (AN (kp [30,0,3] O) (AX O E (λA E=>?_) (λA E=>?_))))))))
  ·refine AT (AE (BV (AI (AA O (AA O ?_)))))
   obtain⟨c,q,E⟩:=bd E
   have W:=OY q
   refine Od O O Qk q O (AM O (kp [4,0,3] O) (AI (AA O (BK O (AA O (AW 3 41 (.bool ((decide (c<97))||(decide (122<c)))) ?_ ?_))))))
   ·cases X:(decide (c<97))
    ·exact AB O (AA O (AB O (CP O (AL O (AV O)))))
    exact A3 O O
   refine AA O (AW 7 49 (.bool (((decide (c<97))||(decide (122<c)))&&((decide (c<48))||(decide (57<c))))) ?_ ?_)
   ·cases Y:((decide (c<97))||(decide (122<c)))
    ·exact A3 O O
    refine AB O (AA O (AB O (BK O (AB O (AA O (AW 3 48 (.bool ((decide (c<48))||(decide (57<c)))) ?_ ?_))))))
    ·cases Z:(decide (c<48))
     ·exact AB O (AA O (AB O (CP O (AB O (AL O (AV O))))))
     exact A3 O O
    exact AL O (AV O)
   refine AA O (AW 3 53 (.bool ((((decide (c<97))||(decide (122<c)))&&((decide (c<48))||(decide (57<c))))&&(decide (c≠95)))) ?_ ?_)
   ·cases ab:(((decide (c<97))||(decide (122<c)))&&((decide (c<48))||(decide (57<c))))
    ·exact A3 O O
    exact AB O (AA O (AB O (CW O (AL O (AV O)))))
   refine AN (kp [53,0,3] O) (AX O E (λC E=>?_) (λC E=>?_))
   ·refine AI (AM O (kp [2] O) (A5 (λo p i j=>?_)))
    cases E
    exact Ee i j O O s ⟨O,m⟩
   refine AT (B5 (CN (.inl O) (AA O (BB O (AM O (kp [3,0] O) (WF.nil (λo p i j=>?_)))))))
   exact⟨(B0 (k+1)),_,_,i.sub (kp [0,3] O),j,m,s,(B1 _),E⟩
  refine By O (λo p i j=>?_)
  exact⟨_,_,i.sub PO,j,m,s,E⟩
 rintro o p ⟨ac,ad,i,j,x,D,E⟩
 refine A6 ?_ i j
 clear i j p o
 rw[G8] at E
 refine AI (AM O (kp [2] O) (A5 (λo p i j=>?_)))
 cases E
 exact Ee i j O O D ⟨O,x⟩
def PT {c:Nat}{d:(List (AQ×Bool))}(V:St S (MP (λk:AQ=>Value.agg (AQ.v k).toArray) Value.bool c d::L) h) {g:ByteArray}(i:g.size≤maxLen) {b:ByteArray}(j:b.size≤maxLen) {r:Bool×(List (AQ×Bool))}(E:JU N d g b=some r):
 C5 prog 71 #[.map (some c),.string g,.string b] S h (λv S' h'=>v= .bool r.1∧St S' (MP (λk:AQ=>Value.agg (AQ.v k).toArray) Value.bool c r.2::L) h'):=by
 refine Bv (l:=[.map (some c),.string g,.string b]) 23 func71 O ntmps71 O λB=>?_
 rw[JU] at E
 refine AI (AM O (kp [0,1,2] O) (AE (AI (AA O (T3 O O O (AN (kp [9,0,1,2] O) (HN (λa w=>∃(m:ByteArray),IV B S h (23,[]) a w [(0,.map (some c)),(2,.string b),(1,.string m)] (MP (λk:AQ=>Value.agg (AQ.v k).toArray) Value.bool c d::L) λ_ _=>m.size≤maxLen∧Hc N d b m=some r) ?_ ?_)))))))
 ·refine AX O E (λX E=>?_) (λX E=>?_)
  ·refine CN (.inl O) (AM O (kp [1,0,2] O) (WF.nil (λu y s t=>?_)))
   exact⟨(ByteArray.mk #[116,111,119,110]),_,_,s.sub (kp [0,2,1] O),t,V,(Cv.refl S h),(by decide),E⟩
  refine AT (WF.nil (λu y s t=>?_))
  exact⟨g,_,_,s.sub (kp [0,2,1] O),t,V,(Cv.refl S h),i,E⟩
 rintro u y ⟨m,S4,h5,s,t,M,W,r2,E⟩
 refine A6 ?_ s t
 clear s t y u
 rw[Hc] at E
 refine WF.sl (AF 3 (AA O (AA O (Ik (cs:=[.string m,.string b]) bN O O O (AG (Di bB O M λb8 h9 A C=>EW (vs:=[.string m,.string b]) O O O O UA O A .head O λY n D=>AZ (kp [7,0,2] O) (AE (AE (CX (.inl O) n (AA O ?_))))))))))
 obtain⟨F,G,E⟩:=bd E
 refine BR O O O iB O (λh' o=>Ox (St.all h') j G) (CE O (AA O (AW 4 20 (.bool ((!F)||((PR (λk:AQ=>Value.agg (AQ.v k).toArray) d (⟨m,b⟩:AQ)).getD false))) ?_ ?_)))
 ·cases Z:(!F)
  ·exact AB O (AA O (AB O (EH (vs:=[.string m,.string b]) CL n O mh O O UA O O (AB O (dP (k0:=(⟨m,b⟩:AQ)) (z:=false) CL n (mt mh) O O Wf VF kV O O (AL O (AV O)))))))
  exact A3 O O
 refine B3 (kp [20,7,0] O) λab p H=>AX O E (λQ E=>?_) (λQ E=>?_)
 ·refine AI (AM O (kp [6] O) (A5 (λu y s t=>?_)))
  have I:=p.sel [1] 1 O
  cases E
  exact Ee s t O O (W.trans (C.trans (D.trans H))) ⟨O,I⟩
 refine AT (WF.sl (AF 2 (AA O (EH (vs:=[.string m,.string b]) BY p O mh O O UA O O (AG (eD (k0:=(⟨m,b⟩:AQ)) (x:=true) p (.tail .head) O O O Wf VF λac J U=>AZ PO (AI (AM O (kp [6] O) (A5 (λu y s t=>?_))))))))))
 have K:=J.sel [1] 1 O
 cases E
 exact Ee s t O O (W.trans (C.trans (D.trans (H.trans U)))) ⟨O,K⟩
def EV {d:Nat}{c2_:(List (AQ×Bool))}{a:Nat}{g:Nat}{c3_:Bool}(x:St S (Bx d 120 [.map (some a)]::MP (λk:AQ=>Value.agg (AQ.v k).toArray) Value.bool a c2_::Bx g 4 [.bool c3_]::L) h) {b:ByteArray}(i:b.size≤maxLen) {c:ByteArray}(j:c.size≤maxLen) {r:(List (AQ×Bool))×Bool}(E:DC N c2_ c3_ b c=some r):
 C5 prog 70 #[.string b,.string c,vP d 0,vP g 0] S h (λv S' h'=>v= .tuple #[]∧St S' (Bx d 120 [.map (some a)]::MP (λk:AQ=>Value.agg (AQ.v k).toArray) Value.bool a r.1::Bx g 4 [.bool r.2]::L) h'):=by
 refine Bv (l:=[.string b,.string c,vP d 0,vP g 0]) 13 func70 O ntmps70 O λB=>?_
 rw[DC] at E
 refine FO (AF 3 (AS BY x O mh O Wj O (AA O (AA O (AG ?_)))))
 have s:=x.pick (.tail .head)
 obtain⟨t,u,E⟩:=bd E
 refine DU O O O iL O (PT s i j u) λC D F y p=>?_
 obtain⟨rfl,m⟩:=p
 refine AF 3 (AA O (AW 2 12 (.bool (t.1&&c3_)) ?_ ?_))
 ·cases G:t.1
  ·exact A3 O O
  exact AB O (AS BY m O (mt (mt mh)) O PH O (AL O (AV O)))
 refine AG (EW (vs:=[.bool (t.1&&c3_)]) O O O O PH O m (.tail (.tail .head)) O λH n w=>AZ PO (WF.nil (λI J z A=>?_)))
 have o:=n.sel [1,0,0] 0 O
 cases E
 exact Kn z O A Km O (y.trans w) ⟨O,o⟩
def M5 (hs:St S L h) {y:Value}{c:AU}(b1:Rd S h CZ y c) {r:Bool}(E:Ij N c=some r):
 C5 prog 48 #[y] S h (λv S' h'=>v= .bool r∧St S' (L) h'):=by
 refine Bv (l:=[y]) 106 func48 O ntmps48 O λB=>?_
 rw[Ij] at E
 refine WF.sl (Cm O b1 (λe=>by cases e) O hs λq1 S2 h3 gf e5 k6=>AF 1 (AY O (AG (AZ (kp [1] O) (WF.sl (eE (K:=0) (E:=0) O gf (λk:AQ=>Value.agg (AQ.v k).toArray) Value.bool λt h8 gg eb=>Di bE O gg λo j5 ec ed=>EW (vs:=[.map (some t)]) O O O O Wj O ec .head O λj6 ee ef=>AZ (kp [3,1] O) (WF.sl (Di kW O ee λi j7 eg eh=>EW (vs:=[.bool true]) O O O O PH O eg .head O λc5 b6 ei=>AZ (kp [4,3,1] O) (AI (Oz O O O (AM O (kp [5,4,1] O) (AE (AI ?_)))))))))))))
 have ej:=k6.mono (eb.trans (ed.trans (ef.trans (eh.trans ei))))
 refine A8 O ej E6 If O λj8 gh=>BG BY b6.1 O gh LA O λgi ek=>BC O ek Kt O λj9=>AA O (AN (kp [25,24,23,5,4,1] O) (BF (λa w=>∃(b2:Bool) (b3:(List (AQ×Bool))),IV B S2 c5 (106,[]) a w [(5,.func (.func 70) #[] #[vP o 0,vP i 0]),(4,vP i 0),(1,q1)] (Bx i 4 [.bool b2]::Bx o 120 [.map (some t)]::MP (λk:AQ=>Value.agg (AQ.v k).toArray) Value.bool t b3::L) λ_ _=>El N c b2 b3=some r) ?_ ?_))
 ·refine BT (λn1=>λa w=>∃(az:Int) (a0:Bool) (a1:(List (AQ×Bool))),IV B S2 c5 (106,[]) a w [(24,vI (↑c.H.length:Int)),(23,gi),(5,.func (.func 70) #[] #[vP o 0,vP i 0]),(4,vP i 0),(1,q1),(25,vI az)] (Bx i 4 [.bool a0]::Bx o 120 [.map (some t)]::MP (λk:AQ=>Value.agg (AQ.v k).toArray) Value.bool t a1::L) λ_ _=>AH az∧Db N c (El N c) n1 az a0 a1=some r) N ?_ ?_ ?_
  ·intro j m d g
   exact⟨0,true,([]:(List (AQ×Bool))),_,_,d.sub (kp [24,23,5,4,1,25] O),g,b6,(Cv.refl S2 c5),(iq (n:=0) O),E⟩
  ·rintro j m ⟨_,_,_,_,_,_,_,_,_,_,E⟩
   rw[Db] at E;cases E
  rintro n1 j m ⟨az,a0,a1,ka,kb,d,g,a2,c6,kc,E⟩
  refine A6 ?_ d g
  clear d g m j
  rw[Db] at E
  refine AI (BK O (AN (kp [26,24,23,5,4,1,25] O) (AE (AX O E (λgj E=>?_) (λgj E=>?_)))))
  ·refine AT (AE (BV (AI ?_)))
   obtain⟨kd,el,E⟩:=bd E
   refine Bz O O (ek.mono' c6) Kt el O λke gl=>Si BY a2.1 O gl Ql O λgm=>AM O (kp [7,24,23,5,4,1,25] O) (FO (AF 2 (AA O (AA O (AG ?_)))))
   have em:=a2.sel [1,1,0] 0 O
   obtain⟨en,eo,E⟩:=bd E
   refine DU O O O QR O (EV (c2_:=a1) (c3_:=a0) em (by decide) gm eo) λkf kg kh gn p=>?_
   obtain⟨rfl,ep⟩:=p
   refine AZ (kp [24,23,5,4,1,25] O) (B5 (CN (.inl O) (BB O (AA O (AN (kp [25,24,23,5,4,1] O) (WF.nil (λj m d g=>?_)))))))
   have eq:=ep.sel [2,0,0] 0 O
   exact⟨(B0 (az+1)),en.2,en.1,_,_,d.sub (kp [24,23,5,4,1,25] O),g,eq,(c6.trans gn),(B1 _),E⟩
  refine By O (λj m d g=>?_)
  exact⟨a0,a1,_,_,d.sub (kp [5,4,1] O),g,a2,c6,E⟩
 rintro j m ⟨b2,b3,c7,c8,d,g,b8,er,E⟩
 refine A6 ?_ d g
 clear d g m j
 rw[El] at E
 refine AE (AI ?_)
 have es:=ej.mono er
 refine A8 O es B6 Do O λki gp=>BG BY b8.1 O gp Gu O λgq et=>BC O et Fy O λkj=>AA O (AN (kp [36,35,34,5,4,1] O) (BF (λa w=>∃(b4:Bool) (b5:(List (AQ×Bool))),IV B c7 c8 (106,[]) a w [(5,.func (.func 70) #[] #[vP o 0,vP i 0]),(4,vP i 0),(1,q1)] (Bx i 4 [.bool b4]::Bx o 120 [.map (some t)]::MP (λk:AQ=>Value.agg (AQ.v k).toArray) Value.bool t b5::L) λ_ _=>Ek N c b4 b5=some r) ?_ ?_))
 ·refine BT (λn3=>λa w=>∃(a3:Int) (a4:Bool) (a5:(List (AQ×Bool))),IV B c7 c8 (106,[]) a w [(35,vI (↑c.A.length:Int)),(34,gq),(5,.func (.func 70) #[] #[vP o 0,vP i 0]),(4,vP i 0),(1,q1),(36,vI a3)] (Bx i 4 [.bool a4]::Bx o 120 [.map (some t)]::MP (λk:AQ=>Value.agg (AQ.v k).toArray) Value.bool t a5::L) λ_ _=>AH a3∧Da N c (Ek N c) n3 a3 a4 a5=some r) N ?_ ?_ ?_
  ·intro j m d g
   exact⟨0,b2,b3,_,_,d.sub (kp [35,34,5,4,1,36] O),g,b8,(Cv.refl c7 c8),(iq (n:=0) O),E⟩
  ·rintro j m ⟨_,_,_,_,_,_,_,_,_,_,E⟩
   rw[Da] at E;cases E
  rintro n3 j m ⟨a3,a4,a5,kk,kl,d,g,a6,c9,km,E⟩
  refine A6 ?_ d g
  clear d g m j
  rw[Da] at E
  refine AI (BK O (AN (kp [37,35,34,5,4,1,36] O) (AE (AX O E (λgr E=>?_) (λgr E=>?_)))))
  ·refine AT (AE (BV (WF.sl (AF 2 ?_))))
   obtain⟨s,eu,E⟩:=bd E
   refine Bz O O (et.mono' c9) Fy eu O λkn gs=>Ci BY a6.1 O gs KX (λe=>by cases e) O λko gt=>AG (Di O2 O a6 λkq kr ev ew=>?_)
   obtain⟨b9,ca,cb,rfl,gu,ks,kt,gv,ey,ez,gw,gx,gy,gz,g0,e0⟩:=Cd.ex (gt.mono ew)
   refine IA (vs:=[.string s.F,vI s.C,vI s.An,vI s.Aj,b9,ca,vI s.S,vI s.L,vI s.Ak,vI s.K,vI s.Bd,cb]) (cs':=[.string s.F,vI s.C,vI s.An,vI s.Aj,b9,ca,vI s.S,vI s.L,vI s.Ak,vI s.K,vI s.Bd,cb]) O O O (AC O (AC O (AC O (AC O (AC ey.one (AC ez.one (AC O (AC O (AC O (AC O (AC O (AC e0.one FA)))))))))))) KX O ev .head O O λg1 a7 e1=>AZ (kp [9,35,34,5,4,1,36] O) (FO (AF 3 (AA O (AD ZN O (AS BY a7 O mh O Ql O (AG ?_))))))
   have da:=a7.sel [2,2,1,0] 0 O
   obtain⟨cc,db,E⟩:=bd E
   refine DU O O O QR O (EV (c2_:=a5) (c3_:=a4) da (by decide) gu db) λg2 g3 g4 e2 p=>?_
   obtain⟨rfl,dc⟩:=p
   refine AZ (kp [35,34,5,4,1,36] O) (B5 (CN (.inl O) (BB O (AA O (AN (kp [36,35,34,5,4,1] O) (WF.nil (λj m d g=>?_)))))))
   have dd:=dc.sel [2,0,0] 1 O
   exact⟨(B0 (a3+1)),cc.2,cc.1,_,_,d.sub (kp [35,34,5,4,1,36] O),g,dd,(c9.trans (ew.trans (e1.trans e2))),(B1 _),E⟩
  refine By O (λj m d g=>?_)
  exact⟨a4,a5,_,_,d.sub (kp [5,4,1] O),g,a6,c9,E⟩
 rintro j m ⟨b4,b5,a8,a9,d,g,ba,cd,E⟩
 refine A6 ?_ d g
 clear d g m j
 rw[Ek] at E
 refine AE (AI ?_)
 have ce:=es.mono cd
 refine A8 O ce Fo H1 O λg5 e3=>BG BY ba.1 O e3 KY O λe4 cf=>BC O cf Io O λg6=>AA O (AN (kp [48,47,46,5,4,1] O) (BF (λa w=>∃(ao:Bool) (ap:(List (AQ×Bool))),IV B a8 a9 (106,[]) a w [(5,.func (.func 70) #[] #[vP o 0,vP i 0]),(4,vP i 0),(1,q1)] (Bx i 4 [.bool ao]::Bx o 120 [.map (some t)]::MP (λk:AQ=>Value.agg (AQ.v k).toArray) Value.bool t ap::L) λ_ _=>Ej N c ao ap=some r) ?_ ?_))
 ·refine BT (λn5=>λa w=>∃(z:Int) (G:Bool) (J:(List (AQ×Bool))),IV B a8 a9 (106,[]) a w [(47,vI (↑c.E.length:Int)),(46,e4),(5,.func (.func 70) #[] #[vP o 0,vP i 0]),(4,vP i 0),(1,q1),(48,vI z)] (Bx i 4 [.bool G]::Bx o 120 [.map (some t)]::MP (λk:AQ=>Value.agg (AQ.v k).toArray) Value.bool t J::L) λ_ _=>AH z∧DZ N c (Ej N c) n5 z G J=some r) N ?_ ?_ ?_
  ·intro j m d g
   exact⟨0,b4,b5,_,_,d.sub (kp [47,46,5,4,1,48] O),g,ba,(Cv.refl a8 a9),(iq (n:=0) O),E⟩
  ·rintro j m ⟨_,_,_,_,_,_,_,_,_,_,E⟩
   rw[DZ] at E;cases E
  rintro n5 j m ⟨z,G,J,g7,g8,d,g,ai,bb,g9,E⟩
  refine A6 ?_ d g
  clear d g m j
  rw[DZ] at E
  refine AI (BK O (AN (kp [49,47,46,5,4,1,48] O) (AE (AX O E (λe6 E=>?_) (λe6 E=>?_)))))
  ·refine AT (AE (BV (WF.sl (AF 2 ?_))))
   obtain⟨b,de,E⟩:=bd E
   refine Bz O O (cf.mono' bb) Io de O λha e7=>Ci BY ai.1 O e7 IJ (λe=>by cases e) O λhb e8=>AG (Di O1 O ai λhc hd df cg=>?_)
   obtain⟨ch,ci,cj,rfl,e9,he,hg,hh,fb,fc,fd,hi,hj,hk,hl,hm,hn,ho,hp,hq,hr,ht⟩:=Ce.ex (e8.mono cg)
   refine IA (vs:=[.string b.F,vI b.C,vI b.I,vI b.D,ch,ci,cj,vI b.T,vI b.Z,vI b.Ao,vI b.Ap,vI b.S,vI b.L,vI b.Ah,vI b.Ai,vI b.Ac,vI b.Ab,vI b.K]) (cs':=[.string b.F,vI b.C,vI b.I,vI b.D,ch,ci,cj,vI b.T,vI b.Z,vI b.Ao,vI b.Ap,vI b.S,vI b.L,vI b.Ah,vI b.Ai,vI b.Ac,vI b.Ab,vI b.K]) O O O (AC O (AC O (AC O (AC O (AC fb.one (AC fc.one (AC fd.one (AC O (AC O (AC O (AC O (AC O (AC O (AC O (AC O (AC O (AC O (AC O FA)))))))))))))))))) IJ O df .head O O λhu bc fe=>AZ (kp [11,47,46,5,4,1,48] O) (FO (AF 3 (AA O (AD ZK O (AS BY bc O mh O Ql O (AG ?_))))))
   have dg:=bc.sel [2,2,1,0] 0 O
   obtain⟨ck,dh,E⟩:=bd E
   refine DU O O O QR O (EV (c2_:=J) (c3_:=G) dg (by decide) e9 dh) λhv hx hy ff p=>?_
   obtain⟨rfl,di⟩:=p
   refine AZ (kp [47,46,5,4,1,48] O) (B5 (CN (.inl O) (BB O (AA O (AN (kp [48,47,46,5,4,1] O) (WF.nil (λj m d g=>?_)))))))
   have dj:=di.sel [2,0,0] 1 O
   exact⟨(B0 (z+1)),ck.2,ck.1,_,_,d.sub (kp [47,46,5,4,1,48] O),g,dj,(bb.trans (cg.trans (fe.trans ff))),(B1 _),E⟩
  refine By O (λj m d g=>?_)
  exact⟨G,J,_,_,d.sub (kp [5,4,1] O),g,ai,bb,E⟩
 rintro j m ⟨ao,ap,be,bf,d,g,bg,cl,E⟩
 refine A6 ?_ d g
 clear d g m j
 rw[Ej] at E
 refine AE (AI ?_)
 have cm:=ce.mono cl
 refine A8 O cm JH OU O λhz fg=>BG BY bg.1 O fg Sz O λfh cn=>BC O cn P1 O λh0=>AA O (AN (kp [60,59,58,5,4,1] O) (BF (λa w=>∃(aq:Bool) (ar:(List (AQ×Bool))),IV B be bf (106,[]) a w [(5,.func (.func 70) #[] #[vP o 0,vP i 0]),(4,vP i 0),(1,q1)] (Bx i 4 [.bool aq]::Bx o 120 [.map (some t)]::MP (λk:AQ=>Value.agg (AQ.v k).toArray) Value.bool t ar::L) λ_ _=>Ei N c aq ar=some r) ?_ ?_))
 ·refine BT (λn7=>λa w=>∃(M:Int) (Q:Bool) (V:(List (AQ×Bool))),IV B be bf (106,[]) a w [(59,vI (↑c.Ag.length:Int)),(58,fh),(5,.func (.func 70) #[] #[vP o 0,vP i 0]),(4,vP i 0),(1,q1),(60,vI M)] (Bx i 4 [.bool Q]::Bx o 120 [.map (some t)]::MP (λk:AQ=>Value.agg (AQ.v k).toArray) Value.bool t V::L) λ_ _=>AH M∧DY N c (Ei N c) n7 M Q V=some r) N ?_ ?_ ?_
  ·intro j m d g
   exact⟨0,ao,ap,_,_,d.sub (kp [59,58,5,4,1,60] O),g,bg,(Cv.refl be bf),(iq (n:=0) O),E⟩
  ·rintro j m ⟨_,_,_,_,_,_,_,_,_,_,E⟩
   rw[DY] at E;cases E
  rintro n7 j m ⟨M,Q,V,h1,h2,d,g,aj,bh,h4,E⟩
  refine A6 ?_ d g
  clear d g m j
  rw[DY] at E
  refine AI (BK O (AN (kp [61,59,58,5,4,1,60] O) (AE (AX O E (λfi E=>?_) (λfi E=>?_)))))
  ·refine AT (AE (BV (WF.sl (AF 2 ?_))))
   obtain⟨u,dk,E⟩:=bd E
   refine Bz O O (cn.mono' bh) P1 dk O λh5 fj=>Ci BY aj.1 O fj Rn (λe=>by cases e) O λh6 fk=>AG (Di WY O aj λh7 h9 dl co=>?_)
   obtain⟨rfl,⟨fl,ia,ib,ic,id,ie,ig⟩⟩:=HB.ex (fk.mono co)
   refine EW (vs:=[.string u.F,vI u.Ax,vI u.Bm,vI u.Bl,vI u.Bq,vI u.Bn,vI u.Bk]) O O O O Rn O dl .head O λih bi fm=>AZ (kp [13,59,58,5,4,1,60] O) (FO (AF 3 (AA O (AD X1 O (AS BY bi O mh O Ql O (AG ?_))))))
   have dm:=bi.sel [2,2,1,0] 0 O
   obtain⟨cp,dn,E⟩:=bd E
   refine DU O O O QR O (EV (c2_:=V) (c3_:=Q) dm (by decide) fl dn) λii ij ik fn p=>?_
   obtain⟨rfl,dp⟩:=p
   refine AZ (kp [59,58,5,4,1,60] O) (B5 (CN (.inl O) (BB O (AA O (AN (kp [60,59,58,5,4,1] O) (WF.nil (λj m d g=>?_)))))))
   have dq:=dp.sel [2,0,0] 1 O
   exact⟨(B0 (M+1)),cp.2,cp.1,_,_,d.sub (kp [59,58,5,4,1,60] O),g,dq,(bh.trans (co.trans (fm.trans fn))),(B1 _),E⟩
  refine By O (λj m d g=>?_)
  exact⟨Q,V,_,_,d.sub (kp [5,4,1] O),g,aj,bh,E⟩
 rintro j m ⟨aq,ar,bj,bk,d,g,bl,cq,E⟩
 refine A6 ?_ d g
 clear d g m j
 rw[Ei] at E
 refine AE (AI ?_)
 have cr:=cm.mono cq
 refine A8 O cr I3 Pp O λil fo=>BG BY bl.1 O fo Ut O λfp cs=>BC O cs RC O λim=>AA O (AN (kp [72,71,70,5,4,1] O) (BF (λa w=>∃(au:Bool) (av:(List (AQ×Bool))),IV B bj bk (106,[]) a w [(5,.func (.func 70) #[] #[vP o 0,vP i 0]),(4,vP i 0),(1,q1)] (Bx i 4 [.bool au]::Bx o 120 [.map (some t)]::MP (λk:AQ=>Value.agg (AQ.v k).toArray) Value.bool t av::L) λ_ _=>Eh N c au av=some r) ?_ ?_))
 ·refine BT (λn9=>λa w=>∃(X:Int) (Y:Bool) (ab:(List (AQ×Bool))),IV B bj bk (106,[]) a w [(71,vI (↑c.Av.length:Int)),(70,fp),(5,.func (.func 70) #[] #[vP o 0,vP i 0]),(4,vP i 0),(1,q1),(72,vI X)] (Bx i 4 [.bool Y]::Bx o 120 [.map (some t)]::MP (λk:AQ=>Value.agg (AQ.v k).toArray) Value.bool t ab::L) λ_ _=>AH X∧DX N c (Eh N c) n9 X Y ab=some r) N ?_ ?_ ?_
  ·intro j m d g
   exact⟨0,aq,ar,_,_,d.sub (kp [71,70,5,4,1,72] O),g,bl,(Cv.refl bj bk),(iq (n:=0) O),E⟩
  ·rintro j m ⟨_,_,_,_,_,_,_,_,_,_,E⟩
   rw[DX] at E;cases E
  rintro n9 j m ⟨X,Y,ab,io,ip,d,g,ak,bm,ir,E⟩
  refine A6 ?_ d g
  clear d g m j
  rw[DX] at E
  refine AI (BK O (AN (kp [73,71,70,5,4,1,72] O) (AE (AX O E (λfq E=>?_) (λfq E=>?_)))))
  ·refine AT (AE (BV (WF.sl (AF 2 ?_))))
   obtain⟨ct,dr,E⟩:=bd E
   refine Bz O O (cs.mono' bm) RC dr O λit fr=>Ci BY ak.1 O fr Rm (λe=>by cases e) O λiu fs=>AG (Di WX O ak λiv iw ds cu=>?_)
   obtain⟨rfl,⟨ft,iy⟩⟩:=Dh.ex (fs.mono cu)
   refine EW (vs:=[.string ct.F,vI ct.Au]) O O O O Rm O ds .head O λiz bn fu=>AZ (kp [15,71,70,5,4,1,72] O) (FO (AF 3 (AA O (AD Xu O (AS BY bn O mh O Ql O (AG ?_))))))
   have dt:=bn.sel [2,2,1,0] 0 O
   obtain⟨cv,du,E⟩:=bd E
   refine DU O O O QR O (EV (c2_:=ab) (c3_:=Y) dt (by decide) ft du) λi0 i1 i2 fv p=>?_
   obtain⟨rfl,dv⟩:=p
   refine AZ (kp [71,70,5,4,1,72] O) (B5 (CN (.inl O) (BB O (AA O (AN (kp [72,71,70,5,4,1] O) (WF.nil (λj m d g=>?_)))))))
   have dw:=dv.sel [2,0,0] 1 O
   exact⟨(B0 (X+1)),cv.2,cv.1,_,_,d.sub (kp [71,70,5,4,1,72] O),g,dw,(bm.trans (cu.trans (fu.trans fv))),(B1 _),E⟩
  refine By O (λj m d g=>?_)
  exact⟨Y,ab,_,_,d.sub (kp [5,4,1] O),g,ak,bm,E⟩
 rintro j m ⟨au,av,bo,bp,d,g,bq,cw,E⟩
 refine A6 ?_ d g
 clear d g m j
 rw[Eh] at E
 refine AE (AI ?_)
 have cx:=cr.mono cw
 refine A8 O cx Kr SP O λi3 fw=>BG BY bq.1 O fw Wh O λfx cy=>BC O cy TJ O λi4=>AA O (AN (kp [84,83,82,5,4,1] O) (BF (λa w=>∃(aw:Bool) (ax:(List (AQ×Bool))),IV B bo bp (106,[]) a w [(5,.func (.func 70) #[] #[vP o 0,vP i 0]),(4,vP i 0),(1,q1)] (Bx i 4 [.bool aw]::Bx o 120 [.map (some t)]::MP (λk:AQ=>Value.agg (AQ.v k).toArray) Value.bool t ax::L) λ_ _=>EU N c aw ax=some r) ?_ ?_))
 ·refine BT (λfy=>λa w=>∃(ac:Int) (ad:Bool) (ae:(List (AQ×Bool))),IV B bo bp (106,[]) a w [(83,vI (↑c.Aq.length:Int)),(82,fx),(5,.func (.func 70) #[] #[vP o 0,vP i 0]),(4,vP i 0),(1,q1),(84,vI ac)] (Bx i 4 [.bool ad]::Bx o 120 [.map (some t)]::MP (λk:AQ=>Value.agg (AQ.v k).toArray) Value.bool t ae::L) λ_ _=>AH ac∧DK N c (EU N c) fy ac ad ae=some r) N ?_ ?_ ?_
  ·intro j m d g
   exact⟨0,au,av,_,_,d.sub (kp [83,82,5,4,1,84] O),g,bq,(Cv.refl bo bp),(iq (n:=0) O),E⟩
  ·rintro j m ⟨_,_,_,_,_,_,_,_,_,_,E⟩
   rw[DK] at E;cases E
  rintro fy j m ⟨ac,ad,ae,i5,i6,d,g,am,br,i7,E⟩
  refine A6 ?_ d g
  clear d g m j
  rw[DK] at E
  refine AI (BK O (AN (kp [85,83,82,5,4,1,84] O) (AE (AX O E (λfz E=>?_) (λfz E=>?_)))))
  ·refine AT (AE (BV (WF.sl (AF 2 ?_))))
   obtain⟨af,dx,E⟩:=bd E
   refine Bz O O (cy.mono' br) TJ dx O λi8 f0=>Ci BY am.1 O f0 Rl (λe=>by cases e) O λi9 f1=>AG (Di WW O am λja jb dy cz=>?_)
   obtain⟨rfl,⟨f2,jc,jd,je,jf⟩⟩:=FL.ex (f1.mono cz)
   refine EW (vs:=[.string af.F,vI af.C,vI af.W,vI af.U,vI af.Bo]) O O O O Rl O dy .head O λjg bs f3=>AZ (kp [17,83,82,5,4,1,84] O) (FO (AF 3 (AA O (AD Xs O (AS BY bs O mh O Ql O (AG ?_))))))
   have dz:=bs.sel [2,2,1,0] 0 O
   obtain⟨c0,d0,E⟩:=bd E
   refine DU O O O QR O (EV (c2_:=ae) (c3_:=ad) dz (by decide) f2 d0) λjh ji jj f4 p=>?_
   obtain⟨rfl,d1⟩:=p
   refine AZ (kp [83,82,5,4,1,84] O) (B5 (CN (.inl O) (BB O (AA O (AN (kp [84,83,82,5,4,1] O) (WF.nil (λj m d g=>?_)))))))
   have d2:=d1.sel [2,0,0] 1 O
   exact⟨(B0 (ac+1)),c0.2,c0.1,_,_,d.sub (kp [83,82,5,4,1,84] O),g,d2,(br.trans (cz.trans (f3.trans f4))),(B1 _),E⟩
  refine By O (λj m d g=>?_)
  exact⟨ad,ae,_,_,d.sub (kp [5,4,1] O),g,am,br,E⟩
 rintro j m ⟨aw,ax,bt,bu,d,g,bv,c1,E⟩
 refine A6 ?_ d g
 clear d g m j
 rw[EU] at E
 refine AE (AI (A8 O (cx.mono c1) LQ SO O λjk f5=>BG BY bv.1 O f5 Wg O λf6 c2=>BC O c2 TI O λjl=>AA O (AN (kp [96,95,94,5,4] O) (BF (λa w=>∃(bw:Bool),IV B bt bu (106,[]) a w [(4,vP i 0)] (Bx i 4 [.bool bw]::L) λ_ _=>ET N bw=some r) ?_ ?_))))
 ·refine BT (λf7=>λa w=>∃(ag:Int) (ah:Bool) (ay:(List (AQ×Bool))),IV B bt bu (106,[]) a w [(95,vI (↑c.At.length:Int)),(94,f6),(5,.func (.func 70) #[] #[vP o 0,vP i 0]),(4,vP i 0),(96,vI ag)] (Bx i 4 [.bool ah]::Bx o 120 [.map (some t)]::MP (λk:AQ=>Value.agg (AQ.v k).toArray) Value.bool t ay::L) λ_ _=>AH ag∧DJ N c (ET N) f7 ag ah ay=some r) N ?_ ?_ ?_
  ·intro j m d g
   exact⟨0,aw,ax,_,_,d.sub (kp [95,94,5,4,96] O),g,bv,(Cv.refl bt bu),(iq (n:=0) O),E⟩
  ·rintro j m ⟨_,_,_,_,_,_,_,_,_,_,E⟩
   rw[DJ] at E;cases E
  rintro f7 j m ⟨ag,ah,ay,jm,jn,d,g,an,bx,jo,E⟩
  refine A6 ?_ d g
  clear d g m j
  rw[DJ] at E
  refine AI (BK O (AN (kp [97,95,94,5,4,96] O) (AE (AX O E (λf8 E=>?_) (λf8 E=>?_)))))
  ·refine AT (AE (BV (WF.sl (AF 2 ?_))))
   obtain⟨x,d3,E⟩:=bd E
   refine Bz O O (c2.mono' bx) TI d3 O λjp f9=>Ci BY an.1 O f9 Rk (λe=>by cases e) O λjq ga=>AG (Di WV O an λjr js d4 c3=>?_)
   obtain⟨rfl,⟨gb,jt,ju,jv,jw,jx,jy⟩⟩:=G2.ex (ga.mono c3)
   refine EW (vs:=[.string x.F,vI x.I,vI x.D,vI x.Br,vI x.Bs,vI x.Bh,vI x.Bj]) O O O O Rk O d4 .head O λjz bz gc=>AZ (kp [19,95,94,5,4,96] O) (FO (AF 3 (AA O (AD Xo O (AS BY bz O mh O Ql O (AG ?_))))))
   have d5:=bz.sel [2,2,1,0] 0 O
   obtain⟨c4,d6,E⟩:=bd E
   refine DU O O O QR O (EV (c2_:=ay) (c3_:=ah) d5 (by decide) gb d6) λj0 j1 j2 gd p=>?_
   obtain⟨rfl,d7⟩:=p
   refine AZ (kp [95,94,5,4,96] O) (B5 (CN (.inl O) (BB O (AA O (AN (kp [96,95,94,5,4] O) (WF.nil (λj m d g=>?_)))))))
   have d8:=d7.sel [2,0,0] 1 O
   exact⟨(B0 (ag+1)),c4.2,c4.1,_,_,d.sub (kp [95,94,5,4,96] O),g,d8,(bx.trans (c3.trans (gc.trans gd))),(B1 _),E⟩
  refine By O (λj m d g=>?_)
  have d9:=an.sel [0] 2 O
  exact⟨ah,_,_,d.sub (kp [4] O),g,d9,bx,E⟩
 rintro j m ⟨bw,j3,j4,d,g,b0,ge,E⟩
 refine A6 ?_ d g
 clear d g m j
 rw[ET] at E
 refine AI (AS BY b0 O mh O PH O (AM O (kp [2] O) (A5 (λj m d g=>?_))))
 have ea:=b0.drop .head
 cases E
 exact Ee d g O O (e5.trans (eb.trans (ed.trans (ef.trans (eh.trans (ei.trans (er.trans (cd.trans (cl.trans (cq.trans (cw.trans (c1.trans ge)))))))))))) ⟨O,ea⟩
def G9 (hs:St S L h) {i:Value}{k:(List B4)}(d:Sl S h CY i k) {r:Bool}(E:Ed N k=some r):
 C5 prog 72 #[i] S h (λv S' h'=>v= .bool r∧St S' (L) h'):=by
 refine Bv (l:=[i]) 63 func72 O ntmps72 O λB=>?_
 rw[Ed] at E
 refine AI (AM O (kp [0] O) (AE (AI (AA O (BC O d Im O λb1=>BK O (AA O (AW 4 12 (.bool ((decide ((↑k.length:Int)<1))||(decide (32<(↑k.length:Int))))) ?_ ?_)))))))
 ·cases c2:(decide ((↑k.length:Int)<1))
  ·exact AB O (AA O (AB O (BC O d Im O λb3=>AB O (CP O (AL O (AV O))))))
  exact A3 O O
 refine AN (kp [12,0] O) (AX O E (λc4 E=>?_) (λc4 E=>?_))
 ·refine AI (AM O (kp [2] O) (A5 (λt u m o=>?_)))
  cases E
  exact Ee m o O O (Cv.refl S h) ⟨O,hs⟩
 refine AT (AE (AI (AA O (BC O d Im O λb5=>AA O (AN (kp [15,14,13,0] O) (BF (λa w=>IV B S h (63,[]) a w [] (L) λ_ _=>Gm N=some r) ?_ ?_))))))
 ·refine BT (λn1=>λa w=>∃(z:Int),IV B S h (63,[]) a w [(14,vI (↑k.length:Int)),(13,i),(0,i),(15,vI z)] (L) λ_ _=>AH z∧Ec N k (Gm N) n1 z=some r) N ?_ ?_ ?_
  ·intro t u m o
   exact⟨0,_,_,m.sub (kp [14,13,0,15] O),o,hs,(Cv.refl S h),(iq (n:=0) O),E⟩
  ·rintro t u ⟨_,_,_,_,_,_,_,_,E⟩
   rw[Ec] at E;cases E
  rintro n1 t u ⟨z,ai,aj,m,o,x,p,r9,E⟩
  refine A6 ?_ m o
  clear m o u t
  rw[Ec] at E
  refine AI (BK O (AN (kp [16,14,13,0,15] O) (AE (AX O E (λQ E=>?_) (λQ E=>?_)))))
  ·refine AT (AE (BV (WF.sl (AF 3 (AA O ?_)))))
   obtain⟨b,A,E⟩:=bd E
   refine Bz O O (d.mono' p) Im A O λak U=>Ci BY x.1 O U O4 (λe=>by cases e) O λam V=>AG (Di Un O x λan ao C s=>AF 1 (AY O (AG ?_)))
   obtain⟨rfl,⟨ap,aq⟩⟩:=CY.ex (V.mono s)
   refine EW (vs:=[vI b.N,vI b.Y]) O O O O O4 O C .head O λar c y=>AZ (kp [3,4,14,13,0,15] O) (AE (AI (AD JY O (AS BY c O mh O A7 O (BK O (AA O (AW 4 27 (.bool ((decide (b.N<0))||(decide (1125899906842624<b.N)))) ?_ ?_)))))))
   ·cases au:(decide (b.N<0))
    ·exact AB O (AD JY O (AB O (AS BY c O mh O A7 O (AB O (CP O (AL O (AV O)))))))
    exact A3 O O
   refine AA O (AW 4 32 (.bool (((decide (b.N<0))||(decide (1125899906842624<b.N)))||(decide (b.Y<0)))) ?_ ?_)
   ·cases av:((decide (b.N<0))||(decide (1125899906842624<b.N)))
    ·exact AB O (AD I1 O (AB O (AS BY c O mh O A7 O (AB O (BK O (AL O (AV O)))))))
    exact A3 O O
   refine AA O (AW 4 37 (.bool ((((decide (b.N<0))||(decide (1125899906842624<b.N)))||(decide (b.Y<0)))||(decide (1125899906842624<b.Y)))) ?_ ?_)
   ·cases aw:(((decide (b.N<0))||(decide (1125899906842624<b.N)))||(decide (b.Y<0)))
    ·exact AB O (AD I1 O (AB O (AS BY c O mh O A7 O (AB O (CP O (AL O (AV O)))))))
    exact A3 O O
   refine AN (kp [37,3,4,14,13,0,15] O) (AX O E (λW E=>?_) (λW E=>?_))
   ·refine AI (AM O (kp [2] O) (A5 (λt u m o=>?_)))
    have D:=c.drop .head
    cases E
    exact Ee m o O O (p.trans (s.trans y)) ⟨O,D⟩
   refine AT (AE (CN (.inr ⟨mo,by kernel_rfl⟩) (AA O (CP O (AA O ?_)))))
   obtain⟨X,g,E⟩:=bd E
   refine AW 21 61 (.bool X) ?_ ?_
   ·cases F:(decide (0<z))
    ·have g:=HG F g
     cases g
     exact A3 O O
    have g:=HE F g
    refine AB O (AD JY O (AB O (AS BY c O mh O A7 O (AB O (AA O (AB O (AA O (AB O (Dk O (AB O ?_))))))))))
    obtain⟨Z,G,g⟩:=bd g
    refine Bz O O (d.mono' (p.trans (s.trans y))) Im G O λax ab=>AB O (A8 O ab LP JY O λay ac=>AB O (A9 BY c.1 O ac A7 O λaz=>AB O (HO O (AB O (AA O ?_)))))
    obtain⟨ad,j,g⟩:=bd g
    refine AW 10 60 (.bool ad) ?_ ?_
    ·cases H:(decide (b.N≤Z.N))
     ·have j:=HG H j
      refine AB O (AD I1 O (AB O (AS BY c O mh O A7 O (AB O (AA O (AB O (AA O (AB O (Dk O (AB O ?_))))))))))
      obtain⟨a0,I,j⟩:=bd j
      refine Bz O O (d.mono' (p.trans (s.trans y))) Im I O λa1 ae=>AB O (A8 O ae LO I1 O λa2 af=>AB O (A9 BY c.1 O af A7 O λa3=>AB O (BK O (AB O (AL O ?_)))))
      cases j
      exact AV O
     have j:=HE H j
     cases j
     exact A3 O O
    refine AL O ?_
    cases g
    exact AV O
   refine AN (kp [61,14,13,0,15] O) (AX O E (λag E=>?_) (λag E=>?_))
   ·refine AI (AM O (kp [2] O) (A5 (λt u m o=>?_)))
    have J:=c.drop .head
    cases E
    exact Ee m o O O (p.trans (s.trans y)) ⟨O,J⟩
   refine AT (B5 (CN (.inl O) (BB O (AA O (AN (kp [15,14,13,0] O) (WF.nil (λt u m o=>?_)))))))
   have K:=c.drop .head
   exact⟨(B0 (z+1)),_,_,m.sub (kp [14,13,0,15] O),o,K,(p.trans (s.trans y)),(B1 _),E⟩
  refine By O (λt u m o=>?_)
  exact⟨_,_,m.sub PO,o,x,p,E⟩
 rintro t u ⟨a4,a5,m,o,M,ah,E⟩
 refine A6 ?_ m o
 clear m o u t
 rw[Gm] at E
 refine AI (AM O (kp [2] O) (A5 (λt u m o=>?_)))
 cases E
 exact Ee m o O O ah ⟨O,M⟩
end Go.Proofs.YtblcgjadhemlbaaGreat
