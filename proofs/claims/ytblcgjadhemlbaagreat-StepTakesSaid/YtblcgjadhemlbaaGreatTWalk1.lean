import Derived.Test.YtblcgjadhemlbaaGreatTWalk0
namespace Go.Proofs.YtblcgjadhemlbaaGreat
open Go.RowKit
set_option linter.unusedVariables false
set_option linter.unusedSimpArgs false
set_option maxRecDepth 10000
set_option maxHeartbeats 2000000
variable {N:Nat}{S:Nat→Prop}{L:List HP}{h:Aw}
theorem OK (hs:St S L h) {b:ByteArray}(y:b.size≤maxLen) {r:Bool}(E:Ia N b=some r):
 CL Tryz.prog 92 #[.string b] S h (λv S' h'=>v= .bool r∧St S' (L) h'):=by
 refine BF (l:=[.string b]) 54 Tryz.func92 O Tryz.ntmps92 O λB=>?_
 rw[Ia] at E
 refine AH (AL O (kp [0] O) (AC (AH (AA O (N2 O QG O (Ao O (AA O (AV 4 12 (.bool ((decide ((↑b.size:Int)<1))||(decide (24<(↑b.size:Int))))) ?_ ?_))))))))
 ·cases c1:(decide ((↑b.size:Int)<1))
  ·exact AB O (AA O (AB O (N2 O QG O (AB O (Bk O (AJ O (AU O)))))))
  exact Aa O O
 refine AA O (AV 3 16 (.bool (((decide ((↑b.size:Int)<1))||(decide (24<(↑b.size:Int))))||(b==(ByteArray.mk #[111,117,116])))) ?_ ?_)
 ·cases c2:((decide ((↑b.size:Int)<1))||(decide (24<(↑b.size:Int))))
  ·exact AB O (AA O (AB O (TR O O O (AJ O (AU O)))))
  exact Aa O O
 refine AA O ?_
 obtain⟨F,d,E⟩:=bd E
 refine AV 4 21 (.bool F) ?_ ?_
 ·cases G:(((decide ((↑b.size:Int)<1))||(decide (24<(↑b.size:Int))))||(b==(ByteArray.mk #[111,117,116])))
  ·have d:=GM G d
   refine AB O (AA O (AB O ?_))
   obtain⟨z5,t,d⟩:=bd d
   have r6:=Nz t
   refine N4 O O QG t O (AB O (Ao O (AJ O ?_)))
   cases d
   exact AU O
  have d:=GL G d
  cases d
  exact Aa O O
 refine AA O ?_
 obtain⟨J,g,E⟩:=bd E
 refine AV 4 26 (.bool J) ?_ ?_
 ·cases H:F
  ·have g:=GM H g
   refine AB O (AA O (AB O ?_))
   obtain⟨z9,u,g⟩:=bd g
   have K:=Nz u
   refine N4 O O QG u O (AB O (Bk O (AJ O ?_)))
   cases g
   exact AU O
  have g:=GL H g
  cases g
  exact Aa O O
 refine AM (kp [26,0] O) (AX O E (λz E=>?_) (λz E=>?_))
 ·refine AH (AL O (kp [2] O) (Ad (λo p i j=>?_)))
  cases E
  exact Dr i j O O (B9.refl S h) ⟨O,hs⟩
 refine AO (AC (AH (AL O (kp [3,0] O) (Aj (λa w=>IV B S h (54,[]) a w [] (L) λ_ _=>GK N=some r) ?_ ?_))))
 ·refine A3 (λI=>λa w=>∃(k:Int),IV B S h (54,[]) a w [(0,.string b),(3,vI k)] (L) λ_ _=>AE k∧Ef N b (GK N) I k=some r) N ?_ ?_ ?_
  ·intro o p i j
   exact⟨1,_,_,i.sub (kp [0,3] O),j,hs,(B9.refl S h),(iq (n:=1) O),E⟩
  ·rintro o p ⟨_,_,_,_,_,_,_,_,E⟩
   rw[Ef] at E;cases E
  rintro I o p ⟨k,M,Q,i,j,m,s,U,E⟩
  refine Ac ?_ i j
  clear i j p o
  rw[Ef] at E
  refine AC (AH (AA O (AA O (N2 O QG O (Ao O (AM (kp [30,0,3] O) (AX O E (λA E=>?_) (λA E=>?_))))))))
  ·refine AO (AC (A8 (AH (AA O (AA O ?_)))))
   obtain⟨c,q,E⟩:=bd E
   have V:=Nz q
   refine N4 O O QG q O (AL O (kp [4,0,3] O) (AH (AA O (Ao O (AA O (AV 3 41 (.bool ((decide (c<97))||(decide (122<c)))) ?_ ?_))))))
   ·cases W:(decide (c<97))
    ·exact AB O (AA O (AB O (Bk O (AJ O (AU O)))))
    exact Aa O O
   refine AA O (AV 7 49 (.bool (((decide (c<97))||(decide (122<c)))&&((decide (c<48))||(decide (57<c))))) ?_ ?_)
   ·cases X:((decide (c<97))||(decide (122<c)))
    ·exact Aa O O
    refine AB O (AA O (AB O (Ao O (AB O (AA O (AV 3 48 (.bool ((decide (c<48))||(decide (57<c)))) ?_ ?_))))))
    ·cases Y:(decide (c<48))
     ·exact AB O (AA O (AB O (Bk O (AB O (AJ O (AU O))))))
     exact Aa O O
    exact AJ O (AU O)
   refine AA O (AV 3 53 (.bool ((((decide (c<97))||(decide (122<c)))&&((decide (c<48))||(decide (57<c))))&&(decide (c≠95)))) ?_ ?_)
   ·cases Z:(((decide (c<97))||(decide (122<c)))&&((decide (c<48))||(decide (57<c))))
    ·exact Aa O O
    exact AB O (AA O (AB O (Bl O (AJ O (AU O)))))
   refine AM (kp [53,0,3] O) (AX O E (λC E=>?_) (λC E=>?_))
   ·refine AH (AL O (kp [2] O) (Ad (λo p i j=>?_)))
    cases E
    exact Dr i j O O s ⟨O,m⟩
   refine AO (BP (BY (.inl O) (AA O (Ai O (AL O (kp [3,0] O) (WF.nil (λo p i j=>?_)))))))
   exact⟨(BM (k+1)),_,_,i.sub (kp [0,3] O),j,m,s,(BG _),E⟩
  refine BA O (λo p i j=>?_)
  exact⟨_,_,i.sub Ov,j,m,s,E⟩
 rintro o p ⟨ab,ac,i,j,x,D,E⟩
 refine Ac ?_ i j
 clear i j p o
 rw[GK] at E
 refine AH (AL O (kp [2] O) (Ad (λo p i j=>?_)))
 cases E
 exact Dr i j O O D ⟨O,x⟩
theorem O1 {c:Nat}{d:(List (AS×Bool))}(hs:St S (MP (λk:AS=>Value.agg (AS.v k).toArray) Value.bool c d::L) h) {g:ByteArray}(i:g.size≤maxLen) {b:ByteArray}(j:b.size≤maxLen) {r:Bool×(List (AS×Bool))}(E:Iy N d g b=some r):
 CL Tryz.prog 71 #[.map (some c),.string g,.string b] S h (λv S' h'=>v= .bool r.1∧St S' (MP (λk:AS=>Value.agg (AS.v k).toArray) Value.bool c r.2::L) h'):=by
 refine BF (l:=[.map (some c),.string g,.string b]) 23 Tryz.func71 O Tryz.ntmps71 O λB=>?_
 rw[Iy] at E
 refine AH (AL O (kp [0,1,2] O) (AC (AH (AA O (TR O O O (AM (kp [9,0,1,2] O) (Ga (λa w=>∃(m:ByteArray),IV B S h (23,[]) a w [(0,.map (some c)),(2,.string b),(1,.string m)] (MP (λk:AS=>Value.agg (AS.v k).toArray) Value.bool c d::L) λ_ _=>m.size≤maxLen∧Gl N d b m=some r) ?_ ?_)))))))
 ·refine AX O E (λW E=>?_) (λW E=>?_)
  ·refine BY (.inl O) (AL O (kp [1,0,2] O) (WF.nil (λu y s t=>?_)))
   exact⟨(ByteArray.mk #[116,111,119,110]),_,_,s.sub (kp [0,2,1] O),t,hs,(B9.refl S h),(by decide),E⟩
  refine AO (WF.nil (λu y s t=>?_))
  exact⟨g,_,_,s.sub (kp [0,2,1] O),t,hs,(B9.refl S h),i,E⟩
 rintro u y ⟨m,S4,h5,s,t,M,V,r2,E⟩
 refine Ac ?_ s t
 clear s t y u
 rw[Gl] at E
 refine WF.sl (AI 3 (AA O (AA O (H1 (cs:=[.string m,.string b]) Zu O O O (AG (Cn Zh O M λb8 h9 A C=>DW (vs:=[.string m,.string b]) O O O O TX O A .head O λX n D=>AZ (kp [7,0,2] O) (AC (AC (Bt (.inl O) n (AA O ?_))))))))))
 obtain⟨F,G,E⟩:=bd E
 refine A5 O O O eV O (λh' o=>OK (St.all h') j G) (BZ O (AA O (AV 4 20 (.bool ((!F)||((Oy (λk:AS=>Value.agg (AS.v k).toArray) d (⟨m,b⟩:AS)).getD false))) ?_ ?_)))
 ·cases Y:(!F)
  ·exact AB O (AA O (AB O (Dk (vs:=[.string m,.string b]) Bg n O mh O O TX O O (AB O (bM (k0:=(⟨m,b⟩:AS)) (z:=false) Bg n (mt mh) O O Vq UZ iT O O (AJ O (AU O)))))))
  exact Aa O O
 refine BQ (kp [20,7,0] O) λZ p H=>AX O E (λQ E=>?_) (λQ E=>?_)
 ·refine AH (AL O (kp [6] O) (Ad (λu y s t=>?_)))
  have I:=p.sel [1] 1 O
  cases E
  exact Dr s t O O (V.trans (C.trans (D.trans H))) ⟨O,I⟩
 refine AO (WF.sl (AI 2 (AA O (Dk (vs:=[.string m,.string b]) A6 p O mh O O TX O O (AG (cA (k0:=(⟨m,b⟩:AS)) (x:=true) p (.tail .head) O O O Vq UZ λab J U=>AZ Ov (AH (AL O (kp [6] O) (Ad (λu y s t=>?_))))))))))
 have K:=J.sel [1] 1 O
 cases E
 exact Dr s t O O (V.trans (C.trans (D.trans (H.trans U)))) ⟨O,K⟩
theorem Dj {d:Nat}{c2_:(List (AS×Bool))}{a:Nat}{g:Nat}{c3_:Bool}(hs:St S (Bx d 120 [.map (some a)]::MP (λk:AS=>Value.agg (AS.v k).toArray) Value.bool a c2_::Bx g 4 [.bool c3_]::L) h) {b:ByteArray}(i:b.size≤maxLen) {c:ByteArray}(j:c.size≤maxLen) {r:(List (AS×Bool))×Bool}(E:CT N c2_ c3_ b c=some r):
 CL Tryz.prog 70 #[.string b,.string c,vP d 0,vP g 0] S h (λv S' h'=>v= .tuple #[]∧St S' (Bx d 120 [.map (some a)]::MP (λk:AS=>Value.agg (AS.v k).toArray) Value.bool a r.1::Bx g 4 [.bool r.2]::L) h'):=by
 refine BF (l:=[.string b,.string c,vP d 0,vP g 0]) 13 Tryz.func70 O Tryz.ntmps70 O λB=>?_
 rw[CT] at E
 refine EX (AI 3 (AT A6 hs O mh O Vv O (AA O (AA O (AG ?_)))))
 have s:=hs.pick (.tail .head)
 obtain⟨t,u,E⟩:=bd E
 refine Ct O O O fF O (O1 s i j u) λA C D x p=>?_
 obtain⟨rfl,m⟩:=p
 refine AI 3 (AA O (AV 2 12 (.bool (t.1&&c3_)) ?_ ?_))
 ·cases F:t.1
  ·exact Aa O O
  exact AB O (AT A6 m O (mt (mt mh)) O Ol O (AJ O (AU O)))
 refine AG (DW (vs:=[.bool (t.1&&c3_)]) O O O O Ol O m (.tail (.tail .head)) O λG n w=>AZ Ov (WF.nil (λH I y z=>?_)))
 have o:=n.sel [1,0,0] 0 O
 cases E
 exact KD y O z KC O (x.trans w) ⟨O,o⟩
theorem MZ (hs:St S L h) {y:Value}{c:AW}(br:Rd S h B8 y c) {r:Bool}(E:H0 N c=some r):
 CL Tryz.prog 48 #[y] S h (λv S' h'=>v= .bool r∧St S' (L) h'):=by
 refine BF (l:=[y]) 106 Tryz.func48 O Tryz.ntmps48 O λB=>?_
 rw[H0] at E
 refine WF.sl (B3 O br (λe=>by cases e) O hs λq1 S2 h3 f6 e5 k6=>AI 1 (AY O (AG (AZ (kp [1] O) (WF.sl (cB (K:=0) (E:=0) O f6 (λk:AS=>Value.agg (AS.v k).toArray) Value.bool λt h8 f7 d2=>Cn Zk O f7 λo jv d3 d4=>DW (vs:=[.map (some t)]) O O O O Vv O d3 .head O λjw d5 d6=>AZ (kp [3,1] O) (WF.sl (Cn iU O d5 λi jx d7 d8=>DW (vs:=[.bool true]) O O O O Ol O d7 .head O λcw bw d9=>AZ (kp [4,3,1] O) (AH (OM O O O (AL O (kp [5,4,1] O) (AC (AH ?_)))))))))))))
 have ea:=k6.mono (d2.trans (d4.trans (d6.trans (d8.trans d9))))
 refine Af O ea Dq HT O λjy f8=>Al A6 bw.1 O f8 KI O λf9 eb=>Ak O eb Jx O λjz=>AA O (AM (kp [25,24,23,5,4,1] O) (Aj (λa w=>∃(bs:Bool) (bt:(List (AS×Bool))),IV B S2 cw (106,[]) a w [(5,.func (.func 70) #[] #[vP o 0,vP i 0]),(4,vP i 0),(1,q1)] (Bx i 4 [.bool bs]::Bx o 120 [.map (some t)]::MP (λk:AS=>Value.agg (AS.v k).toArray) Value.bool t bt::L) λ_ _=>Dz N c bs bt=some r) ?_ ?_))
 ·refine A3 (λn1=>λa w=>∃(ao:Int) (ap:Bool) (aq:(List (AS×Bool))),IV B S2 cw (106,[]) a w [(24,vI (↑c.Owners.length:Int)),(23,f9),(5,.func (.func 70) #[] #[vP o 0,vP i 0]),(4,vP i 0),(1,q1),(25,vI ao)] (Bx i 4 [.bool ap]::Bx o 120 [.map (some t)]::MP (λk:AS=>Value.agg (AS.v k).toArray) Value.bool t aq::L) λ_ _=>AE ao∧Cs N c (Dz N c) n1 ao ap aq=some r) N ?_ ?_ ?_
  ·intro j m d g
   exact⟨0,true,([]:(List (AS×Bool))),_,_,d.sub (kp [24,23,5,4,1,25] O),g,bw,(B9.refl S2 cw),(iq (n:=0) O),E⟩
  ·rintro j m ⟨_,_,_,_,_,_,_,_,_,_,E⟩
   rw[Cs] at E;cases E
  rintro n1 j m ⟨ao,ap,aq,j0,j1,d,g,ar,cx,j2,E⟩
  refine Ac ?_ d g
  clear d g m j
  rw[Cs] at E
  refine AH (Ao O (AM (kp [26,24,23,5,4,1,25] O) (AC (AX O E (λga E=>?_) (λga E=>?_)))))
  ·refine AO (AC (A8 (AH ?_)))
   obtain⟨j3,ec,E⟩:=bd E
   refine A9 O O (eb.mono' cx) Jx ec O λj4 gb=>R8 A6 ar.1 O gb QH O λgc=>AL O (kp [7,24,23,5,4,1,25] O) (EX (AI 2 (AA O (AA O (AG ?_)))))
   have ed:=ar.sel [1,1,0] 0 O
   obtain⟨ee,ef,E⟩:=bd E
   refine Ct O O O P4 O (Dj (c2_:=aq) (c3_:=ap) ed (by decide) gc ef) λj5 j6 j7 gd p=>?_
   obtain⟨rfl,eg⟩:=p
   refine AZ (kp [24,23,5,4,1,25] O) (BP (BY (.inl O) (Ai O (AA O (AM (kp [25,24,23,5,4,1] O) (WF.nil (λj m d g=>?_)))))))
   have eh:=eg.sel [2,0,0] 0 O
   exact⟨(BM (ao+1)),ee.2,ee.1,_,_,d.sub (kp [24,23,5,4,1,25] O),g,eh,(cx.trans gd),(BG _),E⟩
  refine BA O (λj m d g=>?_)
  exact⟨ap,aq,_,_,d.sub (kp [5,4,1] O),g,ar,cx,E⟩
 rintro j m ⟨bs,bt,cy,cz,d,g,bx,ei,E⟩
 refine Ac ?_ d g
 clear d g m j
 rw[Dz] at E
 refine AC (AH ?_)
 have ej:=ea.mono ei
 refine Af O ej BO C0 O λj8 ge=>Al A6 bx.1 O ge Fq O λgf ek=>Ak O ek Ez O λj9=>AA O (AM (kp [36,35,34,5,4,1] O) (Aj (λa w=>∃(bu:Bool) (bv:(List (AS×Bool))),IV B cy cz (106,[]) a w [(5,.func (.func 70) #[] #[vP o 0,vP i 0]),(4,vP i 0),(1,q1)] (Bx i 4 [.bool bu]::Bx o 120 [.map (some t)]::MP (λk:AS=>Value.agg (AS.v k).toArray) Value.bool t bv::L) λ_ _=>Dy N c bu bv=some r) ?_ ?_))
 ·refine A3 (λn3=>λa w=>∃(au:Int) (av:Bool) (aw:(List (AS×Bool))),IV B cy cz (106,[]) a w [(35,vI (↑c.Places.length:Int)),(34,gf),(5,.func (.func 70) #[] #[vP o 0,vP i 0]),(4,vP i 0),(1,q1),(36,vI au)] (Bx i 4 [.bool av]::Bx o 120 [.map (some t)]::MP (λk:AS=>Value.agg (AS.v k).toArray) Value.bool t aw::L) λ_ _=>AE au∧Cr N c (Dy N c) n3 au av aw=some r) N ?_ ?_ ?_
  ·intro j m d g
   exact⟨0,bs,bt,_,_,d.sub (kp [35,34,5,4,1,36] O),g,bx,(B9.refl cy cz),(iq (n:=0) O),E⟩
  ·rintro j m ⟨_,_,_,_,_,_,_,_,_,_,E⟩
   rw[Cr] at E;cases E
  rintro n3 j m ⟨au,av,aw,ka,kb,d,g,ax,c0,kc,E⟩
  refine Ac ?_ d g
  clear d g m j
  rw[Cr] at E
  refine AH (Ao O (AM (kp [37,35,34,5,4,1,36] O) (AC (AX O E (λgg E=>?_) (λgg E=>?_)))))
  ·refine AO (AC (A8 (WF.sl (AI 2 ?_))))
   obtain⟨s,el,E⟩:=bd E
   refine A9 O O (ek.mono' c0) Ez el O λkd gh=>B6 A6 ax.1 O gh Jt (λe=>by cases e) O λke gi=>AG (Cn OR O ax λkf kg em en=>?_)
   obtain⟨bz,b0,b1,rfl,gj,kh,ki,gk,eo,ep,gl,gm,gn,gp,gq,eq⟩:=B1.ex (gi.mono en)
   refine HM (vs:=[.string s.Name,vI s.Kind,vI s.Office,vI s.Cap,bz,b0,vI s.Num,vI s.Den,vI s.Down,vI s.Delay,vI s.Floor,b1]) (cs':=[.string s.Name,vI s.Kind,vI s.Office,vI s.Cap,bz,b0,vI s.Num,vI s.Den,vI s.Down,vI s.Delay,vI s.Floor,b1]) O O O (AF O (AF O (AF O (AF O (AF eo.one (AF ep.one (AF O (AF O (AF O (AF O (AF O (AF eq.one EG)))))))))))) Jt O em .head O O λgr ay er=>AZ (kp [9,35,34,5,4,1,36] O) (EX (AI 3 (AA O (AD YU O (AT A6 ay O mh O QH O (AG ?_))))))
   have c1:=ay.sel [2,2,1,0] 0 O
   obtain⟨b2,c2,E⟩:=bd E
   refine Ct O O O P4 O (Dj (c2_:=aw) (c3_:=av) c1 (by decide) gj c2) λgs gt gu es p=>?_
   obtain⟨rfl,c3⟩:=p
   refine AZ (kp [35,34,5,4,1,36] O) (BP (BY (.inl O) (Ai O (AA O (AM (kp [36,35,34,5,4,1] O) (WF.nil (λj m d g=>?_)))))))
   have c4:=c3.sel [2,0,0] 1 O
   exact⟨(BM (au+1)),b2.2,b2.1,_,_,d.sub (kp [35,34,5,4,1,36] O),g,c4,(c0.trans (en.trans (er.trans es))),(BG _),E⟩
  refine BA O (λj m d g=>?_)
  exact⟨av,aw,_,_,d.sub (kp [5,4,1] O),g,ax,c0,E⟩
 rintro j m ⟨bu,bv,az,a0,d,g,a1,b3,E⟩
 refine Ac ?_ d g
 clear d g m j
 rw[Dy] at E
 refine AC (AH ?_)
 have b4:=ej.mono b3
 refine Af O b4 Es HA O λgv et=>Al A6 a1.1 O et Jv O λeu b5=>Ak O b5 H6 O λgw=>AA O (AM (kp [48,47,46,5,4,1] O) (Aj (λa w=>∃(ae:Bool) (af:(List (AS×Bool))),IV B az a0 (106,[]) a w [(5,.func (.func 70) #[] #[vP o 0,vP i 0]),(4,vP i 0),(1,q1)] (Bx i 4 [.bool ae]::Bx o 120 [.map (some t)]::MP (λk:AS=>Value.agg (AS.v k).toArray) Value.bool t af::L) λ_ _=>Dx N c ae af=some r) ?_ ?_))
 ·refine A3 (λn5=>λa w=>∃(z:Int) (A:Bool) (C:(List (AS×Bool))),IV B az a0 (106,[]) a w [(47,vI (↑c.Links.length:Int)),(46,eu),(5,.func (.func 70) #[] #[vP o 0,vP i 0]),(4,vP i 0),(1,q1),(48,vI z)] (Bx i 4 [.bool A]::Bx o 120 [.map (some t)]::MP (λk:AS=>Value.agg (AS.v k).toArray) Value.bool t C::L) λ_ _=>AE z∧Cq N c (Dx N c) n5 z A C=some r) N ?_ ?_ ?_
  ·intro j m d g
   exact⟨0,bu,bv,_,_,d.sub (kp [47,46,5,4,1,48] O),g,a1,(B9.refl az a0),(iq (n:=0) O),E⟩
  ·rintro j m ⟨_,_,_,_,_,_,_,_,_,_,E⟩
   rw[Cq] at E;cases E
  rintro n5 j m ⟨z,A,C,gx,gy,d,g,Y,a2,gz,E⟩
  refine Ac ?_ d g
  clear d g m j
  rw[Cq] at E
  refine AH (Ao O (AM (kp [49,47,46,5,4,1,48] O) (AC (AX O E (λev E=>?_) (λev E=>?_)))))
  ·refine AO (AC (A8 (WF.sl (AI 2 ?_))))
   obtain⟨b,c5,E⟩:=bd E
   refine A9 O O (b5.mono' a2) H6 c5 O λg0 ew=>B6 A6 Y.1 O ew HW (λe=>by cases e) O λg1 ey=>AG (Cn OQ O Y λg2 g3 c6 b6=>?_)
   obtain⟨b8,b9,ca,rfl,ez,g4,g5,g6,e0,e1,e2,g7,g8,g9,ha,hb,hc,hd,he,hg,hh,hi⟩:=Bv.ex (ey.mono b6)
   refine HM (vs:=[.string b.Name,vI b.Kind,vI b.From,vI b.To,b8,b9,ca,vI b.Positions,vI b.Speed,vI b.Leak,vI b.Crest,vI b.Num,vI b.Den,vI b.Prime,vI b.Break,vI b.BackNum,vI b.BackDen,vI b.Delay]) (cs':=[.string b.Name,vI b.Kind,vI b.From,vI b.To,b8,b9,ca,vI b.Positions,vI b.Speed,vI b.Leak,vI b.Crest,vI b.Num,vI b.Den,vI b.Prime,vI b.Break,vI b.BackNum,vI b.BackDen,vI b.Delay]) O O O (AF O (AF O (AF O (AF O (AF e0.one (AF e1.one (AF e2.one (AF O (AF O (AF O (AF O (AF O (AF O (AF O (AF O (AF O (AF O (AF O EG)))))))))))))))))) HW O c6 .head O O λhj a3 e3=>AZ (kp [11,47,46,5,4,1,48] O) (EX (AI 3 (AA O (AD YR O (AT A6 a3 O mh O QH O (AG ?_))))))
   have c7:=a3.sel [2,2,1,0] 0 O
   obtain⟨cb,c8,E⟩:=bd E
   refine Ct O O O P4 O (Dj (c2_:=C) (c3_:=A) c7 (by decide) ez c8) λhk hl hm e4 p=>?_
   obtain⟨rfl,c9⟩:=p
   refine AZ (kp [47,46,5,4,1,48] O) (BP (BY (.inl O) (Ai O (AA O (AM (kp [48,47,46,5,4,1] O) (WF.nil (λj m d g=>?_)))))))
   have da:=c9.sel [2,0,0] 1 O
   exact⟨(BM (z+1)),cb.2,cb.1,_,_,d.sub (kp [47,46,5,4,1,48] O),g,da,(a2.trans (b6.trans (e3.trans e4))),(BG _),E⟩
  refine BA O (λj m d g=>?_)
  exact⟨A,C,_,_,d.sub (kp [5,4,1] O),g,Y,a2,E⟩
 rintro j m ⟨ae,af,a4,a5,d,g,a6,cc,E⟩
 refine Ac ?_ d g
 clear d g m j
 rw[Dx] at E
 refine AC (AH ?_)
 have cd:=b4.mono cc
 refine Af O cd Ie Nv O λhn e6=>Al A6 a6.1 O e6 SP O λe7 ce=>Ak O ce Pf O λho=>AA O (AM (kp [60,59,58,5,4,1] O) (Aj (λa w=>∃(ag:Bool) (ah:(List (AS×Bool))),IV B a4 a5 (106,[]) a w [(5,.func (.func 70) #[] #[vP o 0,vP i 0]),(4,vP i 0),(1,q1)] (Bx i 4 [.bool ag]::Bx o 120 [.map (some t)]::MP (λk:AS=>Value.agg (AS.v k).toArray) Value.bool t ah::L) λ_ _=>Dw N c ag ah=some r) ?_ ?_))
 ·refine A3 (λn7=>λa w=>∃(D:Int) (F:Bool) (G:(List (AS×Bool))),IV B a4 a5 (106,[]) a w [(59,vI (↑c.Towns.length:Int)),(58,e7),(5,.func (.func 70) #[] #[vP o 0,vP i 0]),(4,vP i 0),(1,q1),(60,vI D)] (Bx i 4 [.bool F]::Bx o 120 [.map (some t)]::MP (λk:AS=>Value.agg (AS.v k).toArray) Value.bool t G::L) λ_ _=>AE D∧Cp N c (Dw N c) n7 D F G=some r) N ?_ ?_ ?_
  ·intro j m d g
   exact⟨0,ae,af,_,_,d.sub (kp [59,58,5,4,1,60] O),g,a6,(B9.refl a4 a5),(iq (n:=0) O),E⟩
  ·rintro j m ⟨_,_,_,_,_,_,_,_,_,_,E⟩
   rw[Cp] at E;cases E
  rintro n7 j m ⟨D,F,G,hp,hq,d,g,Z,a7,hr,E⟩
  refine Ac ?_ d g
  clear d g m j
  rw[Cp] at E
  refine AH (Ao O (AM (kp [61,59,58,5,4,1,60] O) (AC (AX O E (λe8 E=>?_) (λe8 E=>?_)))))
  ·refine AO (AC (A8 (WF.sl (AI 2 ?_))))
   obtain⟨u,db,E⟩:=bd E
   refine A9 O O (ce.mono' a7) Pf db O λht e9=>B6 A6 Z.1 O e9 Q8 (λe=>by cases e) O λhu fb=>AG (Cn Vj O Z λhv hx dc cf=>?_)
   obtain⟨rfl,⟨fc,hy,hz,h0,h1,h2,h4⟩⟩:=GQ.ex (fb.mono cf)
   refine DW (vs:=[.string u.Name,vI u.Place,vI u.Flood,vI u.Lead,vI u.People,vI u.Watch,vI u.Quorum]) O O O O Q8 O dc .head O λh5 a8 fd=>AZ (kp [13,59,58,5,4,1,60] O) (EX (AI 3 (AA O (AD W7 O (AT A6 a8 O mh O QH O (AG ?_))))))
   have dd:=a8.sel [2,2,1,0] 0 O
   obtain⟨cg,de,E⟩:=bd E
   refine Ct O O O P4 O (Dj (c2_:=G) (c3_:=F) dd (by decide) fc de) λh6 h7 h9 fe p=>?_
   obtain⟨rfl,df⟩:=p
   refine AZ (kp [59,58,5,4,1,60] O) (BP (BY (.inl O) (Ai O (AA O (AM (kp [60,59,58,5,4,1] O) (WF.nil (λj m d g=>?_)))))))
   have dg:=df.sel [2,0,0] 1 O
   exact⟨(BM (D+1)),cg.2,cg.1,_,_,d.sub (kp [59,58,5,4,1,60] O),g,dg,(a7.trans (cf.trans (fd.trans fe))),(BG _),E⟩
  refine BA O (λj m d g=>?_)
  exact⟨F,G,_,_,d.sub (kp [5,4,1] O),g,Z,a7,E⟩
 rintro j m ⟨ag,ah,a9,ba,d,g,bb,ch,E⟩
 refine Ac ?_ d g
 clear d g m j
 rw[Dw] at E
 refine AC (AH ?_)
 have ci:=cd.mono ch
 refine Af O ci IP PP O λia ff=>Al A6 bb.1 O ff UD O λfg cj=>Ak O cj Qf O λib=>AA O (AM (kp [72,71,70,5,4,1] O) (Aj (λa w=>∃(ai:Bool) (aj:(List (AS×Bool))),IV B a9 ba (106,[]) a w [(5,.func (.func 70) #[] #[vP o 0,vP i 0]),(4,vP i 0),(1,q1)] (Bx i 4 [.bool ai]::Bx o 120 [.map (some t)]::MP (λk:AS=>Value.agg (AS.v k).toArray) Value.bool t aj::L) λ_ _=>Dv N c ai aj=some r) ?_ ?_))
 ·refine A3 (λn9=>λa w=>∃(H:Int) (I:Bool) (J:(List (AS×Bool))),IV B a9 ba (106,[]) a w [(71,vI (↑c.Shelters.length:Int)),(70,fg),(5,.func (.func 70) #[] #[vP o 0,vP i 0]),(4,vP i 0),(1,q1),(72,vI H)] (Bx i 4 [.bool I]::Bx o 120 [.map (some t)]::MP (λk:AS=>Value.agg (AS.v k).toArray) Value.bool t J::L) λ_ _=>AE H∧Co N c (Dv N c) n9 H I J=some r) N ?_ ?_ ?_
  ·intro j m d g
   exact⟨0,ag,ah,_,_,d.sub (kp [71,70,5,4,1,72] O),g,bb,(B9.refl a9 ba),(iq (n:=0) O),E⟩
  ·rintro j m ⟨_,_,_,_,_,_,_,_,_,_,E⟩
   rw[Co] at E;cases E
  rintro n9 j m ⟨H,I,J,ic,id,d,g,ab,bc,ie,E⟩
  refine Ac ?_ d g
  clear d g m j
  rw[Co] at E
  refine AH (Ao O (AM (kp [73,71,70,5,4,1,72] O) (AC (AX O E (λfh E=>?_) (λfh E=>?_)))))
  ·refine AO (AC (A8 (WF.sl (AI 2 ?_))))
   obtain⟨ck,dh,E⟩:=bd E
   refine A9 O O (cj.mono' bc) Qf dh O λig fi=>B6 A6 ab.1 O fi Q7 (λe=>by cases e) O λih fj=>AG (Cn Vi O ab λii ij di cl=>?_)
   obtain⟨rfl,⟨fk,ik⟩⟩:=Cx.ex (fj.mono cl)
   refine DW (vs:=[.string ck.Name,vI ck.Room]) O O O O Q7 O di .head O λil be fl=>AZ (kp [15,71,70,5,4,1,72] O) (EX (AI 3 (AA O (AD W0 O (AT A6 be O mh O QH O (AG ?_))))))
   have dj:=be.sel [2,2,1,0] 0 O
   obtain⟨cm,dk,E⟩:=bd E
   refine Ct O O O P4 O (Dj (c2_:=J) (c3_:=I) dj (by decide) fk dk) λim io ip fm p=>?_
   obtain⟨rfl,dl⟩:=p
   refine AZ (kp [71,70,5,4,1,72] O) (BP (BY (.inl O) (Ai O (AA O (AM (kp [72,71,70,5,4,1] O) (WF.nil (λj m d g=>?_)))))))
   have dm:=dl.sel [2,0,0] 1 O
   exact⟨(BM (H+1)),cm.2,cm.1,_,_,d.sub (kp [71,70,5,4,1,72] O),g,dm,(bc.trans (cl.trans (fl.trans fm))),(BG _),E⟩
  refine BA O (λj m d g=>?_)
  exact⟨I,J,_,_,d.sub (kp [5,4,1] O),g,ab,bc,E⟩
 rintro j m ⟨ai,aj,bf,bg,d,g,bh,cn,E⟩
 refine Ac ?_ d g
 clear d g m j
 rw[Dv] at E
 refine AC (AH ?_)
 have co:=ci.mono cn
 refine Af O co KH Rs O λir fn=>Al A6 bh.1 O fn Vt O λfo cp=>Ak O cp Sa O λit=>AA O (AM (kp [84,83,82,5,4,1] O) (Aj (λa w=>∃(ak:Bool) (am:(List (AS×Bool))),IV B bf bg (106,[]) a w [(5,.func (.func 70) #[] #[vP o 0,vP i 0]),(4,vP i 0),(1,q1)] (Bx i 4 [.bool ak]::Bx o 120 [.map (some t)]::MP (λk:AS=>Value.agg (AS.v k).toArray) Value.bool t am::L) λ_ _=>Di N c ak am=some r) ?_ ?_))
 ·refine A3 (λfp=>λa w=>∃(M:Int) (Q:Bool) (U:(List (AS×Bool))),IV B bf bg (106,[]) a w [(83,vI (↑c.Gauges.length:Int)),(82,fo),(5,.func (.func 70) #[] #[vP o 0,vP i 0]),(4,vP i 0),(1,q1),(84,vI M)] (Bx i 4 [.bool Q]::Bx o 120 [.map (some t)]::MP (λk:AS=>Value.agg (AS.v k).toArray) Value.bool t U::L) λ_ _=>AE M∧Cd N c (Di N c) fp M Q U=some r) N ?_ ?_ ?_
  ·intro j m d g
   exact⟨0,ai,aj,_,_,d.sub (kp [83,82,5,4,1,84] O),g,bh,(B9.refl bf bg),(iq (n:=0) O),E⟩
  ·rintro j m ⟨_,_,_,_,_,_,_,_,_,_,E⟩
   rw[Cd] at E;cases E
  rintro fp j m ⟨M,Q,U,iu,iv,d,g,ac,bi,iw,E⟩
  refine Ac ?_ d g
  clear d g m j
  rw[Cd] at E
  refine AH (Ao O (AM (kp [85,83,82,5,4,1,84] O) (AC (AX O E (λfq E=>?_) (λfq E=>?_)))))
  ·refine AO (AC (A8 (WF.sl (AI 2 ?_))))
   obtain⟨V,dn,E⟩:=bd E
   refine A9 O O (cp.mono' bi) Sa dn O λiy fr=>B6 A6 ac.1 O fr Q6 (λe=>by cases e) O λiz fs=>AG (Cn Vh O ac λi0 i1 dp cq=>?_)
   obtain⟨rfl,⟨ft,i2,i3,i4,i5⟩⟩:=EV.ex (fs.mono cq)
   refine DW (vs:=[.string V.Name,vI V.Kind,vI V.Target,vI V.Err,vI V.Drift]) O O O O Q6 O dp .head O λi6 bj fu=>AZ (kp [17,83,82,5,4,1,84] O) (EX (AI 3 (AA O (AD Wy O (AT A6 bj O mh O QH O (AG ?_))))))
   have dq:=bj.sel [2,2,1,0] 0 O
   obtain⟨cr,dr,E⟩:=bd E
   refine Ct O O O P4 O (Dj (c2_:=U) (c3_:=Q) dq (by decide) ft dr) λi7 i8 i9 fv p=>?_
   obtain⟨rfl,ds⟩:=p
   refine AZ (kp [83,82,5,4,1,84] O) (BP (BY (.inl O) (Ai O (AA O (AM (kp [84,83,82,5,4,1] O) (WF.nil (λj m d g=>?_)))))))
   have dt:=ds.sel [2,0,0] 1 O
   exact⟨(BM (M+1)),cr.2,cr.1,_,_,d.sub (kp [83,82,5,4,1,84] O),g,dt,(bi.trans (cq.trans (fu.trans fv))),(BG _),E⟩
  refine BA O (λj m d g=>?_)
  exact⟨Q,U,_,_,d.sub (kp [5,4,1] O),g,ac,bi,E⟩
 rintro j m ⟨ak,am,bk,bl,d,g,bm,cs,E⟩
 refine Ac ?_ d g
 clear d g m j
 rw[Di] at E
 refine AC (AH (Af O (co.mono cs) Ku Rr O λja fw=>Al A6 bm.1 O fw Vs O λfx ct=>Ak O ct SZ O λjb=>AA O (AM (kp [96,95,94,5,4] O) (Aj (λa w=>∃(bn:Bool),IV B bk bl (106,[]) a w [(4,vP i 0)] (Bx i 4 [.bool bn]::L) λ_ _=>Dh N bn=some r) ?_ ?_))))
 ·refine A3 (λfy=>λa w=>∃(W:Int) (X:Bool) (an:(List (AS×Bool))),IV B bk bl (106,[]) a w [(95,vI (↑c.Roads.length:Int)),(94,fx),(5,.func (.func 70) #[] #[vP o 0,vP i 0]),(4,vP i 0),(96,vI W)] (Bx i 4 [.bool X]::Bx o 120 [.map (some t)]::MP (λk:AS=>Value.agg (AS.v k).toArray) Value.bool t an::L) λ_ _=>AE W∧Cc N c (Dh N) fy W X an=some r) N ?_ ?_ ?_
  ·intro j m d g
   exact⟨0,ak,am,_,_,d.sub (kp [95,94,5,4,96] O),g,bm,(B9.refl bk bl),(iq (n:=0) O),E⟩
  ·rintro j m ⟨_,_,_,_,_,_,_,_,_,_,E⟩
   rw[Cc] at E;cases E
  rintro fy j m ⟨W,X,an,jc,jd,d,g,ad,bo,je,E⟩
  refine Ac ?_ d g
  clear d g m j
  rw[Cc] at E
  refine AH (Ao O (AM (kp [97,95,94,5,4,96] O) (AC (AX O E (λfz E=>?_) (λfz E=>?_)))))
  ·refine AO (AC (A8 (WF.sl (AI 2 ?_))))
   obtain⟨x,du,E⟩:=bd E
   refine A9 O O (ct.mono' bo) SZ du O λjf f0=>B6 A6 ad.1 O f0 Q5 (λe=>by cases e) O λjg f1=>AG (Cn Vg O ad λjh ji dv cu=>?_)
   obtain⟨rfl,⟨f2,jj,jk,jl,jm,jn,jo⟩⟩:=Fp.ex (f1.mono cu)
   refine DW (vs:=[.string x.Name,vI x.From,vI x.To,vI x.Hours,vI x.Flow,vI x.By,vI x.Limit]) O O O O Q5 O dv .head O λjp bp f3=>AZ (kp [19,95,94,5,4,96] O) (EX (AI 3 (AA O (AD Wu O (AT A6 bp O mh O QH O (AG ?_))))))
   have dw:=bp.sel [2,2,1,0] 0 O
   obtain⟨cv,dx,E⟩:=bd E
   refine Ct O O O P4 O (Dj (c2_:=an) (c3_:=X) dw (by decide) f2 dx) λjq jr js f4 p=>?_
   obtain⟨rfl,dy⟩:=p
   refine AZ (kp [95,94,5,4,96] O) (BP (BY (.inl O) (Ai O (AA O (AM (kp [96,95,94,5,4] O) (WF.nil (λj m d g=>?_)))))))
   have dz:=dy.sel [2,0,0] 1 O
   exact⟨(BM (W+1)),cv.2,cv.1,_,_,d.sub (kp [95,94,5,4,96] O),g,dz,(bo.trans (cu.trans (f3.trans f4))),(BG _),E⟩
  refine BA O (λj m d g=>?_)
  have d0:=ad.sel [0] 2 O
  exact⟨X,_,_,d.sub (kp [4] O),g,d0,bo,E⟩
 rintro j m ⟨bn,jt,ju,d,g,bq,f5,E⟩
 refine Ac ?_ d g
 clear d g m j
 rw[Dh] at E
 refine AH (AT A6 bq O mh O Ol O (AL O (kp [2] O) (Ad (λj m d g=>?_))))
 have d1:=bq.drop .head
 cases E
 exact Dr d g O O (e5.trans (d2.trans (d4.trans (d6.trans (d8.trans (d9.trans (ei.trans (b3.trans (cc.trans (ch.trans (cn.trans (cs.trans f5)))))))))))) ⟨O,d1⟩
theorem GO (hs:St S L h) {i:Value}{k:(List BT)}(d:Sl S h Bu i k) {r:Bool}(E:Eo N k=some r):
 CL Tryz.prog 72 #[i] S h (λv S' h'=>v= .bool r∧St S' (L) h'):=by
 refine BF (l:=[i]) 63 Tryz.func72 O Tryz.ntmps72 O λB=>?_
 rw[Eo] at E
 refine AH (AL O (kp [0] O) (AC (AH (AA O (Ak O d H5 O λb1=>Ao O (AA O (AV 4 12 (.bool ((decide ((↑k.length:Int)<1))||(decide (32<(↑k.length:Int))))) ?_ ?_)))))))
 ·cases c2:(decide ((↑k.length:Int)<1))
  ·exact AB O (AA O (AB O (Ak O d H5 O λb3=>AB O (Bk O (AJ O (AU O))))))
  exact Aa O O
 refine AM (kp [12,0] O) (AX O E (λc4 E=>?_) (λc4 E=>?_))
 ·refine AH (AL O (kp [2] O) (Ad (λt u m o=>?_)))
  cases E
  exact Dr m o O O (B9.refl S h) ⟨O,hs⟩
 refine AO (AC (AH (AA O (Ak O d H5 O λb5=>AA O (AM (kp [15,14,13,0] O) (Aj (λa w=>IV B S h (63,[]) a w [] (L) λ_ _=>Hk N=some r) ?_ ?_))))))
 ·refine A3 (λn1=>λa w=>∃(z:Int),IV B S h (63,[]) a w [(14,vI (↑k.length:Int)),(13,i),(0,i),(15,vI z)] (L) λ_ _=>AE z∧Fm N k (Hk N) n1 z=some r) N ?_ ?_ ?_
  ·intro t u m o
   exact⟨0,_,_,m.sub (kp [14,13,0,15] O),o,hs,(B9.refl S h),(iq (n:=0) O),E⟩
  ·rintro t u ⟨_,_,_,_,_,_,_,_,E⟩
   rw[Fm] at E;cases E
  rintro n1 t u ⟨z,aj,ak,m,o,x,p,r9,E⟩
  refine Ac ?_ m o
  clear m o u t
  rw[Fm] at E
  refine AH (Ao O (AM (kp [16,14,13,0,15] O) (AC (AX O E (λQ E=>?_) (λQ E=>?_)))))
  ·refine AO (AC (A8 (WF.sl (AI 3 (AA O ?_)))))
   obtain⟨b,A,E⟩:=bd E
   refine A9 O O (d.mono' p) H5 A O λam U=>B6 A6 x.1 O U OU (λe=>by cases e) O λan V=>AG (Cn T7 O x λao ap C s=>AI 1 (AY O (AG ?_)))
   obtain⟨rfl,⟨aq,ar⟩⟩:=Bu.ex (V.mono s)
   refine DW (vs:=[vI b.X,vI b.Y]) O O O O OU O C .head O λau c y=>AZ (kp [3,4,14,13,0,15] O) (AC (AH (AD I3 O (AT A6 c O mh O Ae O (Ao O (AA O (AV 4 27 (.bool ((decide (b.X<0))||(decide (1125899906842624<b.X)))) ?_ ?_)))))))
   ·cases av:(decide (b.X<0))
    ·exact AB O (AD I3 O (AB O (AT A6 c O mh O Ae O (AB O (Bk O (AJ O (AU O)))))))
    exact Aa O O
   refine AA O (AV 4 32 (.bool (((decide (b.X<0))||(decide (1125899906842624<b.X)))||(decide (b.Y<0)))) ?_ ?_)
   ·cases aw:((decide (b.X<0))||(decide (1125899906842624<b.X)))
    ·exact AB O (AD IK O (AB O (AT A6 c O mh O Ae O (AB O (Ao O (AJ O (AU O)))))))
    exact Aa O O
   refine AA O (AV 4 37 (.bool ((((decide (b.X<0))||(decide (1125899906842624<b.X)))||(decide (b.Y<0)))||(decide (1125899906842624<b.Y)))) ?_ ?_)
   ·cases ax:(((decide (b.X<0))||(decide (1125899906842624<b.X)))||(decide (b.Y<0)))
    ·exact AB O (AD IK O (AB O (AT A6 c O mh O Ae O (AB O (Bk O (AJ O (AU O)))))))
    exact Aa O O
   refine AM (kp [37,3,4,14,13,0,15] O) (AX O E (λW E=>?_) (λW E=>?_))
   ·refine AH (AL O (kp [2] O) (Ad (λt u m o=>?_)))
    have D:=c.drop .head
    cases E
    exact Dr m o O O (p.trans (s.trans y)) ⟨O,D⟩
   refine AO (AC (BY (.inr ⟨mo,by kernel_rfl⟩) (AA O (Bk O (AA O ?_)))))
   obtain⟨Z,g,E⟩:=bd E
   refine AV 21 61 (.bool Z) ?_ ?_
   ·cases F:(decide (0<z))
    ·have g:=GM F g
     cases g
     exact Aa O O
    have g:=GL F g
    refine AB O (AD I3 O (AB O (AT A6 c O mh O Ae O (AB O (AA O (AB O (AA O (AB O (Cz O (AB O ?_))))))))))
    obtain⟨ab,G,g⟩:=bd g
    refine A9 O O (d.mono' (p.trans (s.trans y))) H5 G O λay ac=>AB O (Af O ac Ks I3 O λaz ad=>AB O (Ag A6 c.1 O ad Ae O λa0=>AB O (Fv O (AB O (AA O ?_)))))
    obtain⟨ae,j,g⟩:=bd g
    refine AV 10 60 (.bool ae) ?_ ?_
    ·cases H:(decide (b.X≤ab.X))
     ·have j:=GM H j
      refine AB O (AD IK O (AB O (AT A6 c O mh O Ae O (AB O (AA O (AB O (AA O (AB O (Cz O (AB O ?_))))))))))
      obtain⟨a1,I,j⟩:=bd j
      refine A9 O O (d.mono' (p.trans (s.trans y))) H5 I O λa2 af=>AB O (Af O af Kr IK O λa3 ag=>AB O (Ag A6 c.1 O ag Ae O λa4=>AB O (Ao O (AB O (AJ O ?_)))))
      cases j
      exact AU O
     have j:=GL H j
     cases j
     exact Aa O O
    refine AJ O ?_
    cases g
    exact AU O
   refine AM (kp [61,14,13,0,15] O) (AX O E (λah E=>?_) (λah E=>?_))
   ·refine AH (AL O (kp [2] O) (Ad (λt u m o=>?_)))
    have J:=c.drop .head
    cases E
    exact Dr m o O O (p.trans (s.trans y)) ⟨O,J⟩
   refine AO (BP (BY (.inl O) (Ai O (AA O (AM (kp [15,14,13,0] O) (WF.nil (λt u m o=>?_)))))))
   have K:=c.drop .head
   exact⟨(BM (z+1)),_,_,m.sub (kp [14,13,0,15] O),o,K,(p.trans (s.trans y)),(BG _),E⟩
  refine BA O (λt u m o=>?_)
  exact⟨_,_,m.sub Ov,o,x,p,E⟩
 rintro t u ⟨a5,a6,m,o,M,ai,E⟩
 refine Ac ?_ m o
 clear m o u t
 rw[Hk] at E
 refine AH (AL O (kp [2] O) (Ad (λt u m o=>?_)))
 cases E
 exact Dr m o O O ai ⟨O,M⟩
end Go.Proofs.YtblcgjadhemlbaaGreat
