import Derived.Test.YtblcgjadhemlbaaGreatRWalk0
namespace Go.Proofs.YtblcgjadhemlbaaGreat
open Go.RowKit
set_option linter.unusedVariables false
set_option linter.unusedSimpArgs false
set_option maxRecDepth 10000
set_option maxHeartbeats 2000000
variable {N:Nat}{S:Nat→Prop}{L:List HP}{h:Aw}
theorem OR (hs:St S L h) {b:ByteArray}(y:b.size≤maxLen) {r:Bool}(E:Ii N b=some r):
 CL Tryz.prog 92 #[.string b] S h (λv S' h'=>v= .bool r∧St S' (L) h'):=by
 refine BG (l:=[.string b]) 54 Tryz.func92 O Tryz.ntmps92 O λB=>?_
 rw[Ii] at E
 refine AI (AK O (kp [0] O) (AC (AI (AA O (N6 O QH O (Ar O (AA O (AV 4 12 (.bool ((decide ((↑b.size:Int)<1))||(decide (24<(↑b.size:Int))))) ?_ ?_))))))))
 ·cases c1:(decide ((↑b.size:Int)<1))
  ·exact AB O (AA O (AB O (N6 O QH O (AB O (Bf O (AJ O (AU O)))))))
  exact Aa O O
 refine AA O (AV 3 16 (.bool (((decide ((↑b.size:Int)<1))||(decide (24<(↑b.size:Int))))||(b==(ByteArray.mk #[111,117,116])))) ?_ ?_)
 ·cases c2:((decide ((↑b.size:Int)<1))||(decide (24<(↑b.size:Int))))
  ·exact AB O (AA O (AB O (TE O O O (AJ O (AU O)))))
  exact Aa O O
 refine AA O ?_
 obtain⟨F,d,E⟩:=bd E
 refine AV 4 21 (.bool F) ?_ ?_
 ·cases G:(((decide ((↑b.size:Int)<1))||(decide (24<(↑b.size:Int))))||(b==(ByteArray.mk #[111,117,116])))
  ·have d:=F5 G d
   refine AB O (AA O (AB O ?_))
   obtain⟨z5,t,d⟩:=bd d
   have r6:=N3 t
   refine N8 O O QH t O (AB O (Ar O (AJ O ?_)))
   cases d
   exact AU O
  have d:=Fy G d
  cases d
  exact Aa O O
 refine AA O ?_
 obtain⟨J,g,E⟩:=bd E
 refine AV 4 26 (.bool J) ?_ ?_
 ·cases H:F
  ·have g:=F5 H g
   refine AB O (AA O (AB O ?_))
   obtain⟨z9,u,g⟩:=bd g
   have K:=N3 u
   refine N8 O O QH u O (AB O (Bf O (AJ O ?_)))
   cases g
   exact AU O
  have g:=Fy H g
  cases g
  exact Aa O O
 refine AN (kp [26,0] O) (AW O E (λz E=>?_) (λz E=>?_))
 ·refine AI (AK O (kp [2] O) (Ad (λo p i j=>?_)))
  cases E
  exact Dx i j O O (CA.refl S h) ⟨O,hs⟩
 refine AQ (AC (AI (AK O (kp [3,0] O) (Am (λa w=>IV B S h (54,[]) a w [] (L) λ_ _=>GP N=some r) ?_ ?_))))
 ·refine A5 (λI=>λa w=>∃(k:Int),IV B S h (54,[]) a w [(0,.string b),(3,vI k)] (L) λ_ _=>AH k∧Ep N b (GP N) I k=some r) N ?_ ?_ ?_
  ·intro o p i j
   exact⟨1,_,_,i.sub (kp [0,3] O),j,hs,(CA.refl S h),(iq (n:=1) O),E⟩
  ·rintro o p ⟨_,_,_,_,_,_,_,_,E⟩
   rw[Ep] at E;cases E
  rintro I o p ⟨k,M,Q,i,j,m,s,U,E⟩
  refine Ac ?_ i j
  clear i j p o
  rw[Ep] at E
  refine AC (AI (AA O (AA O (N6 O QH O (Ar O (AN (kp [30,0,3] O) (AW O E (λA E=>?_) (λA E=>?_))))))))
  ·refine AQ (AC (BB (AI (AA O (AA O ?_)))))
   obtain⟨c,q,E⟩:=bd E
   have V:=N3 q
   refine N8 O O QH q O (AK O (kp [4,0,3] O) (AI (AA O (Ar O (AA O (AV 3 41 (.bool ((decide (c<97))||(decide (122<c)))) ?_ ?_))))))
   ·cases W:(decide (c<97))
    ·exact AB O (AA O (AB O (Bf O (AJ O (AU O)))))
    exact Aa O O
   refine AA O (AV 7 49 (.bool (((decide (c<97))||(decide (122<c)))&&((decide (c<48))||(decide (57<c))))) ?_ ?_)
   ·cases X:((decide (c<97))||(decide (122<c)))
    ·exact Aa O O
    refine AB O (AA O (AB O (Ar O (AB O (AA O (AV 3 48 (.bool ((decide (c<48))||(decide (57<c)))) ?_ ?_))))))
    ·cases Y:(decide (c<48))
     ·exact AB O (AA O (AB O (Bf O (AB O (AJ O (AU O))))))
     exact Aa O O
    exact AJ O (AU O)
   refine AA O (AV 3 53 (.bool ((((decide (c<97))||(decide (122<c)))&&((decide (c<48))||(decide (57<c))))&&(decide (c≠95)))) ?_ ?_)
   ·cases Z:(((decide (c<97))||(decide (122<c)))&&((decide (c<48))||(decide (57<c))))
    ·exact Aa O O
    exact AB O (AA O (AB O (Bt O (AJ O (AU O)))))
   refine AN (kp [53,0,3] O) (AW O E (λC E=>?_) (λC E=>?_))
   ·refine AI (AK O (kp [2] O) (Ad (λo p i j=>?_)))
    cases E
    exact Dx i j O O s ⟨O,m⟩
   refine AQ (BO (BZ (.inl O) (AA O (Ai O (AK O (kp [3,0] O) (WF.nil (λo p i j=>?_)))))))
   exact⟨(BD (k+1)),_,_,i.sub (kp [0,3] O),j,m,s,(BK _),E⟩
  refine BC O (λo p i j=>?_)
  exact⟨_,_,i.sub Oy,j,m,s,E⟩
 rintro o p ⟨ab,ac,i,j,x,D,E⟩
 refine Ac ?_ i j
 clear i j p o
 rw[GP] at E
 refine AI (AK O (kp [2] O) (Ad (λo p i j=>?_)))
 cases E
 exact Dx i j O O D ⟨O,x⟩
theorem O5 {c:Nat}{d:(List (AT×Bool))}(hs:St S (MP (λk:AT=>Value.agg (AT.v k).toArray) Value.bool c d::L) h) {g:ByteArray}(i:g.size≤maxLen) {b:ByteArray}(j:b.size≤maxLen) {r:Bool×(List (AT×Bool))}(E:JA N d g b=some r):
 CL Tryz.prog 71 #[.map (some c),.string g,.string b] S h (λv S' h'=>v= .bool r.1∧St S' (MP (λk:AT=>Value.agg (AT.v k).toArray) Value.bool c r.2::L) h'):=by
 refine BG (l:=[.map (some c),.string g,.string b]) 23 Tryz.func71 O Tryz.ntmps71 O λB=>?_
 rw[JA] at E
 refine AI (AK O (kp [0,1,2] O) (AC (AI (AA O (TE O O O (AN (kp [9,0,1,2] O) (Ge (λa w=>∃(m:ByteArray),IV B S h (23,[]) a w [(0,.map (some c)),(2,.string b),(1,.string m)] (MP (λk:AT=>Value.agg (AT.v k).toArray) Value.bool c d::L) λ_ _=>m.size≤maxLen∧Gr N d b m=some r) ?_ ?_)))))))
 ·refine AW O E (λW E=>?_) (λW E=>?_)
  ·refine BZ (.inl O) (AK O (kp [1,0,2] O) (WF.nil (λu y s t=>?_)))
   exact⟨(ByteArray.mk #[116,111,119,110]),_,_,s.sub (kp [0,2,1] O),t,hs,(CA.refl S h),(by decide),E⟩
  refine AQ (WF.nil (λu y s t=>?_))
  exact⟨g,_,_,s.sub (kp [0,2,1] O),t,hs,(CA.refl S h),i,E⟩
 rintro u y ⟨m,S4,h5,s,t,M,V,r2,E⟩
 refine Ac ?_ s t
 clear s t y u
 rw[Gr] at E
 refine WF.sl (AG 3 (AA O (AA O (HA (cs:=[.string m,.string b]) Zb O O O (AF (Cp ZP O M λb8 h9 A C=>Du (vs:=[.string m,.string b]) O O O O TL O A .head O λX n D=>AZ (kp [7,0,2] O) (AC (AC (Bq (.inl O) n (AA O ?_))))))))))
 obtain⟨F,G,E⟩:=bd E
 refine A6 O O O eF O (λh' o=>OR (St.all h') j G) (BY O (AA O (AV 4 20 (.bool ((!F)||((O1 (λk:AT=>Value.agg (AT.v k).toArray) d (⟨m,b⟩:AT)).getD false))) ?_ ?_)))
 ·cases Y:(!F)
  ·exact AB O (AA O (AB O (Db (vs:=[.string m,.string b]) Bd n O mh O O TL O O (AB O (aU (k0:=(⟨m,b⟩:AT)) (z:=false) Bd n (mt mh) O O VW UL iD O O (AJ O (AU O)))))))
  exact Aa O O
 refine BM (kp [20,7,0] O) λZ p H=>AW O E (λQ E=>?_) (λQ E=>?_)
 ·refine AI (AK O (kp [6] O) (Ad (λu y s t=>?_)))
  have I:=p.sel [1] 1 O
  cases E
  exact Dx s t O O (V.trans (C.trans (D.trans H))) ⟨O,I⟩
 refine AQ (WF.sl (AG 2 (AA O (Db (vs:=[.string m,.string b]) A9 p O mh O O TL O O (AF (bI (k0:=(⟨m,b⟩:AT)) (x:=true) p (.tail .head) O O O VW UL λab J U=>AZ Oy (AI (AK O (kp [6] O) (Ad (λu y s t=>?_))))))))))
 have K:=J.sel [1] 1 O
 cases E
 exact Dx s t O O (V.trans (C.trans (D.trans (H.trans U)))) ⟨O,K⟩
theorem Dt {d:Nat}{c2_:(List (AT×Bool))}{a:Nat}{g:Nat}{c3_:Bool}(hs:St S (Bx d 120 [.map (some a)]::MP (λk:AT=>Value.agg (AT.v k).toArray) Value.bool a c2_::Bx g 4 [.bool c3_]::L) h) {b:ByteArray}(i:b.size≤maxLen) {c:ByteArray}(j:c.size≤maxLen) {r:(List (AT×Bool))×Bool}(E:CV N c2_ c3_ b c=some r):
 CL Tryz.prog 70 #[.string b,.string c,vP d 0,vP g 0] S h (λv S' h'=>v= .tuple #[]∧St S' (Bx d 120 [.map (some a)]::MP (λk:AT=>Value.agg (AT.v k).toArray) Value.bool a r.1::Bx g 4 [.bool r.2]::L) h'):=by
 refine BG (l:=[.string b,.string c,vP d 0,vP g 0]) 13 Tryz.func70 O Tryz.ntmps70 O λB=>?_
 rw[CV] at E
 refine D3 (AG 3 (AS A9 hs O mh O Vc O (AA O (AA O (AF ?_)))))
 have s:=hs.pick (.tail .head)
 obtain⟨t,u,E⟩:=bd E
 refine Cv O O O eP O (O5 s i j u) λA C D x p=>?_
 obtain⟨rfl,m⟩:=p
 refine AG 3 (AA O (AV 2 12 (.bool (t.1&&c3_)) ?_ ?_))
 ·cases F:t.1
  ·exact Aa O O
  exact AB O (AS A9 m O (mt (mt mh)) O Oo O (AJ O (AU O)))
 refine AF (Du (vs:=[.bool (t.1&&c3_)]) O O O O Oo O m (.tail (.tail .head)) O λG n w=>AZ Oy (WF.nil (λH I y z=>?_)))
 have o:=n.sel [1,0,0] 0 O
 cases E
 exact KH y O z KG O (x.trans w) ⟨O,o⟩
theorem Mf (hs:St S L h) {y:Value}{c:AX}(br:Rd S h B1 y c) {r:Bool}(E:H5 N c=some r):
 CL Tryz.prog 48 #[y] S h (λv S' h'=>v= .bool r∧St S' (L) h'):=by
 refine BG (l:=[y]) 106 Tryz.func48 O Tryz.ntmps48 O λB=>?_
 rw[H5] at E
 refine WF.sl (B4 O br (λe=>by cases e) O hs λq1 S2 h3 f6 e5 k6=>AG 1 (AY O (AF (AZ (kp [1] O) (WF.sl (bJ (K:=0) (E:=0) O f6 (λk:AT=>Value.agg (AT.v k).toArray) Value.bool λt h8 f7 d2=>Cp ZS O f7 λo jv d3 d4=>Du (vs:=[.map (some t)]) O O O O Vc O d3 .head O λjw d5 d6=>AZ (kp [3,1] O) (WF.sl (Cp iE O d5 λi jx d7 d8=>Du (vs:=[.bool true]) O O O O Oo O d7 .head O λcw bw d9=>AZ (kp [4,3,1] O) (AI (OU O O O (AK O (kp [5,4,1] O) (AC (AI ?_)))))))))))))
 have ea:=k6.mono (d2.trans (d4.trans (d6.trans (d8.trans d9))))
 refine Ae O ea EQ H1 O λjy f8=>Ao A9 bw.1 O f8 Kj O λf9 eb=>An O eb KN O λjz=>AA O (AN (kp [25,24,23,5,4,1] O) (Am (λa w=>∃(bs:Bool) (bt:(List (AT×Bool))),IV B S2 cw (106,[]) a w [(5,.func (.func 70) #[] #[vP o 0,vP i 0]),(4,vP i 0),(1,q1)] (Bx i 4 [.bool bs]::Bx o 120 [.map (some t)]::MP (λk:AT=>Value.agg (AT.v k).toArray) Value.bool t bt::L) λ_ _=>D9 N c bs bt=some r) ?_ ?_))
 ·refine A5 (λn1=>λa w=>∃(ao:Int) (ap:Bool) (aq:(List (AT×Bool))),IV B S2 cw (106,[]) a w [(24,vI (↑c.Owners.length:Int)),(23,f9),(5,.func (.func 70) #[] #[vP o 0,vP i 0]),(4,vP i 0),(1,q1),(25,vI ao)] (Bx i 4 [.bool ap]::Bx o 120 [.map (some t)]::MP (λk:AT=>Value.agg (AT.v k).toArray) Value.bool t aq::L) λ_ _=>AH ao∧Cu N c (D9 N c) n1 ao ap aq=some r) N ?_ ?_ ?_
  ·intro j m d g
   exact⟨0,true,([]:(List (AT×Bool))),_,_,d.sub (kp [24,23,5,4,1,25] O),g,bw,(CA.refl S2 cw),(iq (n:=0) O),E⟩
  ·rintro j m ⟨_,_,_,_,_,_,_,_,_,_,E⟩
   rw[Cu] at E;cases E
  rintro n1 j m ⟨ao,ap,aq,j0,j1,d,g,ar,cx,j2,E⟩
  refine Ac ?_ d g
  clear d g m j
  rw[Cu] at E
  refine AI (Ar O (AN (kp [26,24,23,5,4,1,25] O) (AC (AW O E (λga E=>?_) (λga E=>?_)))))
  ·refine AQ (AC (BB (AI ?_)))
   obtain⟨j3,ec,E⟩:=bd E
   refine BE O O (eb.mono' cx) KN ec O λj4 gb=>Rz A9 ar.1 O gb QI O λgc=>AK O (kp [7,24,23,5,4,1,25] O) (D3 (AG 2 (AA O (AA O (AF ?_)))))
   have ed:=ar.sel [1,1,0] 0 O
   obtain⟨ee,ef,E⟩:=bd E
   refine Cv O O O P4 O (Dt (c2_:=aq) (c3_:=ap) ed (by decide) gc ef) λj5 j6 j7 gd p=>?_
   obtain⟨rfl,eg⟩:=p
   refine AZ (kp [24,23,5,4,1,25] O) (BO (BZ (.inl O) (Ai O (AA O (AN (kp [25,24,23,5,4,1] O) (WF.nil (λj m d g=>?_)))))))
   have eh:=eg.sel [2,0,0] 0 O
   exact⟨(BD (ao+1)),ee.2,ee.1,_,_,d.sub (kp [24,23,5,4,1,25] O),g,eh,(cx.trans gd),(BK _),E⟩
  refine BC O (λj m d g=>?_)
  exact⟨ap,aq,_,_,d.sub (kp [5,4,1] O),g,ar,cx,E⟩
 rintro j m ⟨bs,bt,cy,cz,d,g,bx,ei,E⟩
 refine Ac ?_ d g
 clear d g m j
 rw[D9] at E
 refine AC (AI ?_)
 have ej:=ea.mono ei
 refine Ae O ej BP C1 O λj8 ge=>Ao A9 bx.1 O ge F7 O λgf ek=>An O ek FA O λj9=>AA O (AN (kp [36,35,34,5,4,1] O) (Am (λa w=>∃(bu:Bool) (bv:(List (AT×Bool))),IV B cy cz (106,[]) a w [(5,.func (.func 70) #[] #[vP o 0,vP i 0]),(4,vP i 0),(1,q1)] (Bx i 4 [.bool bu]::Bx o 120 [.map (some t)]::MP (λk:AT=>Value.agg (AT.v k).toArray) Value.bool t bv::L) λ_ _=>D8 N c bu bv=some r) ?_ ?_))
 ·refine A5 (λn3=>λa w=>∃(au:Int) (av:Bool) (aw:(List (AT×Bool))),IV B cy cz (106,[]) a w [(35,vI (↑c.Places.length:Int)),(34,gf),(5,.func (.func 70) #[] #[vP o 0,vP i 0]),(4,vP i 0),(1,q1),(36,vI au)] (Bx i 4 [.bool av]::Bx o 120 [.map (some t)]::MP (λk:AT=>Value.agg (AT.v k).toArray) Value.bool t aw::L) λ_ _=>AH au∧Ct N c (D8 N c) n3 au av aw=some r) N ?_ ?_ ?_
  ·intro j m d g
   exact⟨0,bs,bt,_,_,d.sub (kp [35,34,5,4,1,36] O),g,bx,(CA.refl cy cz),(iq (n:=0) O),E⟩
  ·rintro j m ⟨_,_,_,_,_,_,_,_,_,_,E⟩
   rw[Ct] at E;cases E
  rintro n3 j m ⟨au,av,aw,ka,kb,d,g,ax,c0,kc,E⟩
  refine Ac ?_ d g
  clear d g m j
  rw[Ct] at E
  refine AI (Ar O (AN (kp [37,35,34,5,4,1,36] O) (AC (AW O E (λgg E=>?_) (λgg E=>?_)))))
  ·refine AQ (AC (BB (WF.sl (AG 2 ?_))))
   obtain⟨s,el,E⟩:=bd E
   refine BE O O (ek.mono' c0) FA el O λkd gh=>B8 A9 ax.1 O gh J4 (λe=>by cases e) O λke gi=>AF (Cp OZ O ax λkf kg em en=>?_)
   obtain⟨bz,b0,b1,rfl,gj,kh,ki,gk,eo,ep,gl,gm,gn,gp,gq,eq⟩:=B0.ex (gi.mono en)
   refine G7 (vs:=[.string s.Name,vI s.Kind,vI s.Office,vI s.Cap,bz,b0,vI s.Num,vI s.Den,vI s.Down,vI s.Delay,vI s.Floor,b1]) (cs':=[.string s.Name,vI s.Kind,vI s.Office,vI s.Cap,bz,b0,vI s.Num,vI s.Den,vI s.Down,vI s.Delay,vI s.Floor,b1]) O O O (AE O (AE O (AE O (AE O (AE eo.one (AE ep.one (AE O (AE O (AE O (AE O (AE O (AE eq.one EH)))))))))))) J4 O em .head O O λgr ay er=>AZ (kp [9,35,34,5,4,1,36] O) (D3 (AG 3 (AA O (AD YA O (AS A9 ay O mh O QI O (AF ?_))))))
   have c1:=ay.sel [2,2,1,0] 0 O
   obtain⟨b2,c2,E⟩:=bd E
   refine Cv O O O P4 O (Dt (c2_:=aw) (c3_:=av) c1 (by decide) gj c2) λgs gt gu es p=>?_
   obtain⟨rfl,c3⟩:=p
   refine AZ (kp [35,34,5,4,1,36] O) (BO (BZ (.inl O) (Ai O (AA O (AN (kp [36,35,34,5,4,1] O) (WF.nil (λj m d g=>?_)))))))
   have c4:=c3.sel [2,0,0] 1 O
   exact⟨(BD (au+1)),b2.2,b2.1,_,_,d.sub (kp [35,34,5,4,1,36] O),g,c4,(c0.trans (en.trans (er.trans es))),(BK _),E⟩
  refine BC O (λj m d g=>?_)
  exact⟨av,aw,_,_,d.sub (kp [5,4,1] O),g,ax,c0,E⟩
 rintro j m ⟨bu,bv,az,a0,d,g,a1,b3,E⟩
 refine Ac ?_ d g
 clear d g m j
 rw[D8] at E
 refine AC (AI ?_)
 have b4:=ej.mono b3
 refine Ae O b4 D1 Gc O λgv et=>Ao A9 a1.1 O et JR O λeu b5=>An O b5 Hf O λgw=>AA O (AN (kp [48,47,46,5,4,1] O) (Am (λa w=>∃(ae:Bool) (af:(List (AT×Bool))),IV B az a0 (106,[]) a w [(5,.func (.func 70) #[] #[vP o 0,vP i 0]),(4,vP i 0),(1,q1)] (Bx i 4 [.bool ae]::Bx o 120 [.map (some t)]::MP (λk:AT=>Value.agg (AT.v k).toArray) Value.bool t af::L) λ_ _=>D7 N c ae af=some r) ?_ ?_))
 ·refine A5 (λn5=>λa w=>∃(z:Int) (A:Bool) (C:(List (AT×Bool))),IV B az a0 (106,[]) a w [(47,vI (↑c.Links.length:Int)),(46,eu),(5,.func (.func 70) #[] #[vP o 0,vP i 0]),(4,vP i 0),(1,q1),(48,vI z)] (Bx i 4 [.bool A]::Bx o 120 [.map (some t)]::MP (λk:AT=>Value.agg (AT.v k).toArray) Value.bool t C::L) λ_ _=>AH z∧Cs N c (D7 N c) n5 z A C=some r) N ?_ ?_ ?_
  ·intro j m d g
   exact⟨0,bu,bv,_,_,d.sub (kp [47,46,5,4,1,48] O),g,a1,(CA.refl az a0),(iq (n:=0) O),E⟩
  ·rintro j m ⟨_,_,_,_,_,_,_,_,_,_,E⟩
   rw[Cs] at E;cases E
  rintro n5 j m ⟨z,A,C,gx,gy,d,g,Y,a2,gz,E⟩
  refine Ac ?_ d g
  clear d g m j
  rw[Cs] at E
  refine AI (Ar O (AN (kp [49,47,46,5,4,1,48] O) (AC (AW O E (λev E=>?_) (λev E=>?_)))))
  ·refine AQ (AC (BB (WF.sl (AG 2 ?_))))
   obtain⟨b,c5,E⟩:=bd E
   refine BE O O (b5.mono' a2) Hf c5 O λg0 ew=>B8 A9 Y.1 O ew Hd (λe=>by cases e) O λg1 ey=>AF (Cp OY O Y λg2 g3 c6 b6=>?_)
   obtain⟨b8,b9,ca,rfl,ez,g4,g5,g6,e0,e1,e2,g7,g8,g9,ha,hb,hc,hd,he,hg,hh,hi⟩:=Bu.ex (ey.mono b6)
   refine G7 (vs:=[.string b.Name,vI b.Kind,vI b.From,vI b.To,b8,b9,ca,vI b.Positions,vI b.Speed,vI b.Leak,vI b.Crest,vI b.Num,vI b.Den,vI b.Prime,vI b.Break,vI b.BackNum,vI b.BackDen,vI b.Delay]) (cs':=[.string b.Name,vI b.Kind,vI b.From,vI b.To,b8,b9,ca,vI b.Positions,vI b.Speed,vI b.Leak,vI b.Crest,vI b.Num,vI b.Den,vI b.Prime,vI b.Break,vI b.BackNum,vI b.BackDen,vI b.Delay]) O O O (AE O (AE O (AE O (AE O (AE e0.one (AE e1.one (AE e2.one (AE O (AE O (AE O (AE O (AE O (AE O (AE O (AE O (AE O (AE O (AE O EH)))))))))))))))))) Hd O c6 .head O O λhj a3 e3=>AZ (kp [11,47,46,5,4,1,48] O) (D3 (AG 3 (AA O (AD X7 O (AS A9 a3 O mh O QI O (AF ?_))))))
   have c7:=a3.sel [2,2,1,0] 0 O
   obtain⟨cb,c8,E⟩:=bd E
   refine Cv O O O P4 O (Dt (c2_:=C) (c3_:=A) c7 (by decide) ez c8) λhk hl hm e4 p=>?_
   obtain⟨rfl,c9⟩:=p
   refine AZ (kp [47,46,5,4,1,48] O) (BO (BZ (.inl O) (Ai O (AA O (AN (kp [48,47,46,5,4,1] O) (WF.nil (λj m d g=>?_)))))))
   have da:=c9.sel [2,0,0] 1 O
   exact⟨(BD (z+1)),cb.2,cb.1,_,_,d.sub (kp [47,46,5,4,1,48] O),g,da,(a2.trans (b6.trans (e3.trans e4))),(BK _),E⟩
  refine BC O (λj m d g=>?_)
  exact⟨A,C,_,_,d.sub (kp [5,4,1] O),g,Y,a2,E⟩
 rintro j m ⟨ae,af,a4,a5,d,g,a6,cc,E⟩
 refine Ac ?_ d g
 clear d g m j
 rw[D7] at E
 refine AC (AI ?_)
 have cd:=b4.mono cc
 refine Ae O cd Im Nz O λhn e6=>Ao A9 a6.1 O e6 SF O λe7 ce=>An O ce Pc O λho=>AA O (AN (kp [60,59,58,5,4,1] O) (Am (λa w=>∃(ag:Bool) (ah:(List (AT×Bool))),IV B a4 a5 (106,[]) a w [(5,.func (.func 70) #[] #[vP o 0,vP i 0]),(4,vP i 0),(1,q1)] (Bx i 4 [.bool ag]::Bx o 120 [.map (some t)]::MP (λk:AT=>Value.agg (AT.v k).toArray) Value.bool t ah::L) λ_ _=>D6 N c ag ah=some r) ?_ ?_))
 ·refine A5 (λn7=>λa w=>∃(D:Int) (F:Bool) (G:(List (AT×Bool))),IV B a4 a5 (106,[]) a w [(59,vI (↑c.Towns.length:Int)),(58,e7),(5,.func (.func 70) #[] #[vP o 0,vP i 0]),(4,vP i 0),(1,q1),(60,vI D)] (Bx i 4 [.bool F]::Bx o 120 [.map (some t)]::MP (λk:AT=>Value.agg (AT.v k).toArray) Value.bool t G::L) λ_ _=>AH D∧Cr N c (D6 N c) n7 D F G=some r) N ?_ ?_ ?_
  ·intro j m d g
   exact⟨0,ae,af,_,_,d.sub (kp [59,58,5,4,1,60] O),g,a6,(CA.refl a4 a5),(iq (n:=0) O),E⟩
  ·rintro j m ⟨_,_,_,_,_,_,_,_,_,_,E⟩
   rw[Cr] at E;cases E
  rintro n7 j m ⟨D,F,G,hp,hq,d,g,Z,a7,hr,E⟩
  refine Ac ?_ d g
  clear d g m j
  rw[Cr] at E
  refine AI (Ar O (AN (kp [61,59,58,5,4,1,60] O) (AC (AW O E (λe8 E=>?_) (λe8 E=>?_)))))
  ·refine AQ (AC (BB (WF.sl (AG 2 ?_))))
   obtain⟨u,db,E⟩:=bd E
   refine BE O O (ce.mono' a7) Pc db O λht e9=>B8 A9 Z.1 O e9 Q8 (λe=>by cases e) O λhu fb=>AF (Cp VR O Z λhv hx dc cf=>?_)
   obtain⟨rfl,⟨fc,hy,hz,h0,h1,h2,h4⟩⟩:=GT.ex (fb.mono cf)
   refine Du (vs:=[.string u.Name,vI u.Place,vI u.Flood,vI u.Lead,vI u.People,vI u.Watch,vI u.Quorum]) O O O O Q8 O dc .head O λh5 a8 fd=>AZ (kp [13,59,58,5,4,1,60] O) (D3 (AG 3 (AA O (AD Wo O (AS A9 a8 O mh O QI O (AF ?_))))))
   have dd:=a8.sel [2,2,1,0] 0 O
   obtain⟨cg,de,E⟩:=bd E
   refine Cv O O O P4 O (Dt (c2_:=G) (c3_:=F) dd (by decide) fc de) λh6 h7 h9 fe p=>?_
   obtain⟨rfl,df⟩:=p
   refine AZ (kp [59,58,5,4,1,60] O) (BO (BZ (.inl O) (Ai O (AA O (AN (kp [60,59,58,5,4,1] O) (WF.nil (λj m d g=>?_)))))))
   have dg:=df.sel [2,0,0] 1 O
   exact⟨(BD (D+1)),cg.2,cg.1,_,_,d.sub (kp [59,58,5,4,1,60] O),g,dg,(a7.trans (cf.trans (fd.trans fe))),(BK _),E⟩
  refine BC O (λj m d g=>?_)
  exact⟨F,G,_,_,d.sub (kp [5,4,1] O),g,Z,a7,E⟩
 rintro j m ⟨ag,ah,a9,ba,d,g,bb,ch,E⟩
 refine Ac ?_ d g
 clear d g m j
 rw[D6] at E
 refine AC (AI ?_)
 have ci:=cd.mono ch
 refine Ae O ci IU PQ O λia ff=>Ao A9 bb.1 O ff T0 O λfg cj=>An O cj Qc O λib=>AA O (AN (kp [72,71,70,5,4,1] O) (Am (λa w=>∃(ai:Bool) (aj:(List (AT×Bool))),IV B a9 ba (106,[]) a w [(5,.func (.func 70) #[] #[vP o 0,vP i 0]),(4,vP i 0),(1,q1)] (Bx i 4 [.bool ai]::Bx o 120 [.map (some t)]::MP (λk:AT=>Value.agg (AT.v k).toArray) Value.bool t aj::L) λ_ _=>D5 N c ai aj=some r) ?_ ?_))
 ·refine A5 (λn9=>λa w=>∃(H:Int) (I:Bool) (J:(List (AT×Bool))),IV B a9 ba (106,[]) a w [(71,vI (↑c.Shelters.length:Int)),(70,fg),(5,.func (.func 70) #[] #[vP o 0,vP i 0]),(4,vP i 0),(1,q1),(72,vI H)] (Bx i 4 [.bool I]::Bx o 120 [.map (some t)]::MP (λk:AT=>Value.agg (AT.v k).toArray) Value.bool t J::L) λ_ _=>AH H∧Cq N c (D5 N c) n9 H I J=some r) N ?_ ?_ ?_
  ·intro j m d g
   exact⟨0,ag,ah,_,_,d.sub (kp [71,70,5,4,1,72] O),g,bb,(CA.refl a9 ba),(iq (n:=0) O),E⟩
  ·rintro j m ⟨_,_,_,_,_,_,_,_,_,_,E⟩
   rw[Cq] at E;cases E
  rintro n9 j m ⟨H,I,J,ic,id,d,g,ab,bc,ie,E⟩
  refine Ac ?_ d g
  clear d g m j
  rw[Cq] at E
  refine AI (Ar O (AN (kp [73,71,70,5,4,1,72] O) (AC (AW O E (λfh E=>?_) (λfh E=>?_)))))
  ·refine AQ (AC (BB (WF.sl (AG 2 ?_))))
   obtain⟨ck,dh,E⟩:=bd E
   refine BE O O (cj.mono' bc) Qc dh O λig fi=>B8 A9 ab.1 O fi Q7 (λe=>by cases e) O λih fj=>AF (Cp VQ O ab λii ij di cl=>?_)
   obtain⟨rfl,⟨fk,ik⟩⟩:=Cz.ex (fj.mono cl)
   refine Du (vs:=[.string ck.Name,vI ck.Room]) O O O O Q7 O di .head O λil be fl=>AZ (kp [15,71,70,5,4,1,72] O) (D3 (AG 3 (AA O (AD Wh O (AS A9 be O mh O QI O (AF ?_))))))
   have dj:=be.sel [2,2,1,0] 0 O
   obtain⟨cm,dk,E⟩:=bd E
   refine Cv O O O P4 O (Dt (c2_:=J) (c3_:=I) dj (by decide) fk dk) λim io ip fm p=>?_
   obtain⟨rfl,dl⟩:=p
   refine AZ (kp [71,70,5,4,1,72] O) (BO (BZ (.inl O) (Ai O (AA O (AN (kp [72,71,70,5,4,1] O) (WF.nil (λj m d g=>?_)))))))
   have dm:=dl.sel [2,0,0] 1 O
   exact⟨(BD (H+1)),cm.2,cm.1,_,_,d.sub (kp [71,70,5,4,1,72] O),g,dm,(bc.trans (cl.trans (fl.trans fm))),(BK _),E⟩
  refine BC O (λj m d g=>?_)
  exact⟨I,J,_,_,d.sub (kp [5,4,1] O),g,ab,bc,E⟩
 rintro j m ⟨ai,aj,bf,bg,d,g,bh,cn,E⟩
 refine Ac ?_ d g
 clear d g m j
 rw[D5] at E
 refine AC (AI ?_)
 have co:=ci.mono cn
 refine Ae O co KL Rl O λir fn=>Ao A9 bh.1 O fn Va O λfo cp=>An O cp SQ O λit=>AA O (AN (kp [84,83,82,5,4,1] O) (Am (λa w=>∃(ak:Bool) (am:(List (AT×Bool))),IV B bf bg (106,[]) a w [(5,.func (.func 70) #[] #[vP o 0,vP i 0]),(4,vP i 0),(1,q1)] (Bx i 4 [.bool ak]::Bx o 120 [.map (some t)]::MP (λk:AT=>Value.agg (AT.v k).toArray) Value.bool t am::L) λ_ _=>Dr N c ak am=some r) ?_ ?_))
 ·refine A5 (λfp=>λa w=>∃(M:Int) (Q:Bool) (U:(List (AT×Bool))),IV B bf bg (106,[]) a w [(83,vI (↑c.Gauges.length:Int)),(82,fo),(5,.func (.func 70) #[] #[vP o 0,vP i 0]),(4,vP i 0),(1,q1),(84,vI M)] (Bx i 4 [.bool Q]::Bx o 120 [.map (some t)]::MP (λk:AT=>Value.agg (AT.v k).toArray) Value.bool t U::L) λ_ _=>AH M∧Cf N c (Dr N c) fp M Q U=some r) N ?_ ?_ ?_
  ·intro j m d g
   exact⟨0,ai,aj,_,_,d.sub (kp [83,82,5,4,1,84] O),g,bh,(CA.refl bf bg),(iq (n:=0) O),E⟩
  ·rintro j m ⟨_,_,_,_,_,_,_,_,_,_,E⟩
   rw[Cf] at E;cases E
  rintro fp j m ⟨M,Q,U,iu,iv,d,g,ac,bi,iw,E⟩
  refine Ac ?_ d g
  clear d g m j
  rw[Cf] at E
  refine AI (Ar O (AN (kp [85,83,82,5,4,1,84] O) (AC (AW O E (λfq E=>?_) (λfq E=>?_)))))
  ·refine AQ (AC (BB (WF.sl (AG 2 ?_))))
   obtain⟨V,dn,E⟩:=bd E
   refine BE O O (cp.mono' bi) SQ dn O λiy fr=>B8 A9 ac.1 O fr Q6 (λe=>by cases e) O λiz fs=>AF (Cp VP O ac λi0 i1 dp cq=>?_)
   obtain⟨rfl,⟨ft,i2,i3,i4,i5⟩⟩:=Ed.ex (fs.mono cq)
   refine Du (vs:=[.string V.Name,vI V.Kind,vI V.Target,vI V.Err,vI V.Drift]) O O O O Q6 O dp .head O λi6 bj fu=>AZ (kp [17,83,82,5,4,1,84] O) (D3 (AG 3 (AA O (AD Wf O (AS A9 bj O mh O QI O (AF ?_))))))
   have dq:=bj.sel [2,2,1,0] 0 O
   obtain⟨cr,dr,E⟩:=bd E
   refine Cv O O O P4 O (Dt (c2_:=U) (c3_:=Q) dq (by decide) ft dr) λi7 i8 i9 fv p=>?_
   obtain⟨rfl,ds⟩:=p
   refine AZ (kp [83,82,5,4,1,84] O) (BO (BZ (.inl O) (Ai O (AA O (AN (kp [84,83,82,5,4,1] O) (WF.nil (λj m d g=>?_)))))))
   have dt:=ds.sel [2,0,0] 1 O
   exact⟨(BD (M+1)),cr.2,cr.1,_,_,d.sub (kp [83,82,5,4,1,84] O),g,dt,(bi.trans (cq.trans (fu.trans fv))),(BK _),E⟩
  refine BC O (λj m d g=>?_)
  exact⟨Q,U,_,_,d.sub (kp [5,4,1] O),g,ac,bi,E⟩
 rintro j m ⟨ak,am,bk,bl,d,g,bm,cs,E⟩
 refine Ac ?_ d g
 clear d g m j
 rw[Dr] at E
 refine AC (AI (Ae O (co.mono cs) Kz Rk O λja fw=>Ao A9 bm.1 O fw VZ O λfx ct=>An O ct SP O λjb=>AA O (AN (kp [96,95,94,5,4] O) (Am (λa w=>∃(bn:Bool),IV B bk bl (106,[]) a w [(4,vP i 0)] (Bx i 4 [.bool bn]::L) λ_ _=>Dq N bn=some r) ?_ ?_))))
 ·refine A5 (λfy=>λa w=>∃(W:Int) (X:Bool) (an:(List (AT×Bool))),IV B bk bl (106,[]) a w [(95,vI (↑c.Roads.length:Int)),(94,fx),(5,.func (.func 70) #[] #[vP o 0,vP i 0]),(4,vP i 0),(96,vI W)] (Bx i 4 [.bool X]::Bx o 120 [.map (some t)]::MP (λk:AT=>Value.agg (AT.v k).toArray) Value.bool t an::L) λ_ _=>AH W∧Ce N c (Dq N) fy W X an=some r) N ?_ ?_ ?_
  ·intro j m d g
   exact⟨0,ak,am,_,_,d.sub (kp [95,94,5,4,96] O),g,bm,(CA.refl bk bl),(iq (n:=0) O),E⟩
  ·rintro j m ⟨_,_,_,_,_,_,_,_,_,_,E⟩
   rw[Ce] at E;cases E
  rintro fy j m ⟨W,X,an,jc,jd,d,g,ad,bo,je,E⟩
  refine Ac ?_ d g
  clear d g m j
  rw[Ce] at E
  refine AI (Ar O (AN (kp [97,95,94,5,4,96] O) (AC (AW O E (λfz E=>?_) (λfz E=>?_)))))
  ·refine AQ (AC (BB (WF.sl (AG 2 ?_))))
   obtain⟨x,du,E⟩:=bd E
   refine BE O O (ct.mono' bo) SP du O λjf f0=>B8 A9 ad.1 O f0 Q5 (λe=>by cases e) O λjg f1=>AF (Cp VO O ad λjh ji dv cu=>?_)
   obtain⟨rfl,⟨f2,jj,jk,jl,jm,jn,jo⟩⟩:=Fv.ex (f1.mono cu)
   refine Du (vs:=[.string x.Name,vI x.From,vI x.To,vI x.Hours,vI x.Flow,vI x.By,vI x.Limit]) O O O O Q5 O dv .head O λjp bp f3=>AZ (kp [19,95,94,5,4,96] O) (D3 (AG 3 (AA O (AD Wa O (AS A9 bp O mh O QI O (AF ?_))))))
   have dw:=bp.sel [2,2,1,0] 0 O
   obtain⟨cv,dx,E⟩:=bd E
   refine Cv O O O P4 O (Dt (c2_:=an) (c3_:=X) dw (by decide) f2 dx) λjq jr js f4 p=>?_
   obtain⟨rfl,dy⟩:=p
   refine AZ (kp [95,94,5,4,96] O) (BO (BZ (.inl O) (Ai O (AA O (AN (kp [96,95,94,5,4] O) (WF.nil (λj m d g=>?_)))))))
   have dz:=dy.sel [2,0,0] 1 O
   exact⟨(BD (W+1)),cv.2,cv.1,_,_,d.sub (kp [95,94,5,4,96] O),g,dz,(bo.trans (cu.trans (f3.trans f4))),(BK _),E⟩
  refine BC O (λj m d g=>?_)
  have d0:=ad.sel [0] 2 O
  exact⟨X,_,_,d.sub (kp [4] O),g,d0,bo,E⟩
 rintro j m ⟨bn,jt,ju,d,g,bq,f5,E⟩
 refine Ac ?_ d g
 clear d g m j
 rw[Dq] at E
 refine AI (AS A9 bq O mh O Oo O (AK O (kp [2] O) (Ad (λj m d g=>?_))))
 have d1:=bq.drop .head
 cases E
 exact Dx d g O O (e5.trans (d2.trans (d4.trans (d6.trans (d8.trans (d9.trans (ei.trans (b3.trans (cc.trans (ch.trans (cn.trans (cs.trans f5)))))))))))) ⟨O,d1⟩
theorem GR (hs:St S L h) {i:Value}{k:(List BS)}(d:Sl S h Bv i k) {r:Bool}(E:E0 N k=some r):
 CL Tryz.prog 72 #[i] S h (λv S' h'=>v= .bool r∧St S' (L) h'):=by
 refine BG (l:=[i]) 63 Tryz.func72 O Tryz.ntmps72 O λB=>?_
 rw[E0] at E
 refine AI (AK O (kp [0] O) (AC (AI (AA O (An O d H8 O λb1=>Ar O (AA O (AV 4 12 (.bool ((decide ((↑k.length:Int)<1))||(decide (32<(↑k.length:Int))))) ?_ ?_)))))))
 ·cases c2:(decide ((↑k.length:Int)<1))
  ·exact AB O (AA O (AB O (An O d H8 O λb3=>AB O (Bf O (AJ O (AU O))))))
  exact Aa O O
 refine AN (kp [12,0] O) (AW O E (λc4 E=>?_) (λc4 E=>?_))
 ·refine AI (AK O (kp [2] O) (Ad (λt u m o=>?_)))
  cases E
  exact Dx m o O O (CA.refl S h) ⟨O,hs⟩
 refine AQ (AC (AI (AA O (An O d H8 O λb5=>AA O (AN (kp [15,14,13,0] O) (Am (λa w=>IV B S h (63,[]) a w [] (L) λ_ _=>Hr N=some r) ?_ ?_))))))
 ·refine A5 (λn1=>λa w=>∃(z:Int),IV B S h (63,[]) a w [(14,vI (↑k.length:Int)),(13,i),(0,i),(15,vI z)] (L) λ_ _=>AH z∧Ft N k (Hr N) n1 z=some r) N ?_ ?_ ?_
  ·intro t u m o
   exact⟨0,_,_,m.sub (kp [14,13,0,15] O),o,hs,(CA.refl S h),(iq (n:=0) O),E⟩
  ·rintro t u ⟨_,_,_,_,_,_,_,_,E⟩
   rw[Ft] at E;cases E
  rintro n1 t u ⟨z,aj,ak,m,o,x,p,r9,E⟩
  refine Ac ?_ m o
  clear m o u t
  rw[Ft] at E
  refine AI (Ar O (AN (kp [16,14,13,0,15] O) (AC (AW O E (λQ E=>?_) (λQ E=>?_)))))
  ·refine AQ (AC (BB (WF.sl (AG 3 (AA O ?_)))))
   obtain⟨b,A,E⟩:=bd E
   refine BE O O (d.mono' p) H8 A O λam U=>B8 A9 x.1 O U Ob (λe=>by cases e) O λan V=>AF (Cp Tu O x λao ap C s=>AG 1 (AY O (AF ?_)))
   obtain⟨rfl,⟨aq,ar⟩⟩:=Bv.ex (V.mono s)
   refine Du (vs:=[vI b.X,vI b.Y]) O O O O Ob O C .head O λau c y=>AZ (kp [3,4,14,13,0,15] O) (AC (AI (AD JD O (AS A9 c O mh O Ag O (Ar O (AA O (AV 4 27 (.bool ((decide (b.X<0))||(decide (1125899906842624<b.X)))) ?_ ?_)))))))
   ·cases av:(decide (b.X<0))
    ·exact AB O (AD JD O (AB O (AS A9 c O mh O Ag O (AB O (Bf O (AJ O (AU O)))))))
    exact Aa O O
   refine AA O (AV 4 32 (.bool (((decide (b.X<0))||(decide (1125899906842624<b.X)))||(decide (b.Y<0)))) ?_ ?_)
   ·cases aw:((decide (b.X<0))||(decide (1125899906842624<b.X)))
    ·exact AB O (AD IQ O (AB O (AS A9 c O mh O Ag O (AB O (Ar O (AJ O (AU O)))))))
    exact Aa O O
   refine AA O (AV 4 37 (.bool ((((decide (b.X<0))||(decide (1125899906842624<b.X)))||(decide (b.Y<0)))||(decide (1125899906842624<b.Y)))) ?_ ?_)
   ·cases ax:(((decide (b.X<0))||(decide (1125899906842624<b.X)))||(decide (b.Y<0)))
    ·exact AB O (AD IQ O (AB O (AS A9 c O mh O Ag O (AB O (Bf O (AJ O (AU O)))))))
    exact Aa O O
   refine AN (kp [37,3,4,14,13,0,15] O) (AW O E (λW E=>?_) (λW E=>?_))
   ·refine AI (AK O (kp [2] O) (Ad (λt u m o=>?_)))
    have D:=c.drop .head
    cases E
    exact Dx m o O O (p.trans (s.trans y)) ⟨O,D⟩
   refine AQ (AC (BZ (.inr ⟨mo,by kernel_rfl⟩) (AA O (Bf O (AA O ?_)))))
   obtain⟨Z,g,E⟩:=bd E
   refine AV 21 61 (.bool Z) ?_ ?_
   ·cases F:(decide (0<z))
    ·have g:=F5 F g
     cases g
     exact Aa O O
    have g:=Fy F g
    refine AB O (AD JD O (AB O (AS A9 c O mh O Ag O (AB O (AA O (AB O (AA O (AB O (Ck O (AB O ?_))))))))))
    obtain⟨ab,G,g⟩:=bd g
    refine BE O O (d.mono' (p.trans (s.trans y))) H8 G O λay ac=>AB O (Ae O ac Ky JD O λaz ad=>AB O (Af A9 c.1 O ad Ag O λa0=>AB O (GQ O (AB O (AA O ?_)))))
    obtain⟨ae,j,g⟩:=bd g
    refine AV 10 60 (.bool ae) ?_ ?_
    ·cases H:(decide (b.X≤ab.X))
     ·have j:=F5 H j
      refine AB O (AD IQ O (AB O (AS A9 c O mh O Ag O (AB O (AA O (AB O (AA O (AB O (Ck O (AB O ?_))))))))))
      obtain⟨a1,I,j⟩:=bd j
      refine BE O O (d.mono' (p.trans (s.trans y))) H8 I O λa2 af=>AB O (Ae O af Kx IQ O λa3 ag=>AB O (Af A9 c.1 O ag Ag O λa4=>AB O (Ar O (AB O (AJ O ?_)))))
      cases j
      exact AU O
     have j:=Fy H j
     cases j
     exact Aa O O
    refine AJ O ?_
    cases g
    exact AU O
   refine AN (kp [61,14,13,0,15] O) (AW O E (λah E=>?_) (λah E=>?_))
   ·refine AI (AK O (kp [2] O) (Ad (λt u m o=>?_)))
    have J:=c.drop .head
    cases E
    exact Dx m o O O (p.trans (s.trans y)) ⟨O,J⟩
   refine AQ (BO (BZ (.inl O) (Ai O (AA O (AN (kp [15,14,13,0] O) (WF.nil (λt u m o=>?_)))))))
   have K:=c.drop .head
   exact⟨(BD (z+1)),_,_,m.sub (kp [14,13,0,15] O),o,K,(p.trans (s.trans y)),(BK _),E⟩
  refine BC O (λt u m o=>?_)
  exact⟨_,_,m.sub Oy,o,x,p,E⟩
 rintro t u ⟨a5,a6,m,o,M,ai,E⟩
 refine Ac ?_ m o
 clear m o u t
 rw[Hr] at E
 refine AI (AK O (kp [2] O) (Ad (λt u m o=>?_)))
 cases E
 exact Dx m o O O ai ⟨O,M⟩
end Go.Proofs.YtblcgjadhemlbaaGreat
