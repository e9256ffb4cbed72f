import Derived.Test.YtblcgjadhemlbaaGreatUWalk0
namespace Go.Proofs.YtblcgjadhemlbaaGreat
open Go.RowKit
set_option linter.unusedVariables false
set_option linter.unusedSimpArgs false
set_option maxRecDepth 10000
set_option maxHeartbeats 2000000
variable {N:Nat}{S:Nat→Prop}{L:List HP}{h:Av}
theorem OI (hs:St S L h) {b:ByteArray}(y:b.size≤maxLen) {r:Bool}(E:IU N b=some r):
 CG Tryz.prog 92 #[.string b] S h (λv S' h'=>v= .bool r∧St S' (L) h'):=by
 refine BB (l:=[.string b]) 54 Tryz.func92 O Tryz.ntmps92 O λB=>?_
 rw[IU] at E
 refine AI (AL O (kp [0] O) (AD (AI (AA O (N1 O QC O (Aq O (AA O (AV 4 12 (.bool ((decide ((↑b.size:Int)<1))||(decide (24<(↑b.size:Int))))) ?_ ?_))))))))
 ·cases c1:(decide ((↑b.size:Int)<1))
  ·exact AB O (AA O (AB O (N1 O QC O (AB O (Bh O (AJ O (AU O)))))))
  exact Aa O O
 refine AA O (AV 3 16 (.bool (((decide ((↑b.size:Int)<1))||(decide (24<(↑b.size:Int))))||(b==(ByteArray.mk #[111,117,116])))) ?_ ?_)
 ·cases c2:((decide ((↑b.size:Int)<1))||(decide (24<(↑b.size:Int))))
  ·exact AB O (AA O (AB O (TK O O O (AJ O (AU O)))))
  exact Aa O O
 refine AA O ?_
 obtain⟨F,d,E⟩:=bd E
 refine AV 4 21 (.bool F) ?_ ?_
 ·cases G:(((decide ((↑b.size:Int)<1))||(decide (24<(↑b.size:Int))))||(b==(ByteArray.mk #[111,117,116])))
  ·have d:=GB G d
   refine AB O (AA O (AB O ?_))
   obtain⟨z5,t,d⟩:=bd d
   have r6:=Nz t
   refine N3 O O QC t O (AB O (Aq O (AJ O ?_)))
   cases d
   exact AU O
  have d:=GA G d
  cases d
  exact Aa O O
 refine AA O ?_
 obtain⟨J,g,E⟩:=bd E
 refine AV 4 26 (.bool J) ?_ ?_
 ·cases H:F
  ·have g:=GB H g
   refine AB O (AA O (AB O ?_))
   obtain⟨z9,u,g⟩:=bd g
   have K:=Nz u
   refine N3 O O QC u O (AB O (Bh O (AJ O ?_)))
   cases g
   exact AU O
  have g:=GA H g
  cases g
  exact Aa O O
 refine AN (kp [26,0] O) (AX O E (λz E=>?_) (λz E=>?_))
 ·refine AI (AL O (kp [2] O) (Ac (λo p i j=>?_)))
  cases E
  exact Dm i j O O (B9.refl S h) ⟨O,hs⟩
 refine AT (AD (AI (AL O (kp [3,0] O) (Am (λa w=>IV B S h (54,[]) a w [] (L) λ_ _=>GI N=some r) ?_ ?_))))
 ·refine A3 (λI=>λa w=>∃(k:Int),IV B S h (54,[]) a w [(0,.string b),(3,vI k)] (L) λ_ _=>AG k∧EZ N b (GI N) I k=some r) N ?_ ?_ ?_
  ·intro o p i j
   exact⟨1,_,_,i.sub (kp [0,3] O),j,hs,(B9.refl S h),(iq (n:=1) O),E⟩
  ·rintro o p ⟨_,_,_,_,_,_,_,_,E⟩
   rw[EZ] at E;cases E
  rintro I o p ⟨k,M,Q,i,j,m,s,U,E⟩
  refine Ad ?_ i j
  clear i j p o
  rw[EZ] at E
  refine AD (AI (AA O (AA O (N1 O QC O (Aq O (AN (kp [30,0,3] O) (AX O E (λA E=>?_) (λA E=>?_))))))))
  ·refine AT (AD (A5 (AI (AA O (AA O ?_)))))
   obtain⟨c,q,E⟩:=bd E
   have V:=Nz q
   refine N3 O O QC q O (AL O (kp [4,0,3] O) (AI (AA O (Aq O (AA O (AV 3 41 (.bool ((decide (c<97))||(decide (122<c)))) ?_ ?_))))))
   ·cases W:(decide (c<97))
    ·exact AB O (AA O (AB O (Bh O (AJ O (AU O)))))
    exact Aa O O
   refine AA O (AV 7 49 (.bool (((decide (c<97))||(decide (122<c)))&&((decide (c<48))||(decide (57<c))))) ?_ ?_)
   ·cases X:((decide (c<97))||(decide (122<c)))
    ·exact Aa O O
    refine AB O (AA O (AB O (Aq O (AB O (AA O (AV 3 48 (.bool ((decide (c<48))||(decide (57<c)))) ?_ ?_))))))
    ·cases Y:(decide (c<48))
     ·exact AB O (AA O (AB O (Bh O (AB O (AJ O (AU O))))))
     exact Aa O O
    exact AJ O (AU O)
   refine AA O (AV 3 53 (.bool ((((decide (c<97))||(decide (122<c)))&&((decide (c<48))||(decide (57<c))))&&(decide (c≠95)))) ?_ ?_)
   ·cases Z:(((decide (c<97))||(decide (122<c)))&&((decide (c<48))||(decide (57<c))))
    ·exact Aa O O
    exact AB O (AA O (AB O (Bc O (AJ O (AU O)))))
   refine AN (kp [53,0,3] O) (AX O E (λC E=>?_) (λC E=>?_))
   ·refine AI (AL O (kp [2] O) (Ac (λo p i j=>?_)))
    cases E
    exact Dm i j O O s ⟨O,m⟩
   refine AT (BK (BY (.inl O) (AA O (Af O (AL O (kp [3,0] O) (WF.nil (λo p i j=>?_)))))))
   exact⟨(BC (k+1)),_,_,i.sub (kp [0,3] O),j,m,s,(BI _),E⟩
  refine A9 O (λo p i j=>?_)
  exact⟨_,_,i.sub Ou,j,m,s,E⟩
 rintro o p ⟨ab,ac,i,j,x,D,E⟩
 refine Ad ?_ i j
 clear i j p o
 rw[GI] at E
 refine AI (AL O (kp [2] O) (Ac (λo p i j=>?_)))
 cases E
 exact Dm i j O O D ⟨O,x⟩
theorem O0 {c:Nat}{d:(List (AQ×Bool))}(hs:St S (MP (λk:AQ=>Value.agg (AQ.v k).toArray) Value.bool c d::L) h) {g:ByteArray}(i:g.size≤maxLen) {b:ByteArray}(j:b.size≤maxLen) {r:Bool×(List (AQ×Bool))}(E:Iu N d g b=some r):
 CG Tryz.prog 71 #[.map (some c),.string g,.string b] S h (λv S' h'=>v= .bool r.1∧St S' (MP (λk:AQ=>Value.agg (AQ.v k).toArray) Value.bool c r.2::L) h'):=by
 refine BB (l:=[.map (some c),.string g,.string b]) 23 Tryz.func71 O Tryz.ntmps71 O λB=>?_
 rw[Iu] at E
 refine AI (AL O (kp [0,1,2] O) (AD (AI (AA O (TK O O O (AN (kp [9,0,1,2] O) (Gs (λa w=>∃(m:ByteArray),IV B S h (23,[]) a w [(0,.map (some c)),(2,.string b),(1,.string m)] (MP (λk:AQ=>Value.agg (AQ.v k).toArray) Value.bool c d::L) λ_ _=>m.size≤maxLen∧Gg N d b m=some r) ?_ ?_)))))))
 ·refine AX O E (λW E=>?_) (λW E=>?_)
  ·refine BY (.inl O) (AL O (kp [1,0,2] O) (WF.nil (λu y s t=>?_)))
   exact⟨(ByteArray.mk #[116,111,119,110]),_,_,s.sub (kp [0,2,1] O),t,hs,(B9.refl S h),(by decide),E⟩
  refine AT (WF.nil (λu y s t=>?_))
  exact⟨g,_,_,s.sub (kp [0,2,1] O),t,hs,(B9.refl S h),i,E⟩
 rintro u y ⟨m,S4,h5,s,t,M,V,r2,E⟩
 refine Ad ?_ s t
 clear s t y u
 rw[Gg] at E
 refine WF.sl (AH 3 (AA O (AA O (Hy (cs:=[.string m,.string b]) Zz O O O (AF (Cs Zn O M λb8 h9 A C=>Dh (vs:=[.string m,.string b]) O O O O TR O A .head O λX n D=>AZ (kp [7,0,2] O) (AD (AD (Bl (.inl O) n (AA O ?_))))))))))
 obtain⟨F,G,E⟩:=bd E
 refine Az O O O fF O (λh' o=>OI (St.all h') j G) (BV O (AA O (AV 4 20 (.bool ((!F)||((Oy (λk:AQ=>Value.agg (AQ.v k).toArray) d (⟨m,b⟩:AQ)).getD false))) ?_ ?_)))
 ·cases Y:(!F)
  ·exact AB O (AA O (AB O (DT (vs:=[.string m,.string b]) Bb n O mh O O TR O O (AB O (bT (k0:=(⟨m,b⟩:AQ)) (z:=false) Bb n (mt mh) O O Vr UY jC O O (AJ O (AU O)))))))
  exact Aa O O
 refine BJ (kp [20,7,0] O) λZ p H=>AX O E (λQ E=>?_) (λQ E=>?_)
 ·refine AI (AL O (kp [6] O) (Ac (λu y s t=>?_)))
  have I:=p.sel [1] 1 O
  cases E
  exact Dm s t O O (V.trans (C.trans (D.trans H))) ⟨O,I⟩
 refine AT (WF.sl (AH 2 (AA O (DT (vs:=[.string m,.string b]) A6 p O mh O O TR O O (AF (cH (k0:=(⟨m,b⟩:AQ)) (x:=true) p (.tail .head) O O O Vr UY λab J U=>AZ Ou (AI (AL O (kp [6] O) (Ac (λu y s t=>?_))))))))))
 have K:=J.sel [1] 1 O
 cases E
 exact Dm s t O O (V.trans (C.trans (D.trans (H.trans U)))) ⟨O,K⟩
theorem Dg {d:Nat}{c2_:(List (AQ×Bool))}{a:Nat}{g:Nat}{c3_:Bool}(hs:St S (Bx d 120 [.map (some a)]::MP (λk:AQ=>Value.agg (AQ.v k).toArray) Value.bool a c2_::Bx g 4 [.bool c3_]::L) h) {b:ByteArray}(i:b.size≤maxLen) {c:ByteArray}(j:c.size≤maxLen) {r:(List (AQ×Bool))×Bool}(E:CP N c2_ c3_ b c=some r):
 CG Tryz.prog 70 #[.string b,.string c,vP d 0,vP g 0] S h (λv S' h'=>v= .tuple #[]∧St S' (Bx d 120 [.map (some a)]::MP (λk:AQ=>Value.agg (AQ.v k).toArray) Value.bool a r.1::Bx g 4 [.bool r.2]::L) h'):=by
 refine BB (l:=[.string b,.string c,vP d 0,vP g 0]) 13 Tryz.func70 O Tryz.ntmps70 O λB=>?_
 rw[CP] at E
 refine EQ (AH 3 (AS A6 hs O mh O Vw O (AA O (AA O (AF ?_)))))
 have s:=hs.pick (.tail .head)
 obtain⟨t,u,E⟩:=bd E
 refine Cn O O O fP O (O0 s i j u) λA C D x p=>?_
 obtain⟨rfl,m⟩:=p
 refine AH 3 (AA O (AV 2 12 (.bool (t.1&&c3_)) ?_ ?_))
 ·cases F:t.1
  ·exact Aa O O
  exact AB O (AS A6 m O (mt (mt mh)) O Ol O (AJ O (AU O)))
 refine AF (Dh (vs:=[.bool (t.1&&c3_)]) O O O O Ol O m (.tail (.tail .head)) O λG n w=>AZ Ou (WF.nil (λH I y z=>?_)))
 have o:=n.sel [1,0,0] 0 O
 cases E
 exact J9 y O z J8 O (x.trans w) ⟨O,o⟩
theorem MW (hs:St S L h) {y:Value}{c:AW}(br:Rd S h B3 y c) {r:Bool}(E:Hx N c=some r):
 CG Tryz.prog 48 #[y] S h (λv S' h'=>v= .bool r∧St S' (L) h'):=by
 refine BB (l:=[y]) 106 Tryz.func48 O Tryz.ntmps48 O λB=>?_
 rw[Hx] at E
 refine WF.sl (B5 O br (λe=>by cases e) O hs λq1 S2 h3 f6 e5 k6=>AH 1 (AY O (AF (AZ (kp [1] O) (WF.sl (cI (K:=0) (E:=0) O f6 (λk:AQ=>Value.agg (AQ.v k).toArray) Value.bool λt h8 f7 d2=>Cs Zq O f7 λo jw d3 d4=>Dh (vs:=[.map (some t)]) O O O O Vw O d3 .head O λjx d5 d6=>AZ (kp [3,1] O) (WF.sl (Cs jD O d5 λi jy d7 d8=>Dh (vs:=[.bool true]) O O O O Ol O d7 .head O λcw bw d9=>AZ (kp [4,3,1] O) (AI (OL O O O (AL O (kp [5,4,1] O) (AD (AI ?_)))))))))))))
 have ea:=k6.mono (d2.trans (d4.trans (d6.trans (d8.trans d9))))
 refine Ai O ea Dl HS O λjz f8=>An A6 bw.1 O f8 KE O λf9 eb=>Al O eb Jv O λj0=>AA O (AN (kp [25,24,23,5,4,1] O) (Am (λa w=>∃(bs:Bool) (bt:(List (AQ×Bool))),IV B S2 cw (106,[]) a w [(5,.func (.func 70) #[] #[vP o 0,vP i 0]),(4,vP i 0),(1,q1)] (Bx i 4 [.bool bs]::Bx o 120 [.map (some t)]::MP (λk:AQ=>Value.agg (AQ.v k).toArray) Value.bool t bt::L) λ_ _=>Dv N c bs bt=some r) ?_ ?_))
 ·refine A3 (λn1=>λa w=>∃(ao:Int) (ap:Bool) (aq:(List (AQ×Bool))),IV B S2 cw (106,[]) a w [(24,vI (↑c.Owners.length:Int)),(23,f9),(5,.func (.func 70) #[] #[vP o 0,vP i 0]),(4,vP i 0),(1,q1),(25,vI ao)] (Bx i 4 [.bool ap]::Bx o 120 [.map (some t)]::MP (λk:AQ=>Value.agg (AQ.v k).toArray) Value.bool t aq::L) λ_ _=>AG ao∧Cm N c (Dv N c) n1 ao ap aq=some r) N ?_ ?_ ?_
  ·intro j m d g
   exact⟨0,true,([]:(List (AQ×Bool))),_,_,d.sub (kp [24,23,5,4,1,25] O),g,bw,(B9.refl S2 cw),(iq (n:=0) O),E⟩
  ·rintro j m ⟨_,_,_,_,_,_,_,_,_,_,E⟩
   rw[Cm] at E;cases E
  rintro n1 j m ⟨ao,ap,aq,j1,j2,d,g,ar,cx,j3,E⟩
  refine Ad ?_ d g
  clear d g m j
  rw[Cm] at E
  refine AI (Aq O (AN (kp [26,24,23,5,4,1,25] O) (AD (AX O E (λga E=>?_) (λga E=>?_)))))
  ·refine AT (AD (A5 (AI ?_)))
   obtain⟨j4,ec,E⟩:=bd E
   refine BD O O (eb.mono' cx) Jv ec O λj5 gb=>R3 A6 ar.1 O gb QD O λgc=>AL O (kp [7,24,23,5,4,1,25] O) (EQ (AH 2 (AA O (AA O (AF ?_)))))
   have ed:=ar.sel [1,1,0] 0 O
   obtain⟨ee,ef,E⟩:=bd E
   refine Cn O O O Pz O (Dg (c2_:=aq) (c3_:=ap) ed (by decide) gc ef) λj6 j7 j8 gd p=>?_
   obtain⟨rfl,eg⟩:=p
   refine AZ (kp [24,23,5,4,1,25] O) (BK (BY (.inl O) (Af O (AA O (AN (kp [25,24,23,5,4,1] O) (WF.nil (λj m d g=>?_)))))))
   have eh:=eg.sel [2,0,0] 0 O
   exact⟨(BC (ao+1)),ee.2,ee.1,_,_,d.sub (kp [24,23,5,4,1,25] O),g,eh,(cx.trans gd),(BI _),E⟩
  refine A9 O (λj m d g=>?_)
  exact⟨ap,aq,_,_,d.sub (kp [5,4,1] O),g,ar,cx,E⟩
 rintro j m ⟨bs,bt,cy,cz,d,g,bx,ei,E⟩
 refine Ad ?_ d g
 clear d g m j
 rw[Dv] at E
 refine AD (AI ?_)
 have ej:=ea.mono ei
 refine Ai O ej BU DI O λj9 ge=>An A6 bx.1 O ge GO O λgf ek=>Al O ek qZ O λka=>AA O (AN (kp [36,35,34,5,4,1] O) (Am (λa w=>∃(bu:Bool) (bv:(List (AQ×Bool))),IV B cy cz (106,[]) a w [(5,.func (.func 70) #[] #[vP o 0,vP i 0]),(4,vP i 0),(1,q1)] (Bx i 4 [.bool bu]::Bx o 120 [.map (some t)]::MP (λk:AQ=>Value.agg (AQ.v k).toArray) Value.bool t bv::L) λ_ _=>Du N c bu bv=some r) ?_ ?_))
 ·refine A3 (λn3=>λa w=>∃(au:Int) (av:Bool) (aw:(List (AQ×Bool))),IV B cy cz (106,[]) a w [(35,vI (↑c.Places.length:Int)),(34,gf),(5,.func (.func 70) #[] #[vP o 0,vP i 0]),(4,vP i 0),(1,q1),(36,vI au)] (Bx i 4 [.bool av]::Bx o 120 [.map (some t)]::MP (λk:AQ=>Value.agg (AQ.v k).toArray) Value.bool t aw::L) λ_ _=>AG au∧Ck N c (Du N c) n3 au av aw=some r) N ?_ ?_ ?_
  ·intro j m d g
   exact⟨0,bs,bt,_,_,d.sub (kp [35,34,5,4,1,36] O),g,bx,(B9.refl cy cz),(iq (n:=0) O),E⟩
  ·rintro j m ⟨_,_,_,_,_,_,_,_,_,_,E⟩
   rw[Ck] at E;cases E
  rintro n3 j m ⟨au,av,aw,kb,kc,d,g,ax,c0,kd,E⟩
  refine Ad ?_ d g
  clear d g m j
  rw[Ck] at E
  refine AI (Aq O (AN (kp [37,35,34,5,4,1,36] O) (AD (AX O E (λgg E=>?_) (λgg E=>?_)))))
  ·refine AT (AD (A5 (WF.sl (AH 2 ?_))))
   obtain⟨s,el,E⟩:=bd E
   refine BD O O (ek.mono' c0) qZ el O λke gh=>B4 A6 ax.1 O gh Jt (λe=>by cases e) O λkf gi=>AF (Cs OR O ax λkg kh em en=>?_)
   obtain⟨bz,b0,b1,rfl,gj,ki,kj,gl,eo,ep,gm,gn,gp,gq,gr,eq⟩:=Bw.ex (gi.mono en)
   refine HJ (vs:=[.string s.Name,vI s.Kind,vI s.Office,vI s.Cap,bz,b0,vI s.Num,vI s.Den,vI s.Down,vI s.Delay,vI s.Floor,b1]) (cs':=[.string s.Name,vI s.Kind,vI s.Office,vI s.Cap,bz,b0,vI s.Num,vI s.Den,vI s.Down,vI s.Delay,vI s.Floor,b1]) O O O (AE O (AE O (AE O (AE O (AE eo.one (AE ep.one (AE O (AE O (AE O (AE O (AE O (AE eq.one EA)))))))))))) Jt O em .head O O λgs ay er=>AZ (kp [9,35,34,5,4,1,36] O) (EQ (AH 3 (AA O (AC YZ O (AS A6 ay O mh O QD O (AF ?_))))))
   have c1:=ay.sel [2,2,1,0] 0 O
   obtain⟨b2,c2,E⟩:=bd E
   refine Cn O O O Pz O (Dg (c2_:=aw) (c3_:=av) c1 (by decide) gj c2) λgt gu gv es p=>?_
   obtain⟨rfl,c3⟩:=p
   refine AZ (kp [35,34,5,4,1,36] O) (BK (BY (.inl O) (Af O (AA O (AN (kp [36,35,34,5,4,1] O) (WF.nil (λj m d g=>?_)))))))
   have c4:=c3.sel [2,0,0] 1 O
   exact⟨(BC (au+1)),b2.2,b2.1,_,_,d.sub (kp [35,34,5,4,1,36] O),g,c4,(c0.trans (en.trans (er.trans es))),(BI _),E⟩
  refine A9 O (λj m d g=>?_)
  exact⟨av,aw,_,_,d.sub (kp [5,4,1] O),g,ax,c0,E⟩
 rintro j m ⟨bu,bv,az,a0,d,g,a1,b3,E⟩
 refine Ad ?_ d g
 clear d g m j
 rw[Du] at E
 refine AD (AI ?_)
 have b4:=ej.mono b3
 refine Ai O b4 Eo HA O λgw et=>An A6 a1.1 O et Ju O λeu b5=>Al O b5 H4 O λgx=>AA O (AN (kp [48,47,46,5,4,1] O) (Am (λa w=>∃(ae:Bool) (af:(List (AQ×Bool))),IV B az a0 (106,[]) a w [(5,.func (.func 70) #[] #[vP o 0,vP i 0]),(4,vP i 0),(1,q1)] (Bx i 4 [.bool ae]::Bx o 120 [.map (some t)]::MP (λk:AQ=>Value.agg (AQ.v k).toArray) Value.bool t af::L) λ_ _=>Dt N c ae af=some r) ?_ ?_))
 ·refine A3 (λn5=>λa w=>∃(z:Int) (A:Bool) (C:(List (AQ×Bool))),IV B az a0 (106,[]) a w [(47,vI (↑c.Links.length:Int)),(46,eu),(5,.func (.func 70) #[] #[vP o 0,vP i 0]),(4,vP i 0),(1,q1),(48,vI z)] (Bx i 4 [.bool A]::Bx o 120 [.map (some t)]::MP (λk:AQ=>Value.agg (AQ.v k).toArray) Value.bool t C::L) λ_ _=>AG z∧Cj N c (Dt N c) n5 z A C=some r) N ?_ ?_ ?_
  ·intro j m d g
   exact⟨0,bu,bv,_,_,d.sub (kp [47,46,5,4,1,48] O),g,a1,(B9.refl az a0),(iq (n:=0) O),E⟩
  ·rintro j m ⟨_,_,_,_,_,_,_,_,_,_,E⟩
   rw[Cj] at E;cases E
  rintro n5 j m ⟨z,A,C,gy,gz,d,g,Y,a2,g0,E⟩
  refine Ad ?_ d g
  clear d g m j
  rw[Cj] at E
  refine AI (Aq O (AN (kp [49,47,46,5,4,1,48] O) (AD (AX O E (λev E=>?_) (λev E=>?_)))))
  ·refine AT (AD (A5 (WF.sl (AH 2 ?_))))
   obtain⟨b,c5,E⟩:=bd E
   refine BD O O (b5.mono' a2) H4 c5 O λg1 ew=>B4 A6 Y.1 O ew HV (λe=>by cases e) O λg2 ey=>AF (Cs OQ O Y λg3 g4 c6 b6=>?_)
   obtain⟨b8,b9,ca,rfl,ez,g5,g6,g7,e0,e1,e2,g8,g9,ha,hb,hc,hd,he,hg,hh,hi,hj⟩:=Bu.ex (ey.mono b6)
   refine HJ (vs:=[.string b.Name,vI b.Kind,vI b.From,vI b.To,b8,b9,ca,vI b.Positions,vI b.Speed,vI b.Leak,vI b.Crest,vI b.Num,vI b.Den,vI b.Prime,vI b.Break,vI b.BackNum,vI b.BackDen,vI b.Delay]) (cs':=[.string b.Name,vI b.Kind,vI b.From,vI b.To,b8,b9,ca,vI b.Positions,vI b.Speed,vI b.Leak,vI b.Crest,vI b.Num,vI b.Den,vI b.Prime,vI b.Break,vI b.BackNum,vI b.BackDen,vI b.Delay]) O O O (AE O (AE O (AE O (AE O (AE e0.one (AE e1.one (AE e2.one (AE O (AE O (AE O (AE O (AE O (AE O (AE O (AE O (AE O (AE O (AE O EA)))))))))))))))))) HV O c6 .head O O λhk a3 e3=>AZ (kp [11,47,46,5,4,1,48] O) (EQ (AH 3 (AA O (AC YW O (AS A6 a3 O mh O QD O (AF ?_))))))
   have c7:=a3.sel [2,2,1,0] 0 O
   obtain⟨cb,c8,E⟩:=bd E
   refine Cn O O O Pz O (Dg (c2_:=C) (c3_:=A) c7 (by decide) ez c8) λhl hm hn e4 p=>?_
   obtain⟨rfl,c9⟩:=p
   refine AZ (kp [47,46,5,4,1,48] O) (BK (BY (.inl O) (Af O (AA O (AN (kp [48,47,46,5,4,1] O) (WF.nil (λj m d g=>?_)))))))
   have da:=c9.sel [2,0,0] 1 O
   exact⟨(BC (z+1)),cb.2,cb.1,_,_,d.sub (kp [47,46,5,4,1,48] O),g,da,(a2.trans (b6.trans (e3.trans e4))),(BI _),E⟩
  refine A9 O (λj m d g=>?_)
  exact⟨A,C,_,_,d.sub (kp [5,4,1] O),g,Y,a2,E⟩
 rintro j m ⟨ae,af,a4,a5,d,g,a6,cc,E⟩
 refine Ad ?_ d g
 clear d g m j
 rw[Dt] at E
 refine AD (AI ?_)
 have cd:=b4.mono cc
 refine Ai O cd Ia Nv O λho e6=>An A6 a6.1 O e6 SH O λe7 ce=>Al O ce PW O λhp=>AA O (AN (kp [60,59,58,5,4,1] O) (Am (λa w=>∃(ag:Bool) (ah:(List (AQ×Bool))),IV B a4 a5 (106,[]) a w [(5,.func (.func 70) #[] #[vP o 0,vP i 0]),(4,vP i 0),(1,q1)] (Bx i 4 [.bool ag]::Bx o 120 [.map (some t)]::MP (λk:AQ=>Value.agg (AQ.v k).toArray) Value.bool t ah::L) λ_ _=>Dr N c ag ah=some r) ?_ ?_))
 ·refine A3 (λn7=>λa w=>∃(D:Int) (F:Bool) (G:(List (AQ×Bool))),IV B a4 a5 (106,[]) a w [(59,vI (↑c.Towns.length:Int)),(58,e7),(5,.func (.func 70) #[] #[vP o 0,vP i 0]),(4,vP i 0),(1,q1),(60,vI D)] (Bx i 4 [.bool F]::Bx o 120 [.map (some t)]::MP (λk:AQ=>Value.agg (AQ.v k).toArray) Value.bool t G::L) λ_ _=>AG D∧Ci N c (Dr N c) n7 D F G=some r) N ?_ ?_ ?_
  ·intro j m d g
   exact⟨0,ae,af,_,_,d.sub (kp [59,58,5,4,1,60] O),g,a6,(B9.refl a4 a5),(iq (n:=0) O),E⟩
  ·rintro j m ⟨_,_,_,_,_,_,_,_,_,_,E⟩
   rw[Ci] at E;cases E
  rintro n7 j m ⟨D,F,G,hq,hr,d,g,Z,a7,ht,E⟩
  refine Ad ?_ d g
  clear d g m j
  rw[Ci] at E
  refine AI (Aq O (AN (kp [61,59,58,5,4,1,60] O) (AD (AX O E (λe8 E=>?_) (λe8 E=>?_)))))
  ·refine AT (AD (A5 (WF.sl (AH 2 ?_))))
   obtain⟨u,db,E⟩:=bd E
   refine BD O O (ce.mono' a7) PW db O λhu e9=>B4 A6 Z.1 O e9 Q8 (λe=>by cases e) O λhv fb=>AF (Cs Vk O Z λhx hy dc cf=>?_)
   obtain⟨rfl,⟨fc,hz,h0,h1,h2,h4,h5⟩⟩:=GL.ex (fb.mono cf)
   refine Dh (vs:=[.string u.Name,vI u.Place,vI u.Flood,vI u.Lead,vI u.People,vI u.Watch,vI u.Quorum]) O O O O Q8 O dc .head O λh6 a8 fd=>AZ (kp [13,59,58,5,4,1,60] O) (EQ (AH 3 (AA O (AC XA O (AS A6 a8 O mh O QD O (AF ?_))))))
   have dd:=a8.sel [2,2,1,0] 0 O
   obtain⟨cg,de,E⟩:=bd E
   refine Cn O O O Pz O (Dg (c2_:=G) (c3_:=F) dd (by decide) fc de) λh7 h9 ia fe p=>?_
   obtain⟨rfl,df⟩:=p
   refine AZ (kp [59,58,5,4,1,60] O) (BK (BY (.inl O) (Af O (AA O (AN (kp [60,59,58,5,4,1] O) (WF.nil (λj m d g=>?_)))))))
   have dg:=df.sel [2,0,0] 1 O
   exact⟨(BC (D+1)),cg.2,cg.1,_,_,d.sub (kp [59,58,5,4,1,60] O),g,dg,(a7.trans (cf.trans (fd.trans fe))),(BI _),E⟩
  refine A9 O (λj m d g=>?_)
  exact⟨F,G,_,_,d.sub (kp [5,4,1] O),g,Z,a7,E⟩
 rintro j m ⟨ag,ah,a9,ba,d,g,bb,ch,E⟩
 refine Ad ?_ d g
 clear d g m j
 rw[Dr] at E
 refine AD (AI ?_)
 have ci:=cd.mono ch
 refine Ai O ci IK PL O λib ff=>An A6 bb.1 O ff T9 O λfg cj=>Al O cj Qc O λic=>AA O (AN (kp [72,71,70,5,4,1] O) (Am (λa w=>∃(ai:Bool) (aj:(List (AQ×Bool))),IV B a9 ba (106,[]) a w [(5,.func (.func 70) #[] #[vP o 0,vP i 0]),(4,vP i 0),(1,q1)] (Bx i 4 [.bool ai]::Bx o 120 [.map (some t)]::MP (λk:AQ=>Value.agg (AQ.v k).toArray) Value.bool t aj::L) λ_ _=>Dq N c ai aj=some r) ?_ ?_))
 ·refine A3 (λn9=>λa w=>∃(H:Int) (I:Bool) (J:(List (AQ×Bool))),IV B a9 ba (106,[]) a w [(71,vI (↑c.Shelters.length:Int)),(70,fg),(5,.func (.func 70) #[] #[vP o 0,vP i 0]),(4,vP i 0),(1,q1),(72,vI H)] (Bx i 4 [.bool I]::Bx o 120 [.map (some t)]::MP (λk:AQ=>Value.agg (AQ.v k).toArray) Value.bool t J::L) λ_ _=>AG H∧Ch N c (Dq N c) n9 H I J=some r) N ?_ ?_ ?_
  ·intro j m d g
   exact⟨0,ag,ah,_,_,d.sub (kp [71,70,5,4,1,72] O),g,bb,(B9.refl a9 ba),(iq (n:=0) O),E⟩
  ·rintro j m ⟨_,_,_,_,_,_,_,_,_,_,E⟩
   rw[Ch] at E;cases E
  rintro n9 j m ⟨H,I,J,id,ie,d,g,ab,bc,ig,E⟩
  refine Ad ?_ d g
  clear d g m j
  rw[Ch] at E
  refine AI (Aq O (AN (kp [73,71,70,5,4,1,72] O) (AD (AX O E (λfh E=>?_) (λfh E=>?_)))))
  ·refine AT (AD (A5 (WF.sl (AH 2 ?_))))
   obtain⟨ck,dh,E⟩:=bd E
   refine BD O O (cj.mono' bc) Qc dh O λih fi=>B4 A6 ab.1 O fi Q7 (λe=>by cases e) O λii fj=>AF (Cs Vj O ab λij ik di cl=>?_)
   obtain⟨rfl,⟨fk,il⟩⟩:=Cr.ex (fj.mono cl)
   refine Dh (vs:=[.string ck.Name,vI ck.Room]) O O O O Q7 O di .head O λim be fl=>AZ (kp [15,71,70,5,4,1,72] O) (EQ (AH 3 (AA O (AC W3 O (AS A6 be O mh O QD O (AF ?_))))))
   have dj:=be.sel [2,2,1,0] 0 O
   obtain⟨cm,dk,E⟩:=bd E
   refine Cn O O O Pz O (Dg (c2_:=J) (c3_:=I) dj (by decide) fk dk) λio ip ir fm p=>?_
   obtain⟨rfl,dl⟩:=p
   refine AZ (kp [71,70,5,4,1,72] O) (BK (BY (.inl O) (Af O (AA O (AN (kp [72,71,70,5,4,1] O) (WF.nil (λj m d g=>?_)))))))
   have dm:=dl.sel [2,0,0] 1 O
   exact⟨(BC (H+1)),cm.2,cm.1,_,_,d.sub (kp [71,70,5,4,1,72] O),g,dm,(bc.trans (cl.trans (fl.trans fm))),(BI _),E⟩
  refine A9 O (λj m d g=>?_)
  exact⟨I,J,_,_,d.sub (kp [5,4,1] O),g,ab,bc,E⟩
 rintro j m ⟨ai,aj,bf,bg,d,g,bh,cn,E⟩
 refine Ad ?_ d g
 clear d g m j
 rw[Dq] at E
 refine AD (AI ?_)
 have co:=ci.mono cn
 refine Ai O co KD Rl O λit fn=>An A6 bh.1 O fn Vu O λfo cp=>Al O cp SS O λiu=>AA O (AN (kp [84,83,82,5,4,1] O) (Am (λa w=>∃(ak:Bool) (am:(List (AQ×Bool))),IV B bf bg (106,[]) a w [(5,.func (.func 70) #[] #[vP o 0,vP i 0]),(4,vP i 0),(1,q1)] (Bx i 4 [.bool ak]::Bx o 120 [.map (some t)]::MP (λk:AQ=>Value.agg (AQ.v k).toArray) Value.bool t am::L) λ_ _=>De N c ak am=some r) ?_ ?_))
 ·refine A3 (λfp=>λa w=>∃(M:Int) (Q:Bool) (U:(List (AQ×Bool))),IV B bf bg (106,[]) a w [(83,vI (↑c.Gauges.length:Int)),(82,fo),(5,.func (.func 70) #[] #[vP o 0,vP i 0]),(4,vP i 0),(1,q1),(84,vI M)] (Bx i 4 [.bool Q]::Bx o 120 [.map (some t)]::MP (λk:AQ=>Value.agg (AQ.v k).toArray) Value.bool t U::L) λ_ _=>AG M∧CY N c (De N c) fp M Q U=some r) N ?_ ?_ ?_
  ·intro j m d g
   exact⟨0,ai,aj,_,_,d.sub (kp [83,82,5,4,1,84] O),g,bh,(B9.refl bf bg),(iq (n:=0) O),E⟩
  ·rintro j m ⟨_,_,_,_,_,_,_,_,_,_,E⟩
   rw[CY] at E;cases E
  rintro fp j m ⟨M,Q,U,iv,iw,d,g,ac,bi,iy,E⟩
  refine Ad ?_ d g
  clear d g m j
  rw[CY] at E
  refine AI (Aq O (AN (kp [85,83,82,5,4,1,84] O) (AD (AX O E (λfq E=>?_) (λfq E=>?_)))))
  ·refine AT (AD (A5 (WF.sl (AH 2 ?_))))
   obtain⟨V,dn,E⟩:=bd E
   refine BD O O (cp.mono' bi) SS dn O λiz fr=>B4 A6 ac.1 O fr Q6 (λe=>by cases e) O λi0 fs=>AF (Cs Vi O ac λi1 i2 dp cq=>?_)
   obtain⟨rfl,⟨ft,i3,i4,i5,i6⟩⟩:=EN.ex (fs.mono cq)
   refine Dh (vs:=[.string V.Name,vI V.Kind,vI V.Target,vI V.Err,vI V.Drift]) O O O O Q6 O dp .head O λi7 bj fu=>AZ (kp [17,83,82,5,4,1,84] O) (EQ (AH 3 (AA O (AC W1 O (AS A6 bj O mh O QD O (AF ?_))))))
   have dq:=bj.sel [2,2,1,0] 0 O
   obtain⟨cr,dr,E⟩:=bd E
   refine Cn O O O Pz O (Dg (c2_:=U) (c3_:=Q) dq (by decide) ft dr) λi8 i9 ja fv p=>?_
   obtain⟨rfl,ds⟩:=p
   refine AZ (kp [83,82,5,4,1,84] O) (BK (BY (.inl O) (Af O (AA O (AN (kp [84,83,82,5,4,1] O) (WF.nil (λj m d g=>?_)))))))
   have dt:=ds.sel [2,0,0] 1 O
   exact⟨(BC (M+1)),cr.2,cr.1,_,_,d.sub (kp [83,82,5,4,1,84] O),g,dt,(bi.trans (cq.trans (fu.trans fv))),(BI _),E⟩
  refine A9 O (λj m d g=>?_)
  exact⟨Q,U,_,_,d.sub (kp [5,4,1] O),g,ac,bi,E⟩
 rintro j m ⟨ak,am,bk,bl,d,g,bm,cs,E⟩
 refine Ad ?_ d g
 clear d g m j
 rw[De] at E
 refine AD (AI (Ai O (co.mono cs) Kr Rk O λjb fw=>An A6 bm.1 O fw Vt O λfx ct=>Al O ct SR O λjc=>AA O (AN (kp [96,95,94,5,4] O) (Am (λa w=>∃(bn:Bool),IV B bk bl (106,[]) a w [(4,vP i 0)] (Bx i 4 [.bool bn]::L) λ_ _=>Dd N bn=some r) ?_ ?_))))
 ·refine A3 (λfy=>λa w=>∃(W:Int) (X:Bool) (an:(List (AQ×Bool))),IV B bk bl (106,[]) a w [(95,vI (↑c.Roads.length:Int)),(94,fx),(5,.func (.func 70) #[] #[vP o 0,vP i 0]),(4,vP i 0),(96,vI W)] (Bx i 4 [.bool X]::Bx o 120 [.map (some t)]::MP (λk:AQ=>Value.agg (AQ.v k).toArray) Value.bool t an::L) λ_ _=>AG W∧CX N c (Dd N) fy W X an=some r) N ?_ ?_ ?_
  ·intro j m d g
   exact⟨0,ak,am,_,_,d.sub (kp [95,94,5,4,96] O),g,bm,(B9.refl bk bl),(iq (n:=0) O),E⟩
  ·rintro j m ⟨_,_,_,_,_,_,_,_,_,_,E⟩
   rw[CX] at E;cases E
  rintro fy j m ⟨W,X,an,jd,je,d,g,ad,bo,jf,E⟩
  refine Ad ?_ d g
  clear d g m j
  rw[CX] at E
  refine AI (Aq O (AN (kp [97,95,94,5,4,96] O) (AD (AX O E (λfz E=>?_) (λfz E=>?_)))))
  ·refine AT (AD (A5 (WF.sl (AH 2 ?_))))
   obtain⟨x,du,E⟩:=bd E
   refine BD O O (ct.mono' bo) SR du O λjg f0=>B4 A6 ad.1 O f0 Q5 (λe=>by cases e) O λjh f1=>AF (Cs Vh O ad λji jj dv cu=>?_)
   obtain⟨rfl,⟨f2,jk,jl,jm,jn,jo,jp⟩⟩:=F8.ex (f1.mono cu)
   refine Dh (vs:=[.string x.Name,vI x.From,vI x.To,vI x.Hours,vI x.Flow,vI x.By,vI x.Limit]) O O O O Q5 O dv .head O λjq bp f3=>AZ (kp [19,95,94,5,4,96] O) (EQ (AH 3 (AA O (AC Wx O (AS A6 bp O mh O QD O (AF ?_))))))
   have dw:=bp.sel [2,2,1,0] 0 O
   obtain⟨cv,dx,E⟩:=bd E
   refine Cn O O O Pz O (Dg (c2_:=an) (c3_:=X) dw (by decide) f2 dx) λjr js jt f4 p=>?_
   obtain⟨rfl,dy⟩:=p
   refine AZ (kp [95,94,5,4,96] O) (BK (BY (.inl O) (Af O (AA O (AN (kp [96,95,94,5,4] O) (WF.nil (λj m d g=>?_)))))))
   have dz:=dy.sel [2,0,0] 1 O
   exact⟨(BC (W+1)),cv.2,cv.1,_,_,d.sub (kp [95,94,5,4,96] O),g,dz,(bo.trans (cu.trans (f3.trans f4))),(BI _),E⟩
  refine A9 O (λj m d g=>?_)
  have d0:=ad.sel [0] 2 O
  exact⟨X,_,_,d.sub (kp [4] O),g,d0,bo,E⟩
 rintro j m ⟨bn,ju,jv,d,g,bq,f5,E⟩
 refine Ad ?_ d g
 clear d g m j
 rw[Dd] at E
 refine AI (AS A6 bq O mh O Ol O (AL O (kp [2] O) (Ac (λj m d g=>?_))))
 have d1:=bq.drop .head
 cases E
 exact Dm d g O O (e5.trans (d2.trans (d4.trans (d6.trans (d8.trans (d9.trans (ei.trans (b3.trans (cc.trans (ch.trans (cn.trans (cs.trans f5)))))))))))) ⟨O,d1⟩
theorem GJ (hs:St S L h) {i:Value}{k:(List BO)}(d:Sl S h Bq i k) {r:Bool}(E:El N k=some r):
 CG Tryz.prog 72 #[i] S h (λv S' h'=>v= .bool r∧St S' (L) h'):=by
 refine BB (l:=[i]) 63 Tryz.func72 O Tryz.ntmps72 O λB=>?_
 rw[El] at E
 refine AI (AL O (kp [0] O) (AD (AI (AA O (Al O d H3 O λb1=>Aq O (AA O (AV 4 12 (.bool ((decide ((↑k.length:Int)<1))||(decide (32<(↑k.length:Int))))) ?_ ?_)))))))
 ·cases c2:(decide ((↑k.length:Int)<1))
  ·exact AB O (AA O (AB O (Al O d H3 O λb3=>AB O (Bh O (AJ O (AU O))))))
  exact Aa O O
 refine AN (kp [12,0] O) (AX O E (λc4 E=>?_) (λc4 E=>?_))
 ·refine AI (AL O (kp [2] O) (Ac (λt u m o=>?_)))
  cases E
  exact Dm m o O O (B9.refl S h) ⟨O,hs⟩
 refine AT (AD (AI (AA O (Al O d H3 O λb5=>AA O (AN (kp [15,14,13,0] O) (Am (λa w=>IV B S h (63,[]) a w [] (L) λ_ _=>Hk N=some r) ?_ ?_))))))
 ·refine A3 (λn1=>λa w=>∃(z:Int),IV B S h (63,[]) a w [(14,vI (↑k.length:Int)),(13,i),(0,i),(15,vI z)] (L) λ_ _=>AG z∧Fo N k (Hk N) n1 z=some r) N ?_ ?_ ?_
  ·intro t u m o
   exact⟨0,_,_,m.sub (kp [14,13,0,15] O),o,hs,(B9.refl S h),(iq (n:=0) O),E⟩
  ·rintro t u ⟨_,_,_,_,_,_,_,_,E⟩
   rw[Fo] at E;cases E
  rintro n1 t u ⟨z,aj,ak,m,o,x,p,r9,E⟩
  refine Ad ?_ m o
  clear m o u t
  rw[Fo] at E
  refine AI (Aq O (AN (kp [16,14,13,0,15] O) (AD (AX O E (λQ E=>?_) (λQ E=>?_)))))
  ·refine AT (AD (A5 (WF.sl (AH 3 (AA O ?_)))))
   obtain⟨b,A,E⟩:=bd E
   refine BD O O (d.mono' p) H3 A O λam U=>B4 A6 x.1 O U OU (λe=>by cases e) O λan V=>AF (Cs T3 O x λao ap C s=>AH 1 (AY O (AF ?_)))
   obtain⟨rfl,⟨aq,ar⟩⟩:=Bq.ex (V.mono s)
   refine Dh (vs:=[vI b.X,vI b.Y]) O O O O OU O C .head O λau c y=>AZ (kp [3,4,14,13,0,15] O) (AD (AI (AC Iy O (AS A6 c O mh O Ag O (Aq O (AA O (AV 4 27 (.bool ((decide (b.X<0))||(decide (1125899906842624<b.X)))) ?_ ?_)))))))
   ·cases av:(decide (b.X<0))
    ·exact AB O (AC Iy O (AB O (AS A6 c O mh O Ag O (AB O (Bh O (AJ O (AU O)))))))
    exact Aa O O
   refine AA O (AV 4 32 (.bool (((decide (b.X<0))||(decide (1125899906842624<b.X)))||(decide (b.Y<0)))) ?_ ?_)
   ·cases aw:((decide (b.X<0))||(decide (1125899906842624<b.X)))
    ·exact AB O (AC IH O (AB O (AS A6 c O mh O Ag O (AB O (Aq O (AJ O (AU O)))))))
    exact Aa O O
   refine AA O (AV 4 37 (.bool ((((decide (b.X<0))||(decide (1125899906842624<b.X)))||(decide (b.Y<0)))||(decide (1125899906842624<b.Y)))) ?_ ?_)
   ·cases ax:(((decide (b.X<0))||(decide (1125899906842624<b.X)))||(decide (b.Y<0)))
    ·exact AB O (AC IH O (AB O (AS A6 c O mh O Ag O (AB O (Bh O (AJ O (AU O)))))))
    exact Aa O O
   refine AN (kp [37,3,4,14,13,0,15] O) (AX O E (λW E=>?_) (λW E=>?_))
   ·refine AI (AL O (kp [2] O) (Ac (λt u m o=>?_)))
    have D:=c.drop .head
    cases E
    exact Dm m o O O (p.trans (s.trans y)) ⟨O,D⟩
   refine AT (AD (BY (.inr ⟨mo,by kernel_rfl⟩) (AA O (Bh O (AA O ?_)))))
   obtain⟨Z,g,E⟩:=bd E
   refine AV 21 61 (.bool Z) ?_ ?_
   ·cases F:(decide (0<z))
    ·have g:=GB F g
     cases g
     exact Aa O O
    have g:=GA F g
    refine AB O (AC Iy O (AB O (AS A6 c O mh O Ag O (AB O (AA O (AB O (AA O (AB O (Cg O (AB O ?_))))))))))
    obtain⟨ab,G,g⟩:=bd g
    refine BD O O (d.mono' (p.trans (s.trans y))) H3 G O λay ac=>AB O (Ai O ac Kq Iy O λaz ad=>AB O (Ah A6 c.1 O ad Ag O λa0=>AB O (Ft O (AB O (AA O ?_)))))
    obtain⟨ae,j,g⟩:=bd g
    refine AV 10 60 (.bool ae) ?_ ?_
    ·cases H:(decide (b.X≤ab.X))
     ·have j:=GB H j
      refine AB O (AC IH O (AB O (AS A6 c O mh O Ag O (AB O (AA O (AB O (AA O (AB O (Cg O (AB O ?_))))))))))
      obtain⟨a1,I,j⟩:=bd j
      refine BD O O (d.mono' (p.trans (s.trans y))) H3 I O λa2 af=>AB O (Ai O af Kp IH O λa3 ag=>AB O (Ah A6 c.1 O ag Ag O λa4=>AB O (Aq O (AB O (AJ O ?_)))))
      cases j
      exact AU O
     have j:=GA H j
     cases j
     exact Aa O O
    refine AJ O ?_
    cases g
    exact AU O
   refine AN (kp [61,14,13,0,15] O) (AX O E (λah E=>?_) (λah E=>?_))
   ·refine AI (AL O (kp [2] O) (Ac (λt u m o=>?_)))
    have J:=c.drop .head
    cases E
    exact Dm m o O O (p.trans (s.trans y)) ⟨O,J⟩
   refine AT (BK (BY (.inl O) (Af O (AA O (AN (kp [15,14,13,0] O) (WF.nil (λt u m o=>?_)))))))
   have K:=c.drop .head
   exact⟨(BC (z+1)),_,_,m.sub (kp [14,13,0,15] O),o,K,(p.trans (s.trans y)),(BI _),E⟩
  refine A9 O (λt u m o=>?_)
  exact⟨_,_,m.sub Ou,o,x,p,E⟩
 rintro t u ⟨a5,a6,m,o,M,ai,E⟩
 refine Ad ?_ m o
 clear m o u t
 rw[Hk] at E
 refine AI (AL O (kp [2] O) (Ac (λt u m o=>?_)))
 cases E
 exact Dm m o O O ai ⟨O,M⟩
end Go.Proofs.YtblcgjadhemlbaaGreat
