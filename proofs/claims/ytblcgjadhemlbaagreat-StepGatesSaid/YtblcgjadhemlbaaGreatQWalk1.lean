import Derived.Test.YtblcgjadhemlbaaGreatQWalk0
namespace Go.Proofs.YtblcgjadhemlbaaGreat
open Go.RowKit
set_option linter.unusedVariables false
set_option linter.unusedSimpArgs false
set_option maxRecDepth 10000
set_option maxHeartbeats 2000000
variable {N:Nat}{S:Nat→Prop}{L:List HP}{h:Aq}
theorem Nq (hs:St S L h) {b:ByteArray}(x:b.size≤maxLen) {r:Bool}(E:H7 N b=some r):
 CG Tryz.prog 92 #[.string b] S h (λv S' h'=>v= .bool r∧St S' (L) h'):=by
 refine BC (l:=[.string b]) 54 Tryz.func92 O Tryz.ntmps92 O λB=>?_
 rw[H7] at E
 refine AA (AG (.inl O) (AF O O (AD (kp [0] O) (AA (AA (AG (.inl O) (AB O O (NW O PQ O (A0 O O O (AB O O (AV 4 12 (.bool ((decide ((↑b.size:Int)<1))||(decide (24<(↑b.size:Int))))) ?_ ?_)))))))))))
 ·cases Y:(decide ((↑b.size:Int)<1))
  ·exact AC O O O (AB O O (AC O O O (NW O PQ O (AC O O O (CE O O O (AO O O O (AU O)))))))
  exact Aa O O
 refine AB O O (AV 3 16 (.bool (((decide ((↑b.size:Int)<1))||(decide (24<(↑b.size:Int))))||(b==(ByteArray.mk #[111,117,116])))) ?_ ?_)
 ·cases Z:((decide ((↑b.size:Int)<1))||(decide (24<(↑b.size:Int))))
  ·exact AC O O O (AB O O (AC O O O (Rw O O O (AO O O O (AU O)))))
  exact Aa O O
 refine AB O O ?_
 obtain⟨z,d,E⟩:=bd E
 refine AV 4 21 (.bool z) ?_ ?_
 ·cases A:(((decide ((↑b.size:Int)<1))||(decide (24<(↑b.size:Int))))||(b==(ByteArray.mk #[111,117,116])))
  ·have d:=BV A d
   refine AC O O O (AB O O (AC O O O ?_))
   obtain⟨z5,s,d⟩:=bd d
   have r6:=NU s
   refine NY O O PQ s O (AC O O O (A0 O O O (AO O O O ?_)))
   cases d
   exact AU O
  have d:=BU A d
  cases d
  exact Aa O O
 refine AB O O ?_
 obtain⟨F,g,E⟩:=bd E
 refine AV 4 26 (.bool F) ?_ ?_
 ·cases C:z
  ·have g:=BV C g
   refine AC O O O (AB O O (AC O O O ?_))
   obtain⟨z9,t,g⟩:=bd g
   have G:=NU t
   refine NY O O PQ t O (AC O O O (CE O O O (AO O O O ?_)))
   cases g
   exact AU O
  have g:=BU C g
  cases g
  exact Aa O O
 refine AD (kp [26,0] O) (AW O (λm=>?_) (λm=>?_))
 ·have E:=BU m E
  refine AA (AG (.inl O) (AF O O (AD (kp [2] O) (Ab (λaa ww hf hw=>?_)))))
  cases E
  exact Dp hf hw O O (B8.refl S h) ⟨O,hs⟩
 have E:=BV m E
 refine AT (AA (AA (AG (.inl O) (AF O O (AD (kp [3,0] O) (Aj (λa w=>IV B S h (54,[]) a w [] (L) λ_ _=>Fx N=some r) ?_ ?_))))))
 ·refine Ay (λD=>λa w=>∃(i:Int),IV B S h (54,[]) a w [(0,.string b),(3,.int .i64 i)] (L) λ_ _=>AI i∧EW N b (Fx N) D i=some r) N ?_ ?_ ?_
  ·intro aa ww hf hw
   exact⟨1,_,_,hf.sub (kp [0,3] O),hw,hs,(B8.refl S h),(iq (n:=1) O),E⟩
  ·rintro aa ww ⟨_,_,_,_,_,_,_,_,E⟩
   rw[EW] at E;cases E
  rintro D aa ww ⟨i,H,I,hf,hw,j,o,J,E⟩
  refine Ad ?_ hf hw
  clear hf hw ww aa
  rw[EW] at E
  refine AA (AA (AG (.inl O) (AB O O (AB O O (NW O PQ O (A0 O O O (AD (kp [30,0,3] O) (AW O (λp=>?_) (λp=>?_)))))))))
  ·have E:=BU p E
   refine AT (AA (A6 (AA (AG (.inl O) (AB O O (AB O O ?_))))))
   obtain⟨c,k,E⟩:=bd E
   have K:=NU k
   refine NY O O PQ k O (AF O O (AD (kp [4,0,3] O) (AA (AG (.inl O) (AB O O (A0 O O O (AB O O (AV 3 41 (.bool ((decide (c<97))||(decide (122<c)))) ?_ ?_))))))))
   ·cases M:(decide (c<97))
    ·exact AC O O O (AB O O (AC O O O (CE O O O (AO O O O (AU O)))))
    exact Aa O O
   refine AB O O (AV 7 49 (.bool (((decide (c<97))||(decide (122<c)))&&((decide (c<48))||(decide (57<c))))) ?_ ?_)
   ·cases Q:((decide (c<97))||(decide (122<c)))
    ·exact Aa O O
    refine AC O O O (AB O O (AC O O O (A0 O O O (AC O O O (AB O O (AV 3 48 (.bool ((decide (c<48))||(decide (57<c)))) ?_ ?_))))))
    ·cases U:(decide (c<48))
     ·exact AC O O O (AB O O (AC O O O (CE O O O (AC O O O (AO O O O (AU O))))))
     exact Aa O O
    exact AO O O O (AU O)
   refine AB O O (AV 3 53 (.bool ((((decide (c<97))||(decide (122<c)))&&((decide (c<48))||(decide (57<c))))&&(decide (c≠95)))) ?_ ?_)
   ·cases V:(((decide (c<97))||(decide (122<c)))&&((decide (c<48))||(decide (57<c))))
    ·exact Aa O O
    exact AC O O O (AB O O (AC O O O (CH O O O (AO O O O (AU O)))))
   refine AD (kp [53,0,3] O) (AW O (λq=>?_) (λq=>?_))
   ·have E:=BU q E
    refine AA (AG (.inl O) (AF O O (AD (kp [2] O) (Ab (λaa ww hf hw=>?_)))))
    cases E
    exact Dp hf hw O O o ⟨O,j⟩
   have E:=BV q E
   refine AT (BJ (AG (.inl O) (AB O O (Ap O O O (AF O O (AD (kp [3,0] O) (WF.nil (λaa ww hf hw=>?_))))))))
   exact⟨(BD (i+1)),_,_,hf.sub (kp [0,3] O),hw,j,o,(BG _),E⟩
  have E:=BV p E
  refine BB O (λaa ww hf hw=>?_)
  exact⟨_,_,hf.sub OG,hw,j,o,E⟩
 rintro aa ww ⟨W,X,hf,hw,u,y,E⟩
 refine Ad ?_ hf hw
 clear hf hw ww aa
 rw[Fx] at E
 refine AA (AG (.inl O) (AF O O (AD (kp [2] O) (Ab (λaa ww hf hw=>?_)))))
 cases E
 exact Dp hf hw O O y ⟨O,u⟩
theorem OL {c:Nat}{d:(List (AQ×Bool))}(hs:St S (MP (λk:AQ=>Value.agg (AQ.v k).toArray) Value.bool c d::L) h) {g:ByteArray}(i:g.size≤maxLen) {b:ByteArray}(j:b.size≤maxLen) {r:Bool×(List (AQ×Bool))}(E:IY N d g b=some r):
 CG Tryz.prog 71 #[.map (some c),.string g,.string b] S h (λv S' h'=>v= .bool r.1∧St S' (MP (λk:AQ=>Value.agg (AQ.v k).toArray) Value.bool c r.2::L) h'):=by
 refine BC (l:=[.map (some c),.string g,.string b]) 23 Tryz.func71 O Tryz.ntmps71 O λB=>?_
 rw[IY] at E
 refine AA (AG (.inl O) (AF O O (AD (kp [0,1,2] O) (AA (AA (AG (.inl O) (AB O O (Rw O O O (AD (kp [9,0,1,2] O) (GW (λa w=>∃(m:ByteArray),IV B S h (23,[]) a w [(0,.map (some c)),(2,.string b),(1,.string m)] (MP (λk:AQ=>Value.agg (AQ.v k).toArray) Value.bool c d::L) λ_ _=>m.size≤maxLen∧GQ N d b m=some r) ?_ ?_))))))))))
 ·refine AW O (λK=>?_) (λK=>?_)
  ·have E:=BU K E
   refine AG (.inl O) (AF O O (AD (kp [1,0,2] O) (WF.nil (λaa ww hf hw=>?_))))
   exact⟨(ByteArray.mk #[116,111,119,110]),_,_,hf.sub (kp [0,2,1] O),hw,hs,(B8.refl S h),(by decide),E⟩
  have E:=BV K E
  refine AT (WF.nil (λaa ww hf hw=>?_))
  exact⟨g,_,_,hf.sub (kp [0,2,1] O),hw,hs,(B8.refl S h),i,E⟩
 rintro aa ww ⟨m,Z,h5,hf,hw,M,U,r2,E⟩
 refine Ad ?_ hf hw
 clear hf hw ww aa
 rw[GQ] at E
 refine AA (Am (AJ 3 (AB O O (AB O O (HX (cs:=[.string m,.string b]) YA O O O (AE (Cg Xz O M λb8 h9 t u=>DD (vs:=[.string m,.string b]) O O O O Rz O t .head O λV n y=>AX (kp [7,0,2] O) (AA (AA (Bn (.inl O) n (AB O O ?_)))))))))))
 obtain⟨A,C,E⟩:=bd E
 refine Aw O O O aI O (λh' o=>Nq (St.all h') j C) (Bv O O (AB O O (AV 4 20 (.bool ((!A)||((OJ (λk:AQ=>Value.agg (AQ.v k).toArray) d (⟨m,b⟩:AQ)).getD false))) ?_ ?_)))
 ·cases W:(!A)
  ·exact AC O O O (AB O O (AC O O O (Cj (vs:=[.string m,.string b]) BZ n O mh O O Rz O O (AC O O O (Y2 (k0:=(⟨m,b⟩:AQ)) (z:=false) BZ n (mt mh) O O UI S5 cT O O (AO O O O (AU O)))))))
  exact Aa O O
 refine BK (kp [20,7,0] O) λX p D=>AW O (λs=>?_) (λs=>?_)
 ·have E:=BU s E
  refine AA (AG (.inl O) (AF O O (AD (kp [6] O) (Ab (λaa ww hf hw=>?_)))))
  have F:=p.sel [1] 1 O
  cases E
  have G:=U.trans (u.trans (y.trans D))
  exact Dp hf hw O O G ⟨O,F⟩
 have E:=BV s E
 refine AT (AA (Am (AJ 2 (AB O O (Cj (vs:=[.string m,.string b]) A3 p O mh O O Rz O O (AE (Y8 (k0:=(⟨m,b⟩:AQ)) (x:=true) p (.tail .head) O O O UI S5 λY H Q=>AX OG (AA (AG (.inl O) (AF O O (AD (kp [6] O) (Ab (λaa ww hf hw=>?_)))))))))))))
 have I:=H.sel [1] 1 O
 cases E
 have J:=U.trans (u.trans (y.trans (D.trans Q)))
 exact Dp hf hw O O J ⟨O,I⟩
theorem De {d:Nat}{c2_:(List (AQ×Bool))}{a:Nat}{g:Nat}{c3_:Bool}(hs:St S (Bx d 120 [.map (some a)]::MP (λk:AQ=>Value.agg (AQ.v k).toArray) Value.bool a c2_::Bx g 4 [.bool c3_]::L) h) {b:ByteArray}(i:b.size≤maxLen) {c:ByteArray}(j:c.size≤maxLen) {r:(List (AQ×Bool))×Bool}(E:CQ N c2_ c3_ b c=some r):
 CG Tryz.prog 70 #[.string b,.string c,.pointer (some ⟨d,0,none⟩),.pointer (some ⟨g,0,none⟩)] S h (λv S' h'=>v= .tuple #[]∧St S' (Bx d 120 [.map (some a)]::MP (λk:AQ=>Value.agg (AQ.v k).toArray) Value.bool a r.1::Bx g 4 [.bool r.2]::L) h'):=by
 refine BC (l:=[.string b,.string c,.pointer (some ⟨d,0,none⟩),.pointer (some ⟨g,0,none⟩)]) 13 Tryz.func70 O Tryz.ntmps70 O λB=>?_
 rw[CQ] at E
 refine Am (AJ 3 (AS A3 hs O mh O UM O (AB O O (AB O O (AE ?_)))))
 have s:=hs.pick (.tail .head)
 obtain⟨t,u,E⟩:=bd E
 refine Cr O O O aS O (OL s i j u) λy z A x p=>?_
 obtain⟨rfl,m⟩:=p
 refine AJ 3 (AB O O (AV 2 12 (.bool (t.1&&c3_)) ?_ ?_))
 ·cases C:t.1
  ·exact Aa O O
  exact AC O O O (AS A3 m O (mt (mt mh)) O Ng O (AO O O O (AU O)))
 refine AE (DD (vs:=[.bool (t.1&&c3_)]) O O O O Ng O m (.tail (.tail .head)) O λD n w=>AX OG (WF.nil (λaa ww hf hw=>?_)))
 have o:=n.sel [1,0,0] 0 O
 cases E
 exact Jn hf O hw Jm O (x.trans w) ⟨O,o⟩
theorem L5 (hs:St S L h) {s:Value}{c:AZ}(bs:Rd S h B0 s c) {r:Bool}(E:HV N c=some r):
 CG Tryz.prog 48 #[s] S h (λv S' h'=>v= .bool r∧St S' (L) h'):=by
 refine BC (l:=[s]) 106 Tryz.func48 O Tryz.ntmps48 O λB=>?_
 rw[HV] at E
 refine AA (Am (B1 O bs (λe=>by cases e) O hs λq1 S2 h3 gn e5 k6=>AJ 1 (AF O O (AE (AX (kp [1] O) (AA (Am (Y9 (K:=0) (E:=0) O gn (λk:AQ=>Value.agg (AQ.v k).toArray) Value.bool λj h8 gp ec=>Cg X2 O gp λg kd ed ee=>DD (vs:=[.map (some j)]) O O O O UM O ed .head O λke ef eg=>AX (kp [3,1] O) (AA (Am (Cg cU O ef λd kf eh ei=>DD (vs:=[.bool true]) O O O O Ng O eh .head O λcx bx ej=>AX (kp [4,3,1] O) (AA (AG (.inl O) (Ns O O O (AF O O (AD (kp [5,4,1] O) (AA (AA (AG (.inl O) ?_)))))))))))))))))))
 have ek:=ec.trans (ee.trans (eg.trans (ei.trans ej)))
 have el:=k6.mono ek
 refine Ac O el EB HS O λkg gq=>Ah A3 bx.1 O gq J6 O λgr em=>Ag O em Js O λkh=>AB O O (AD (kp [25,24,23,5,4,1] O) (Aj (λa w=>∃(bt:Bool) (bu:(List (AQ×Bool))),IV B S2 cx (106,[]) a w [(5,.func (.func 70) #[] #[.pointer (some ⟨g,0,none⟩),.pointer (some ⟨d,0,none⟩)]),(4,.pointer (some ⟨d,0,none⟩)),(1,q1)] (Bx d 4 [.bool bt]::Bx g 120 [.map (some j)]::MP (λk:AQ=>Value.agg (AQ.v k).toArray) Value.bool j bu::L) λ_ _=>Dv N c bt bu=some r) ?_ ?_))
 ·refine Ay (λn1=>λa w=>∃(aj:Int) (ak:Bool) (am:(List (AQ×Bool))),IV B S2 cx (106,[]) a w [(24,.int .i64 (↑c.Owners.length:Int)),(23,gr),(5,.func (.func 70) #[] #[.pointer (some ⟨g,0,none⟩),.pointer (some ⟨d,0,none⟩)]),(4,.pointer (some ⟨d,0,none⟩)),(1,q1),(25,.int .i64 aj)] (Bx d 4 [.bool ak]::Bx g 120 [.map (some j)]::MP (λk:AQ=>Value.agg (AQ.v k).toArray) Value.bool j am::L) λ_ _=>AI aj∧Cp N c (Dv N c) n1 aj ak am=some r) N ?_ ?_ ?_
  ·intro aa ww hf hw
   exact⟨0,true,([]:(List (AQ×Bool))),_,_,hf.sub (kp [24,23,5,4,1,25] O),hw,bx,(B8.refl S2 cx),(iq (n:=0) O),E⟩
  ·rintro aa ww ⟨_,_,_,_,_,_,_,_,_,_,E⟩
   rw[Cp] at E;cases E
  rintro n1 aa ww ⟨aj,ak,am,ki,kj,hf,hw,an,cy,kk,E⟩
  refine Ad ?_ hf hw
  clear hf hw ww aa
  rw[Cp] at E
  refine AA (AG (.inl O) (A0 O O O (AD (kp [26,24,23,5,4,1,25] O) (AA (AW O (λcz=>?_) (λcz=>?_))))))
  ·have E:=BU cz E
   refine AT (AA (A6 (AA (AG (.inl O) ?_))))
   have gs:=em.mono' cy
   obtain⟨kl,en,E⟩:=bd E
   refine A8 O O gs Js en O λkm gt=>Qt A3 an.1 O gt PR O λgu=>AF O O (AD (kp [7,24,23,5,4,1,25] O) (Am (AJ 2 (AB O O (AB O O (AE ?_))))))
   have eo:=an.sel [1,1,0] 0 O
   obtain⟨ep,eq,E⟩:=bd E
   refine Cr O O O O9 O (De (c2_:=am) (c3_:=ak) eo (by decide) gu eq) λkn ko kq gv p=>?_
   obtain⟨rfl,er⟩:=p
   refine AX (kp [24,23,5,4,1,25] O) (BJ (AG (.inl O) (Ap O O O (AB O O (AD (kp [25,24,23,5,4,1] O) (WF.nil (λaa ww hf hw=>?_)))))))
   have es:=er.sel [2,0,0] 0 O
   exact⟨(BD (aj+1)),ep.2,ep.1,_,_,hf.sub (kp [24,23,5,4,1,25] O),hw,es,(cy.trans gv),(BG _),E⟩
  have E:=BV cz E
  refine BB O (λaa ww hf hw=>?_)
  exact⟨ak,am,_,_,hf.sub (kp [5,4,1] O),hw,an,cy,E⟩
 rintro aa ww ⟨bt,bu,c0,c1,hf,hw,bz,et,E⟩
 refine Ad ?_ hf hw
 clear hf hw ww aa
 rw[Dv] at E
 refine AA (AA (AG (.inl O) ?_))
 have eu:=el.mono et
 refine Ac O eu BS DK O λkr gw=>Ah A3 bz.1 O gw F9 O λgx ev=>Ag O ev FA O λks=>AB O O (AD (kp [36,35,34,5,4,1] O) (Aj (λa w=>∃(bv:Bool) (bw:(List (AQ×Bool))),IV B c0 c1 (106,[]) a w [(5,.func (.func 70) #[] #[.pointer (some ⟨g,0,none⟩),.pointer (some ⟨d,0,none⟩)]),(4,.pointer (some ⟨d,0,none⟩)),(1,q1)] (Bx d 4 [.bool bv]::Bx g 120 [.map (some j)]::MP (λk:AQ=>Value.agg (AQ.v k).toArray) Value.bool j bw::L) λ_ _=>Du N c bv bw=some r) ?_ ?_))
 ·refine Ay (λn3=>λa w=>∃(ao:Int) (ap:Bool) (aq:(List (AQ×Bool))),IV B c0 c1 (106,[]) a w [(35,.int .i64 (↑c.Places.length:Int)),(34,gx),(5,.func (.func 70) #[] #[.pointer (some ⟨g,0,none⟩),.pointer (some ⟨d,0,none⟩)]),(4,.pointer (some ⟨d,0,none⟩)),(1,q1),(36,.int .i64 ao)] (Bx d 4 [.bool ap]::Bx g 120 [.map (some j)]::MP (λk:AQ=>Value.agg (AQ.v k).toArray) Value.bool j aq::L) λ_ _=>AI ao∧Co N c (Du N c) n3 ao ap aq=some r) N ?_ ?_ ?_
  ·intro aa ww hf hw
   exact⟨0,bt,bu,_,_,hf.sub (kp [35,34,5,4,1,36] O),hw,bz,(B8.refl c0 c1),(iq (n:=0) O),E⟩
  ·rintro aa ww ⟨_,_,_,_,_,_,_,_,_,_,E⟩
   rw[Co] at E;cases E
  rintro n3 aa ww ⟨ao,ap,aq,kt,ku,hf,hw,ar,c2,kv,E⟩
  refine Ad ?_ hf hw
  clear hf hw ww aa
  rw[Co] at E
  refine AA (AG (.inl O) (A0 O O O (AD (kp [37,35,34,5,4,1,36] O) (AA (AW O (λc3=>?_) (λc3=>?_))))))
  ·have E:=BU c3 E
   refine AT (AA (A6 (AA (Am (AJ 2 ?_)))))
   have gy:=ev.mono' c2
   obtain⟨i,ew,E⟩:=bd E
   refine A8 O O gy FA ew O λkw gz=>Bw A3 ar.1 O gz JZ (λe=>by cases e) O λkx g0=>AE (Cg Nv O ar λky kz ey ez=>?_)
   have g1:=g0.mono ez
   obtain⟨b0,b1,b2,rfl,g2,k0,k1,g3,e0,e1,g4,g5,g6,g7,g8,e2⟩:=Br.ex g1
   refine Ge (vs:=[.string i.Name,.int .i64 i.Kind,.int .i64 i.Office,.int .i64 i.Cap,b0,b1,.int .i64 i.Num,.int .i64 i.Den,.int .i64 i.Down,.int .i64 i.Delay,.int .i64 i.Floor,b2]) (cs':=[.string i.Name,.int .i64 i.Kind,.int .i64 i.Office,.int .i64 i.Cap,b0,b1,.int .i64 i.Num,.int .i64 i.Den,.int .i64 i.Down,.int .i64 i.Delay,.int .i64 i.Floor,b2]) O O O (AH O (AH O (AH O (AH O (AH e0.one (AH e1.one (AH O (AH O (AH O (AH O (AH O (AH e2.one D2)))))))))))) JZ O ey .head O O λg9 au e3=>AX (kp [9,35,34,5,4,1,36] O) (Am (AJ 3 (AB O O (AL O Wi O (AS A3 au O mh O PR O (AE ?_))))))
   have c4:=au.sel [2,2,1,0] 0 O
   obtain⟨b3,c5,E⟩:=bd E
   refine Cr O O O O9 O (De (c2_:=aq) (c3_:=ap) c4 (by decide) g2 c5) λha hb hc e4 p=>?_
   obtain⟨rfl,c6⟩:=p
   refine AX (kp [35,34,5,4,1,36] O) (BJ (AG (.inl O) (Ap O O O (AB O O (AD (kp [36,35,34,5,4,1] O) (WF.nil (λaa ww hf hw=>?_)))))))
   have c7:=c6.sel [2,0,0] 1 O
   have c8:=c2.trans (ez.trans (e3.trans e4))
   exact⟨(BD (ao+1)),b3.2,b3.1,_,_,hf.sub (kp [35,34,5,4,1,36] O),hw,c7,c8,(BG _),E⟩
  have E:=BV c3 E
  refine BB O (λaa ww hf hw=>?_)
  exact⟨ap,aq,_,_,hf.sub (kp [5,4,1] O),hw,ar,c2,E⟩
 rintro aa ww ⟨bv,bw,av,aw,hf,hw,ax,b4,E⟩
 refine Ad ?_ hf hw
 clear hf hw ww aa
 rw[Du] at E
 refine AA (AA (AG (.inl O) ?_))
 have b5:=eu.mono b4
 refine Ac O b5 DU Ft O λhd e6=>Ah A3 ax.1 O e6 Ir O λe7 b6=>Ag O b6 G4 O λhe=>AB O O (AD (kp [48,47,46,5,4,1] O) (Aj (λa w=>∃(Z:Bool) (ab:(List (AQ×Bool))),IV B av aw (106,[]) a w [(5,.func (.func 70) #[] #[.pointer (some ⟨g,0,none⟩),.pointer (some ⟨d,0,none⟩)]),(4,.pointer (some ⟨d,0,none⟩)),(1,q1)] (Bx d 4 [.bool Z]::Bx g 120 [.map (some j)]::MP (λk:AQ=>Value.agg (AQ.v k).toArray) Value.bool j ab::L) λ_ _=>Dt N c Z ab=some r) ?_ ?_))
 ·refine Ay (λn5=>λa w=>∃(t:Int) (u:Bool) (x:(List (AQ×Bool))),IV B av aw (106,[]) a w [(47,.int .i64 (↑c.Links.length:Int)),(46,e7),(5,.func (.func 70) #[] #[.pointer (some ⟨g,0,none⟩),.pointer (some ⟨d,0,none⟩)]),(4,.pointer (some ⟨d,0,none⟩)),(1,q1),(48,.int .i64 t)] (Bx d 4 [.bool u]::Bx g 120 [.map (some j)]::MP (λk:AQ=>Value.agg (AQ.v k).toArray) Value.bool j x::L) λ_ _=>AI t∧Cn N c (Dt N c) n5 t u x=some r) N ?_ ?_ ?_
  ·intro aa ww hf hw
   exact⟨0,bv,bw,_,_,hf.sub (kp [47,46,5,4,1,48] O),hw,ax,(B8.refl av aw),(iq (n:=0) O),E⟩
  ·rintro aa ww ⟨_,_,_,_,_,_,_,_,_,_,E⟩
   rw[Cn] at E;cases E
  rintro n5 aa ww ⟨t,u,x,hg,hh,hf,hw,U,ay,hi,E⟩
  refine Ad ?_ hf hw
  clear hf hw ww aa
  rw[Cn] at E
  refine AA (AG (.inl O) (A0 O O O (AD (kp [49,47,46,5,4,1,48] O) (AA (AW O (λaz=>?_) (λaz=>?_))))))
  ·have E:=BU az E
   refine AT (AA (A6 (AA (Am (AJ 2 ?_)))))
   have e8:=b6.mono' ay
   obtain⟨b,c9,E⟩:=bd E
   refine A8 O O e8 G4 c9 O λhj e9=>Bw A3 U.1 O e9 F8 (λe=>by cases e) O λhk fb=>AE (Cg M0 O U λhl hm da b8=>?_)
   have fc:=fb.mono b8
   obtain⟨b9,ca,cb,rfl,fd,hn,ho,hp,fe,ff,fg,hq,hr,ht,hu,hv,hx,hy,hz,h0,h1,h2⟩:=Bh.ex fc
   refine Ge (vs:=[.string b.Name,.int .i64 b.Kind,.int .i64 b.From,.int .i64 b.To,b9,ca,cb,.int .i64 b.Positions,.int .i64 b.Speed,.int .i64 b.Leak,.int .i64 b.Crest,.int .i64 b.Num,.int .i64 b.Den,.int .i64 b.Prime,.int .i64 b.Break,.int .i64 b.BackNum,.int .i64 b.BackDen,.int .i64 b.Delay]) (cs':=[.string b.Name,.int .i64 b.Kind,.int .i64 b.From,.int .i64 b.To,b9,ca,cb,.int .i64 b.Positions,.int .i64 b.Speed,.int .i64 b.Leak,.int .i64 b.Crest,.int .i64 b.Num,.int .i64 b.Den,.int .i64 b.Prime,.int .i64 b.Break,.int .i64 b.BackNum,.int .i64 b.BackDen,.int .i64 b.Delay]) O O O (AH O (AH O (AH O (AH O (AH fe.one (AH ff.one (AH fg.one (AH O (AH O (AH O (AH O (AH O (AH O (AH O (AH O (AH O (AH O (AH O D2)))))))))))))))))) F8 O da .head O O λh4 a0 fh=>AX (kp [11,47,46,5,4,1,48] O) (Am (AJ 3 (AB O O (AL O Wf O (AS A3 a0 O mh O PR O (AE ?_))))))
   have db:=a0.sel [2,2,1,0] 0 O
   obtain⟨cc,dc,E⟩:=bd E
   refine Cr O O O O9 O (De (c2_:=x) (c3_:=u) db (by decide) fd dc) λh5 h6 h7 fi p=>?_
   obtain⟨rfl,dd⟩:=p
   refine AX (kp [47,46,5,4,1,48] O) (BJ (AG (.inl O) (Ap O O O (AB O O (AD (kp [48,47,46,5,4,1] O) (WF.nil (λaa ww hf hw=>?_)))))))
   have de:=dd.sel [2,0,0] 1 O
   have df:=ay.trans (b8.trans (fh.trans fi))
   exact⟨(BD (t+1)),cc.2,cc.1,_,_,hf.sub (kp [47,46,5,4,1,48] O),hw,de,df,(BG _),E⟩
  have E:=BV az E
  refine BB O (λaa ww hf hw=>?_)
  exact⟨u,x,_,_,hf.sub (kp [5,4,1] O),hw,U,ay,E⟩
 rintro aa ww ⟨Z,ab,a1,a2,hf,hw,a3,cd,E⟩
 refine Ad ?_ hf hw
 clear hf hw ww aa
 rw[Dt] at E
 refine AA (AA (AG (.inl O) ?_))
 have ce:=b5.mono cd
 refine Ac O ce IC NR O λh9 fj=>Ah A3 a3.1 O fj Q6 O λfk cf=>Ag O cf Ok O λia=>AB O O (AD (kp [60,59,58,5,4,1] O) (Aj (λa w=>∃(ac:Bool) (ad:(List (AQ×Bool))),IV B a1 a2 (106,[]) a w [(5,.func (.func 70) #[] #[.pointer (some ⟨g,0,none⟩),.pointer (some ⟨d,0,none⟩)]),(4,.pointer (some ⟨d,0,none⟩)),(1,q1)] (Bx d 4 [.bool ac]::Bx g 120 [.map (some j)]::MP (λk:AQ=>Value.agg (AQ.v k).toArray) Value.bool j ad::L) λ_ _=>Dr N c ac ad=some r) ?_ ?_))
 ·refine Ay (λn7=>λa w=>∃(y:Int) (z:Bool) (A:(List (AQ×Bool))),IV B a1 a2 (106,[]) a w [(59,.int .i64 (↑c.Towns.length:Int)),(58,fk),(5,.func (.func 70) #[] #[.pointer (some ⟨g,0,none⟩),.pointer (some ⟨d,0,none⟩)]),(4,.pointer (some ⟨d,0,none⟩)),(1,q1),(60,.int .i64 y)] (Bx d 4 [.bool z]::Bx g 120 [.map (some j)]::MP (λk:AQ=>Value.agg (AQ.v k).toArray) Value.bool j A::L) λ_ _=>AI y∧Cm N c (Dr N c) n7 y z A=some r) N ?_ ?_ ?_
  ·intro aa ww hf hw
   exact⟨0,Z,ab,_,_,hf.sub (kp [59,58,5,4,1,60] O),hw,a3,(B8.refl a1 a2),(iq (n:=0) O),E⟩
  ·rintro aa ww ⟨_,_,_,_,_,_,_,_,_,_,E⟩
   rw[Cm] at E;cases E
  rintro n7 aa ww ⟨y,z,A,ib,ic,hf,hw,V,a4,id,E⟩
  refine Ad ?_ hf hw
  clear hf hw ww aa
  rw[Cm] at E
  refine AA (AG (.inl O) (A0 O O O (AD (kp [61,59,58,5,4,1,60] O) (AA (AW O (λa5=>?_) (λa5=>?_))))))
  ·have E:=BU a5 E
   refine AT (AA (A6 (AA (Am (AJ 2 ?_)))))
   have fl:=cf.mono' a4
   obtain⟨m,dg,E⟩:=bd E
   refine A8 O O fl Ok dg O λie fm=>Bw A3 V.1 O fm QC (λe=>by cases e) O λig fn=>AE (Cg UD O V λih ii dh cg=>?_)
   have fo:=fn.mono cg
   obtain⟨rfl,⟨fp,ij,ik,il,im,io,ip⟩⟩:=F6.ex fo
   refine DD (vs:=[.string m.Name,.int .i64 m.Place,.int .i64 m.Flood,.int .i64 m.Lead,.int .i64 m.People,.int .i64 m.Watch,.int .i64 m.Quorum]) O O O O QC O dh .head O λir a6 fq=>AX (kp [13,59,58,5,4,1,60] O) (Am (AJ 3 (AB O O (AL O VX O (AS A3 a6 O mh O PR O (AE ?_))))))
   have di:=a6.sel [2,2,1,0] 0 O
   obtain⟨ch,dj,E⟩:=bd E
   refine Cr O O O O9 O (De (c2_:=A) (c3_:=z) di (by decide) fp dj) λit iu iv fr p=>?_
   obtain⟨rfl,dk⟩:=p
   refine AX (kp [59,58,5,4,1,60] O) (BJ (AG (.inl O) (Ap O O O (AB O O (AD (kp [60,59,58,5,4,1] O) (WF.nil (λaa ww hf hw=>?_)))))))
   have dl:=dk.sel [2,0,0] 1 O
   have dm:=a4.trans (cg.trans (fq.trans fr))
   exact⟨(BD (y+1)),ch.2,ch.1,_,_,hf.sub (kp [59,58,5,4,1,60] O),hw,dl,dm,(BG _),E⟩
  have E:=BV a5 E
  refine BB O (λaa ww hf hw=>?_)
  exact⟨z,A,_,_,hf.sub (kp [5,4,1] O),hw,V,a4,E⟩
 rintro aa ww ⟨ac,ad,a7,a8,hf,hw,a9,ci,E⟩
 refine Ad ?_ hf hw
 clear hf hw ww aa
 rw[Dr] at E
 refine AA (AA (AG (.inl O) ?_))
 have cj:=ce.mono ci
 refine Ac O cj Hx Ob O λiw fs=>Ah A3 a9.1 O fs Si O λft ck=>Ag O ck Pk O λiy=>AB O O (AD (kp [72,71,70,5,4,1] O) (Aj (λa w=>∃(ae:Bool) (af:(List (AQ×Bool))),IV B a7 a8 (106,[]) a w [(5,.func (.func 70) #[] #[.pointer (some ⟨g,0,none⟩),.pointer (some ⟨d,0,none⟩)]),(4,.pointer (some ⟨d,0,none⟩)),(1,q1)] (Bx d 4 [.bool ae]::Bx g 120 [.map (some j)]::MP (λk:AQ=>Value.agg (AQ.v k).toArray) Value.bool j af::L) λ_ _=>Dq N c ae af=some r) ?_ ?_))
 ·refine Ay (λn9=>λa w=>∃(C:Int) (D:Bool) (F:(List (AQ×Bool))),IV B a7 a8 (106,[]) a w [(71,.int .i64 (↑c.Shelters.length:Int)),(70,ft),(5,.func (.func 70) #[] #[.pointer (some ⟨g,0,none⟩),.pointer (some ⟨d,0,none⟩)]),(4,.pointer (some ⟨d,0,none⟩)),(1,q1),(72,.int .i64 C)] (Bx d 4 [.bool D]::Bx g 120 [.map (some j)]::MP (λk:AQ=>Value.agg (AQ.v k).toArray) Value.bool j F::L) λ_ _=>AI C∧Ck N c (Dq N c) n9 C D F=some r) N ?_ ?_ ?_
  ·intro aa ww hf hw
   exact⟨0,ac,ad,_,_,hf.sub (kp [71,70,5,4,1,72] O),hw,a9,(B8.refl a7 a8),(iq (n:=0) O),E⟩
  ·rintro aa ww ⟨_,_,_,_,_,_,_,_,_,_,E⟩
   rw[Ck] at E;cases E
  rintro n9 aa ww ⟨C,D,F,iz,i0,hf,hw,W,ba,i1,E⟩
  refine Ad ?_ hf hw
  clear hf hw ww aa
  rw[Ck] at E
  refine AA (AG (.inl O) (A0 O O O (AD (kp [73,71,70,5,4,1,72] O) (AA (AW O (λbb=>?_) (λbb=>?_))))))
  ·have E:=BU bb E
   refine AT (AA (A6 (AA (Am (AJ 2 ?_)))))
   have fu:=ck.mono' ba
   obtain⟨cl,dn,E⟩:=bd E
   refine A8 O O fu Pk dn O λi2 fv=>Bw A3 W.1 O fv QB (λe=>by cases e) O λi3 fw=>AE (Cg UC O W λi4 i5 dp cm=>?_)
   have fx:=fw.mono cm
   obtain⟨rfl,⟨fy,i6⟩⟩:=Cw.ex fx
   refine DD (vs:=[.string cl.Name,.int .i64 cl.Room]) O O O O QB O dp .head O λi7 bc fz=>AX (kp [15,71,70,5,4,1,72] O) (Am (AJ 3 (AB O O (AL O VQ O (AS A3 bc O mh O PR O (AE ?_))))))
   have dq:=bc.sel [2,2,1,0] 0 O
   obtain⟨cn,dr,E⟩:=bd E
   refine Cr O O O O9 O (De (c2_:=F) (c3_:=D) dq (by decide) fy dr) λi8 i9 ja f0 p=>?_
   obtain⟨rfl,ds⟩:=p
   refine AX (kp [71,70,5,4,1,72] O) (BJ (AG (.inl O) (Ap O O O (AB O O (AD (kp [72,71,70,5,4,1] O) (WF.nil (λaa ww hf hw=>?_)))))))
   have dt:=ds.sel [2,0,0] 1 O
   have du:=ba.trans (cm.trans (fz.trans f0))
   exact⟨(BD (C+1)),cn.2,cn.1,_,_,hf.sub (kp [71,70,5,4,1,72] O),hw,dt,du,(BG _),E⟩
  have E:=BV bb E
  refine BB O (λaa ww hf hw=>?_)
  exact⟨D,F,_,_,hf.sub (kp [5,4,1] O),hw,W,ba,E⟩
 rintro aa ww ⟨ae,af,be,bf,hf,hw,bg,co,E⟩
 refine Ad ?_ hf hw
 clear hf hw ww aa
 rw[Dq] at E
 refine AA (AA (AG (.inl O) ?_))
 have cp:=cj.mono co
 refine Ac O cp Jr Qe O λjb f1=>Ah A3 bg.1 O f1 UK O λf2 cq=>Ag O cq RG O λjc=>AB O O (AD (kp [84,83,82,5,4,1] O) (Aj (λa w=>∃(ag:Bool) (ah:(List (AQ×Bool))),IV B be bf (106,[]) a w [(5,.func (.func 70) #[] #[.pointer (some ⟨g,0,none⟩),.pointer (some ⟨d,0,none⟩)]),(4,.pointer (some ⟨d,0,none⟩)),(1,q1)] (Bx d 4 [.bool ag]::Bx g 120 [.map (some j)]::MP (λk:AQ=>Value.agg (AQ.v k).toArray) Value.bool j ah::L) λ_ _=>Dd N c ag ah=some r) ?_ ?_))
 ·refine Ay (λf3=>λa w=>∃(G:Int) (H:Bool) (I:(List (AQ×Bool))),IV B be bf (106,[]) a w [(83,.int .i64 (↑c.Gauges.length:Int)),(82,f2),(5,.func (.func 70) #[] #[.pointer (some ⟨g,0,none⟩),.pointer (some ⟨d,0,none⟩)]),(4,.pointer (some ⟨d,0,none⟩)),(1,q1),(84,.int .i64 G)] (Bx d 4 [.bool H]::Bx g 120 [.map (some j)]::MP (λk:AQ=>Value.agg (AQ.v k).toArray) Value.bool j I::L) λ_ _=>AI G∧CZ N c (Dd N c) f3 G H I=some r) N ?_ ?_ ?_
  ·intro aa ww hf hw
   exact⟨0,ae,af,_,_,hf.sub (kp [83,82,5,4,1,84] O),hw,bg,(B8.refl be bf),(iq (n:=0) O),E⟩
  ·rintro aa ww ⟨_,_,_,_,_,_,_,_,_,_,E⟩
   rw[CZ] at E;cases E
  rintro f3 aa ww ⟨G,H,I,jd,je,hf,hw,X,bh,jf,E⟩
  refine Ad ?_ hf hw
  clear hf hw ww aa
  rw[CZ] at E
  refine AA (AG (.inl O) (A0 O O O (AD (kp [85,83,82,5,4,1,84] O) (AA (AW O (λbi=>?_) (λbi=>?_))))))
  ·have E:=BU bi E
   refine AT (AA (A6 (AA (Am (AJ 2 ?_)))))
   have f4:=cq.mono' bh
   obtain⟨J,dv,E⟩:=bd E
   refine A8 O O f4 RG dv O λjg f5=>Bw A3 X.1 O f5 QA (λe=>by cases e) O λjh f6=>AE (Cg UB O X λji jj dw cr=>?_)
   have f7:=f6.mono cr
   obtain⟨rfl,⟨f8,jk,jl,jm,jn⟩⟩:=D4.ex f7
   refine DD (vs:=[.string J.Name,.int .i64 J.Kind,.int .i64 J.Target,.int .i64 J.Err,.int .i64 J.Drift]) O O O O QA O dw .head O λjo bj f9=>AX (kp [17,83,82,5,4,1,84] O) (Am (AJ 3 (AB O O (AL O VO O (AS A3 bj O mh O PR O (AE ?_))))))
   have dx:=bj.sel [2,2,1,0] 0 O
   obtain⟨cs,dy,E⟩:=bd E
   refine Cr O O O O9 O (De (c2_:=I) (c3_:=H) dx (by decide) f8 dy) λjp jq jr ga p=>?_
   obtain⟨rfl,dz⟩:=p
   refine AX (kp [83,82,5,4,1,84] O) (BJ (AG (.inl O) (Ap O O O (AB O O (AD (kp [84,83,82,5,4,1] O) (WF.nil (λaa ww hf hw=>?_)))))))
   have d0:=dz.sel [2,0,0] 1 O
   have d1:=bh.trans (cr.trans (f9.trans ga))
   exact⟨(BD (G+1)),cs.2,cs.1,_,_,hf.sub (kp [83,82,5,4,1,84] O),hw,d0,d1,(BG _),E⟩
  have E:=BV bi E
  refine BB O (λaa ww hf hw=>?_)
  exact⟨H,I,_,_,hf.sub (kp [5,4,1] O),hw,X,bh,E⟩
 rintro aa ww ⟨ag,ah,bk,bl,hf,hw,bm,ct,E⟩
 refine Ad ?_ hf hw
 clear hf hw ww aa
 rw[Dd] at E
 refine AA (AA (AG (.inl O) ?_))
 have gb:=cp.mono ct
 refine Ac O gb KL Qd O λjs gc=>Ah A3 bm.1 O gc UJ O λgd cu=>Ag O cu RE O λjt=>AB O O (AD (kp [96,95,94,5,4] O) (Aj (λa w=>∃(bn:Bool),IV B bk bl (106,[]) a w [(4,.pointer (some ⟨d,0,none⟩))] (Bx d 4 [.bool bn]::L) λ_ _=>Dc N bn=some r) ?_ ?_))
 ·refine Ay (λge=>λa w=>∃(M:Int) (Q:Bool) (ai:(List (AQ×Bool))),IV B bk bl (106,[]) a w [(95,.int .i64 (↑c.Roads.length:Int)),(94,gd),(5,.func (.func 70) #[] #[.pointer (some ⟨g,0,none⟩),.pointer (some ⟨d,0,none⟩)]),(4,.pointer (some ⟨d,0,none⟩)),(96,.int .i64 M)] (Bx d 4 [.bool Q]::Bx g 120 [.map (some j)]::MP (λk:AQ=>Value.agg (AQ.v k).toArray) Value.bool j ai::L) λ_ _=>AI M∧CY N c (Dc N) ge M Q ai=some r) N ?_ ?_ ?_
  ·intro aa ww hf hw
   exact⟨0,ag,ah,_,_,hf.sub (kp [95,94,5,4,96] O),hw,bm,(B8.refl bk bl),(iq (n:=0) O),E⟩
  ·rintro aa ww ⟨_,_,_,_,_,_,_,_,_,_,E⟩
   rw[CY] at E;cases E
  rintro ge aa ww ⟨M,Q,ai,ju,jv,hf,hw,Y,bo,jw,E⟩
  refine Ad ?_ hf hw
  clear hf hw ww aa
  rw[CY] at E
  refine AA (AG (.inl O) (A0 O O O (AD (kp [97,95,94,5,4,96] O) (AA (AW O (λbp=>?_) (λbp=>?_))))))
  ·have E:=BU bp E
   refine AT (AA (A6 (AA (Am (AJ 2 ?_)))))
   have gf:=cu.mono' bo
   obtain⟨o,d2,E⟩:=bd E
   refine A8 O O gf RE d2 O λjx gg=>Bw A3 Y.1 O gg P9 (λe=>by cases e) O λjy gh=>AE (Cg UA O Y λjz j0 d3 cv=>?_)
   have gi:=gh.mono cv
   obtain⟨rfl,⟨gj,j1,j2,j3,j4,j5,j6⟩⟩:=Fo.ex gi
   refine DD (vs:=[.string o.Name,.int .i64 o.From,.int .i64 o.To,.int .i64 o.Hours,.int .i64 o.Flow,.int .i64 o.By,.int .i64 o.Limit]) O O O O P9 O d3 .head O λj7 bq gk=>AX (kp [19,95,94,5,4,96] O) (Am (AJ 3 (AB O O (AL O VK O (AS A3 bq O mh O PR O (AE ?_))))))
   have d4:=bq.sel [2,2,1,0] 0 O
   obtain⟨cw,d5,E⟩:=bd E
   refine Cr O O O O9 O (De (c2_:=ai) (c3_:=Q) d4 (by decide) gj d5) λj8 j9 ka gl p=>?_
   obtain⟨rfl,d6⟩:=p
   refine AX (kp [95,94,5,4,96] O) (BJ (AG (.inl O) (Ap O O O (AB O O (AD (kp [96,95,94,5,4] O) (WF.nil (λaa ww hf hw=>?_)))))))
   have d7:=d6.sel [2,0,0] 1 O
   have d8:=bo.trans (cv.trans (gk.trans gl))
   exact⟨(BD (M+1)),cw.2,cw.1,_,_,hf.sub (kp [95,94,5,4,96] O),hw,d7,d8,(BG _),E⟩
  have E:=BV bp E
  refine BB O (λaa ww hf hw=>?_)
  have d9:=Y.sel [0] 2 O
  exact⟨Q,_,_,hf.sub (kp [4] O),hw,d9,bo,E⟩
 rintro aa ww ⟨bn,kb,kc,hf,hw,br,gm,E⟩
 refine Ad ?_ hf hw
 clear hf hw ww aa
 rw[Dc] at E
 refine AA (AG (.inl O) (AS A3 br O mh O Ng O (AF O O (AD (kp [2] O) (Ab (λaa ww hf hw=>?_))))))
 have ea:=br.drop .head
 cases E
 have eb:=e5.trans (ec.trans (ee.trans (eg.trans (ei.trans (ej.trans (et.trans (b4.trans (cd.trans (ci.trans (co.trans (ct.trans gm)))))))))))
 exact Dp hf hw O O eb ⟨O,ea⟩
theorem Fy (hs:St S L h) {i:Value}{k:(List BI)}(d:Sl S h Bm i k) {r:Bool}(E:Dm N k=some r):
 CG Tryz.prog 72 #[i] S h (λv S' h'=>v= .bool r∧St S' (L) h'):=by
 refine BC (l:=[i]) 63 Tryz.func72 O Tryz.ntmps72 O λB=>?_
 rw[Dm] at E
 refine AA (AG (.inl O) (AF O O (AD (kp [0] O) (AA (AA (AG (.inl O) (AB O O (Ag O d HZ O λb1=>A0 O O O (AB O O (AV 4 12 (.bool ((decide ((↑k.length:Int)<1))||(decide (32<(↑k.length:Int))))) ?_ ?_))))))))))
 ·cases c2:(decide ((↑k.length:Int)<1))
  ·exact AC O O O (AB O O (AC O O O (Ag O d HZ O λb3=>AC O O O (CE O O O (AO O O O (AU O))))))
  exact Aa O O
 refine AD (kp [12,0] O) (AW O (λZ=>?_) (λZ=>?_))
 ·have E:=BU Z E
  refine AA (AG (.inl O) (AF O O (AD (kp [2] O) (Ab (λaa ww hf hw=>?_)))))
  cases E
  exact Dp hf hw O O (B8.refl S h) ⟨O,hs⟩
 have E:=BV Z E
 refine AT (AA (AA (AG (.inl O) (AB O O (Ag O d HZ O λb5=>AB O O (AD (kp [15,14,13,0] O) (Aj (λa w=>IV B S h (63,[]) a w [] (L) λ_ _=>FZ N=some r) ?_ ?_)))))))
 ·refine Ay (λn1=>λa w=>∃(y:Int),IV B S h (63,[]) a w [(14,.int .i64 (↑k.length:Int)),(13,i),(0,i),(15,.int .i64 y)] (L) λ_ _=>AI y∧Dl N k (FZ N) n1 y=some r) N ?_ ?_ ?_
  ·intro aa ww hf hw
   exact⟨0,_,_,hf.sub (kp [14,13,0,15] O),hw,hs,(B8.refl S h),(iq (n:=0) O),E⟩
  ·rintro aa ww ⟨_,_,_,_,_,_,_,_,E⟩
   rw[Dl] at E;cases E
  rintro n1 aa ww ⟨y,aq,ar,hf,hw,p,m,r9,E⟩
  refine Ad ?_ hf hw
  clear hf hw ww aa
  rw[Dl] at E
  refine AA (AG (.inl O) (A0 O O O (AD (kp [16,14,13,0,15] O) (AA (AW O (λt=>?_) (λt=>?_))))))
  ·have E:=BU t E
   refine AT (AA (A6 (AA (Am (AJ 3 (AB O O ?_))))))
   have ab:=d.mono' m
   obtain⟨b,z,E⟩:=bd E
   refine A8 O O ab HZ z O λau ac=>Bw A3 p.1 O ac Ny (λe=>by cases e) O λav ad=>AE (Cg Se O p λaw ax A o=>AJ 1 (AF O O (AE ?_)))
   have ae:=ad.mono o
   obtain⟨rfl,⟨ay,az⟩⟩:=Bm.ex ae
   refine DD (vs:=[.int .i64 b.X,.int .i64 b.Y]) O O O O Ny O A .head O λa0 c s=>AX (kp [3,4,14,13,0,15] O) (AA (AA (AG (.inl O) (AL O Ic O (AS A3 c O mh O Ae O (A0 O O O (AB O O (AV 4 27 (.bool ((decide (b.X<0))||(decide (1125899906842624<b.X)))) ?_ ?_))))))))
   ·cases a1:(decide (b.X<0))
    ·exact AC O O O (AL O Ic O (AC O O O (AS A3 c O mh O Ae O (AC O O O (CE O O O (AO O O O (AU O)))))))
    exact Aa O O
   refine AB O O (AV 4 32 (.bool (((decide (b.X<0))||(decide (1125899906842624<b.X)))||(decide (b.Y<0)))) ?_ ?_)
   ·cases a2:((decide (b.X<0))||(decide (1125899906842624<b.X)))
    ·exact AC O O O (AL O Hu O (AC O O O (AS A3 c O mh O Ae O (AC O O O (A0 O O O (AO O O O (AU O)))))))
    exact Aa O O
   refine AB O O (AV 4 37 (.bool ((((decide (b.X<0))||(decide (1125899906842624<b.X)))||(decide (b.Y<0)))||(decide (1125899906842624<b.Y)))) ?_ ?_)
   ·cases a3:(((decide (b.X<0))||(decide (1125899906842624<b.X)))||(decide (b.Y<0)))
    ·exact AC O O O (AL O Hu O (AC O O O (AS A3 c O mh O Ae O (AC O O O (CE O O O (AO O O O (AU O)))))))
    exact Aa O O
   refine AD (kp [37,3,4,14,13,0,15] O) (AW O (λu=>?_) (λu=>?_))
   ·have E:=BU u E
    refine AA (AG (.inl O) (AF O O (AD (kp [2] O) (Ab (λaa ww hf hw=>?_)))))
    have C:=c.drop .head
    cases E
    have D:=m.trans (o.trans s)
    exact Dp hf hw O O D ⟨O,C⟩
   have E:=BV u E
   refine AT (AA (AG (.inr ⟨mo,by kernel_rfl⟩) (AB O O (CE O O O (AB O O ?_)))))
   obtain⟨af,g,E⟩:=bd E
   refine AV 21 61 (.bool af) ?_ ?_
   ·cases F:(decide (0<y))
    ·have g:=BV F g
     cases g
     exact Aa O O
    have g:=BU F g
    refine AC O O O (AL O Ic O (AC O O O (AS A3 c O mh O Ae O (AC O O O (AB O O (AC O O O (AB O O (AC O O O (Dg O O O (AC O O O ?_))))))))))
    have G:=m.trans (o.trans s)
    have ag:=d.mono' G
    obtain⟨ah,H,g⟩:=bd g
    refine A8 O O ag HZ H O λa4 ai=>AC O O O (Ac O ai KK Ic O λa5 aj=>AC O O O (Af A3 c.1 O aj Ae O λa6=>AC O O O (HW O O O (AC O O O (AB O O ?_)))))
    obtain⟨ak,j,g⟩:=bd g
    refine AV 10 60 (.bool ak) ?_ ?_
    ·cases I:(decide (b.X≤ah.X))
     ·have j:=BV I j
      refine AC O O O (AL O Hu O (AC O O O (AS A3 c O mh O Ae O (AC O O O (AB O O (AC O O O (AB O O (AC O O O (Dg O O O (AC O O O ?_))))))))))
      have J:=m.trans (o.trans s)
      have am:=d.mono' J
      obtain⟨a7,K,j⟩:=bd j
      refine A8 O O am HZ K O λa8 an=>AC O O O (Ac O an KJ Hu O λa9 ao=>AC O O O (Af A3 c.1 O ao Ae O λba=>AC O O O (A0 O O O (AC O O O (AO O O O ?_)))))
      cases j
      exact AU O
     have j:=BU I j
     cases j
     exact Aa O O
    refine AO O O O ?_
    cases g
    exact AU O
   refine AD (kp [61,14,13,0,15] O) (AW O (λx=>?_) (λx=>?_))
   ·have E:=BU x E
    refine AA (AG (.inl O) (AF O O (AD (kp [2] O) (Ab (λaa ww hf hw=>?_)))))
    have M:=c.drop .head
    cases E
    have Q:=m.trans (o.trans s)
    exact Dp hf hw O O Q ⟨O,M⟩
   have E:=BV x E
   refine AT (BJ (AG (.inl O) (Ap O O O (AB O O (AD (kp [15,14,13,0] O) (WF.nil (λaa ww hf hw=>?_)))))))
   have U:=c.drop .head
   have V:=m.trans (o.trans s)
   exact⟨(BD (y+1)),_,_,hf.sub (kp [14,13,0,15] O),hw,U,V,(BG _),E⟩
  have E:=BV t E
  refine BB O (λaa ww hf hw=>?_)
  exact⟨_,_,hf.sub OG,hw,p,m,E⟩
 rintro aa ww ⟨bb,bc,hf,hw,W,ap,E⟩
 refine Ad ?_ hf hw
 clear hf hw ww aa
 rw[FZ] at E
 refine AA (AG (.inl O) (AF O O (AD (kp [2] O) (Ab (λaa ww hf hw=>?_)))))
 cases E
 exact Dp hf hw O O ap ⟨O,W⟩
end Go.Proofs.YtblcgjadhemlbaaGreat
