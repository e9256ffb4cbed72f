import Derived.Test.YtblcgjadhemlbaaGreatTWalk5
namespace Go.Proofs.YtblcgjadhemlbaaGreat
open Go.RowKit
set_option linter.unusedVariables false
set_option linter.unusedSimpArgs false
set_option maxRecDepth 10000
set_option maxHeartbeats 2000000
variable {N:Nat}{S:Nat→Prop}{L:List HP}{h:Aw}
theorem LI (hs:St S L h) {c:Value}{i:(List Int)}(j:Sl S h AN.int c i) {b:Int}(t:AE b) {r:Int×Bool}(E:Hb N i b=some r):
 CL Tryz.prog 38 #[c,vI b] S h (λv S' h'=>v= .tuple #[vI r.1,.bool r.2]∧AE r.1∧St S' (L) h'):=by
 refine BF (l:=[c,vI b]) 29 Tryz.func38 O Tryz.ntmps38 O λB=>?_
 rw[Hb] at E
 refine AH (AY O (AL O (kp [0,1] O) (AH (AL O (kp [6,0,1] O) (AC (AH (AA O (Ak O j BR O λY=>AA O (AM (kp [11,10,9,6,1] O) (Aj (λa w=>∃(z:Int),IV B S h (29,[]) a w [(6,vI z)] (L) λ_ _=>AE z∧GG N z=some r) ?_ ?_))))))))))
 ·refine A3 (λG=>λa w=>∃(u:Int) (m:Int),IV B S h (29,[]) a w [(10,vI (↑i.length:Int)),(9,c),(1,vI b),(6,vI u),(11,vI m)] (L) λ_ _=>AE u∧AE m∧Eb N i b (GG N) G u m=some r) N ?_ ?_ ?_
  ·intro o p d g
   exact⟨0,0,_,_,d.sub (kp [10,9,1,6,11] O),g,hs,(B9.refl S h),(iq (n:=0) O),(iq (n:=0) O),E⟩
  ·rintro o p ⟨_,_,_,_,_,_,_,_,_,_,E⟩
   rw[Eb] at E;cases E
  rintro G o p ⟨u,m,H,I,d,g,k,q,J,K,E⟩
  refine Ac ?_ d g
  clear d g p o
  rw[Eb] at E
  refine AH (Ao O (AM (kp [12,10,9,1,6,11] O) (AC (AX O E (λA E=>?_) (λA E=>?_)))))
  ·refine AO (AC (A8 (AH ?_)))
   obtain⟨s,x,E⟩:=bd E
   refine A9 O O (j.mono' q) BR x O λM C=>Ag A6 k.1 O C Ae O λQ=>AL O (kp [8,10,9,1,6,11] O) (AC (AH (AA O (Ao O (AA O (AV 6 23 (.bool ((decide (s<0))||(decide ((BM (b-u))<s)))) ?_ ?_))))))
   ·cases U:(decide (s<0))
    ·exact AB O (AA O (AB O (AA O (AB O (AA O (AB O (Cz O (AB O (Bk O (AJ O (AU O)))))))))))
    exact Aa O O
   refine AM (kp [23,8,10,9,1,6,11] O) (AX O E (λD E=>?_) (λD E=>?_))
   ·refine AH (AY O (AL O (kp [5,4] O) (Ad (λo p d g=>?_))))
    cases E
    exact KD d O g (IF (Ir d (v:=_) O) (IF (Ir d (v:=_) O) KC)) O q ⟨O,(iq (n:=0) O),k⟩
   refine AO (BY (.inl O) (AA O (AA O (Ai O (AL O (kp [6,10,9,1,11] O) (BP (BY (.inl O) (Ai O (AA O (AM (kp [11,6,10,9,1] O) (WF.nil (λo p d g=>?_))))))))))))
   exact⟨(BM (u+s)),(BM (m+1)),_,_,d.sub (kp [10,9,1,6,11] O),g,k,q,(BG _),(BG _),E⟩
  refine BA O (λo p d g=>?_)
  exact⟨u,_,_,d.sub (kp [6] O),g,k,q,J,E⟩
 rintro o p ⟨z,V,W,d,g,y,F,X,E⟩
 refine Ac ?_ d g
 clear d g p o
 rw[GG] at E
 refine AH (AA O (AY O (AL O (kp [5,4] O) (Ad (λo p d g=>?_)))))
 cases E
 exact KD d O g (IF (Ir d (v:=_) O) (IF (Ir d (v:=_) O) KC)) O F ⟨O,X,y⟩
theorem Kf (hs:St S L h) {F:Value}{d:AW}(aj:Rd S h B8 F d) {G:Value}{b:Am}(ak:Rd S h CP G b) {r:Bool}(E:Hx N d b=some r):
 CL Tryz.prog 14 #[F,G] S h (λv S' h'=>v= .bool r∧St S' (L) h'):=by
 refine BF (l:=[F,G]) 168 Tryz.func14 O Tryz.ntmps14 O λB=>?_
 rw[Hx] at E
 refine WF.sl (B3 O aj (λe=>by cases e) O hs λq1 S2 h3 cq e5 k6=>B3 O (ak.mono e5) (λe=>by cases e) O cq λq8 S9 a0 j u C=>AI 1 (AY O (AG (AZ (kp [3,2] O) (AC (AH (Af O C Am.f_Hour IM O λfr cr=>Ag A6 j.1 O cr Ae O λfs=>Ao O (AA O (AV 4 20 (.bool ((decide (b.Hour<0))||(decide (16777216<b.Hour)))) ?_ ?_)))))))))
 ·cases ft:(decide (b.Hour<0))
  ·exact AB O (Af O C Am.f_Hour IM O λfu cs=>AB O (Ag A6 j.1 O cs Ae O λfv=>AB O (Bk O (AJ O (AU O)))))
  exact Aa O O
 refine AA O (AV 8 29 (.bool (((decide (b.Hour<0))||(decide (16777216<b.Hour)))||(decide ((↑b.Own.length:Int)≠(↑d.Places.length:Int))))) ?_ ?_)
 ·cases fw:((decide (b.Hour<0))||(decide (16777216<b.Hour)))
  ·exact AB O (Af O C Ik D2 O λfx ct=>AB O (Al A6 j.1 O ct G9 O λfy cu=>AB O (Ak O cu E3 O λfz=>AB O (Af O (k6.mono u) BO C0 O λf0 cv=>AB O (Al A6 j.1 O cv Fq O λf1 cw=>AB O (Ak O cw Ez O λf2=>AB O (Bl O (AJ O (AU O)))))))))
  exact Aa O O
 refine AA O (AV 8 38 (.bool ((((decide (b.Hour<0))||(decide (16777216<b.Hour)))||(decide ((↑b.Own.length:Int)≠(↑d.Places.length:Int))))||(decide ((↑b.Rem.length:Int)≠(↑d.Places.length:Int))))) ?_ ?_)
 ·cases f3:(((decide (b.Hour<0))||(decide (16777216<b.Hour)))||(decide ((↑b.Own.length:Int)≠(↑d.Places.length:Int))))
  ·exact AB O (Af O C JU Jm O λf4 cx=>AB O (Al A6 j.1 O cx BX O λf5 cy=>AB O (Ak O cy BR O λf6=>AB O (Af O (k6.mono u) BO C0 O λf7 cz=>AB O (Al A6 j.1 O cz Fq O λf8 c0=>AB O (Ak O c0 Ez O λf9=>AB O (Bl O (AJ O (AU O)))))))))
  exact Aa O O
 refine AA O (AV 8 47 (.bool (((((decide (b.Hour<0))||(decide (16777216<b.Hour)))||(decide ((↑b.Own.length:Int)≠(↑d.Places.length:Int))))||(decide ((↑b.Rem.length:Int)≠(↑d.Places.length:Int))))||(decide ((↑b.Gates.length:Int)≠(↑d.Links.length:Int))))) ?_ ?_)
 ·cases ga:((((decide (b.Hour<0))||(decide (16777216<b.Hour)))||(decide ((↑b.Own.length:Int)≠(↑d.Places.length:Int))))||(decide ((↑b.Rem.length:Int)≠(↑d.Places.length:Int))))
  ·exact AB O (Af O C JV Hw O λgb c1=>AB O (Al A6 j.1 O c1 Ke O λgc c2=>AB O (Ak O c2 KJ O λgd=>AB O (Af O (k6.mono u) Es HA O λge c3=>AB O (Al A6 j.1 O c3 Jv O λgf c4=>AB O (Ak O c4 H6 O λgg=>AB O (Bl O (AJ O (AU O)))))))))
  exact Aa O O
 refine AA O (AV 8 56 (.bool ((((((decide (b.Hour<0))||(decide (16777216<b.Hour)))||(decide ((↑b.Own.length:Int)≠(↑d.Places.length:Int))))||(decide ((↑b.Rem.length:Int)≠(↑d.Places.length:Int))))||(decide ((↑b.Gates.length:Int)≠(↑d.Links.length:Int))))||(decide ((↑b.In.length:Int)≠(↑d.Owners.length:Int))))) ?_ ?_)
 ·cases gh:(((((decide (b.Hour<0))||(decide (16777216<b.Hour)))||(decide ((↑b.Own.length:Int)≠(↑d.Places.length:Int))))||(decide ((↑b.Rem.length:Int)≠(↑d.Places.length:Int))))||(decide ((↑b.Gates.length:Int)≠(↑d.Links.length:Int))))
  ·exact AB O (Af O C KA KX O λgi c5=>AB O (Al A6 j.1 O c5 BX O λgj c6=>AB O (Ak O c6 BR O λgk=>AB O (Af O (k6.mono u) Dq HT O λgl c7=>AB O (Al A6 j.1 O c7 KI O λgm c8=>AB O (Ak O c8 Jx O λgn=>AB O (Bl O (AJ O (AU O)))))))))
  exact Aa O O
 refine AA O (AV 8 65 (.bool (((((((decide (b.Hour<0))||(decide (16777216<b.Hour)))||(decide ((↑b.Own.length:Int)≠(↑d.Places.length:Int))))||(decide ((↑b.Rem.length:Int)≠(↑d.Places.length:Int))))||(decide ((↑b.Gates.length:Int)≠(↑d.Links.length:Int))))||(decide ((↑b.In.length:Int)≠(↑d.Owners.length:Int))))||(decide ((↑b.Out.length:Int)≠(↑d.Owners.length:Int))))) ?_ ?_)
 ·cases gp:((((((decide (b.Hour<0))||(decide (16777216<b.Hour)))||(decide ((↑b.Own.length:Int)≠(↑d.Places.length:Int))))||(decide ((↑b.Rem.length:Int)≠(↑d.Places.length:Int))))||(decide ((↑b.Gates.length:Int)≠(↑d.Links.length:Int))))||(decide ((↑b.In.length:Int)≠(↑d.Owners.length:Int))))
  ·exact AB O (Af O C Ka JL O λgq c9=>AB O (Al A6 j.1 O c9 BX O λgr da=>AB O (Ak O da BR O λgs=>AB O (Af O (k6.mono u) Dq HT O λgt db=>AB O (Al A6 j.1 O db KI O λgu dc=>AB O (Ak O dc Jx O λgv=>AB O (Bl O (AJ O (AU O)))))))))
  exact Aa O O
 refine AM (kp [65,3,2] O) (AX O E (λdd E=>?_) (λdd E=>?_))
 ·refine AH (AL O (kp [4] O) (Ad (λz A k m=>?_)))
  cases E
  exact Dr k m O O (e5.trans u) ⟨O,j⟩
 refine AO (AC (AH ?_))
 have bi:=k6.mono u
 refine Af O bi BO C0 O λgw de=>Al A6 j.1 O de Fq O λdf bj=>Ak O bj Ez O λgx=>AA O (AM (kp [69,68,67,3,2] O) (Aj (λa w=>IV B S9 a0 (168,[]) a w [(3,q8),(2,q1)] (L) λ_ _=>Ey N d b=some r) ?_ ?_))
 ·refine A3 (λn1=>λa w=>∃(Z:Int),IV B S9 a0 (168,[]) a w [(68,vI (↑d.Places.length:Int)),(67,df),(3,q8),(2,q1),(69,vI Z)] (L) λ_ _=>AE Z∧Ew N d b (Ey N d b) n1 Z=some r) N ?_ ?_ ?_
  ·intro z A k m
   exact⟨0,_,_,k.sub (kp [68,67,3,2,69] O),m,j,(B9.refl S9 a0),(iq (n:=0) O),E⟩
  ·rintro z A ⟨_,_,_,_,_,_,_,_,E⟩
   rw[Ew] at E;cases E
  rintro n1 z A ⟨Z,gy,gz,k,m,ab,ac,g0,E⟩
  refine Ac ?_ k m
  clear k m A z
  rw[Ew] at E
  refine AH (Ao O (AM (kp [70,68,67,3,2,69] O) (AC (AX O E (λdg E=>?_) (λdg E=>?_)))))
  ·refine AO (AC (A8 (WF.sl (AI 3 (AA O ?_)))))
   obtain⟨p,bk,E⟩:=bd E
   refine A9 O O (bj.mono' ac) Ez bk O λg1 bl=>B6 A6 ab.1 O bl Jt (λe=>by cases e) O λdh bm=>AG (Cn OR O ab λdi dj a1 V=>AI 1 (AY O (AG ?_)))
   obtain⟨am,an,ao,rfl,dk,dl,dm,dn,bn,bo,dp,dq,dr,ds,dt,bp⟩:=B1.ex (bm.mono V)
   refine HM (vs:=[.string p.Name,vI p.Kind,vI p.Office,vI p.Cap,am,an,vI p.Num,vI p.Den,vI p.Down,vI p.Delay,vI p.Floor,ao]) (cs':=[.string p.Name,vI p.Kind,vI p.Office,vI p.Cap,am,an,vI p.Num,vI p.Den,vI p.Down,vI p.Delay,vI p.Floor,ao]) O O O (AF O (AF O (AF O (AF O (AF bn.one (AF bo.one (AF O (AF O (AF O (AF O (AF O (AF bp.one EG)))))))))))) Jt O a1 .head O O λdu t ad=>AZ (kp [5,6,68,67,3,2,69] O) (AC (BY (.inr ⟨mo,by kernel_rfl⟩) ?_))
   have ap:=C.mono (ac.trans (V.trans ad))
   refine Af O ap JU Jm O λdv bq=>Al A6 t.1 O bq BX O λdw br=>AA O ?_
   obtain⟨bs,a2,E⟩:=bd E
   refine A9 O O br BR a2 O λdx bt=>Ag A6 t.1 O bt Ae O λdy=>Ao O (AA O ?_)
   obtain⟨bu,s,E⟩:=bd E
   refine AV 11 91 (.bool bu) ?_ ?_
   ·cases aq:(decide (bs<0))
    ·have s:=GM aq s
     refine AB O (Af O ap JU Jm O λdz bv=>AB O (Al A6 t.1 O bv BX O λd0 bw=>AB O (AA O (AB O ?_))))
     obtain⟨d1,a3,s⟩:=bd s
     refine A9 O O bw BR a3 O λd2 bx=>AB O (Ag A6 t.1 O bx Ae O λd3=>AB O (AD K3 O (AB O (AT A6 t O mh O Ae O (AB O (Cz O (AB O (P7 O O O (AB O (Bk O (AJ O ?_)))))))))))
     cases s
     exact AU O
    have s:=GL aq s
    cases s
    exact Aa O O
   refine AM (kp [91,68,67,3,2,69] O) (AX O E (λbz E=>?_) (λbz E=>?_))
   ·refine AH (AL O (kp [4] O) (Ad (λz A k m=>?_)))
    have a4:=t.drop .head
    cases E
    exact Dr k m O O (e5.trans (u.trans (ac.trans (V.trans ad)))) ⟨O,a4⟩
   refine AO (BP (BY (.inl O) (Ai O (AA O (AM (kp [69,68,67,3,2] O) (WF.nil (λz A k m=>?_)))))))
   have a5:=t.drop .head
   exact⟨(BM (Z+1)),_,_,k.sub (kp [68,67,3,2,69] O),m,a5,(ac.trans (V.trans ad)),(BG _),E⟩
  refine BA O (λz A k m=>?_)
  exact⟨_,_,k.sub (kp [3,2] O),m,ab,ac,E⟩
 rintro z A ⟨ae,af,k,m,ag,x,E⟩
 refine Ac ?_ k m
 clear k m A z
 rw[Ey] at E
 refine AC (AH ?_)
 have ar:=bi.mono x
 refine Af O ar Es HA O λd4 b0=>Al A6 ag.1 O b0 Jv O λb1 au=>Ak O au H6 O λd5=>AA O (AM (kp [96,95,94,3,2] O) (Aj (λa w=>IV B ae af (168,[]) a w [(3,q8),(2,q1)] (L) λ_ _=>Ex N d b=some r) ?_ ?_))
 ·refine A3 (λn3=>λa w=>∃(J:Int),IV B ae af (168,[]) a w [(95,vI (↑d.Links.length:Int)),(94,b1),(3,q8),(2,q1),(96,vI J)] (L) λ_ _=>AE J∧Ev N d b (Ex N d b) n3 J=some r) N ?_ ?_ ?_
  ·intro z A k m
   exact⟨0,_,_,k.sub (kp [95,94,3,2,96] O),m,ag,(B9.refl ae af),(iq (n:=0) O),E⟩
  ·rintro z A ⟨_,_,_,_,_,_,_,_,E⟩
   rw[Ev] at E;cases E
  rintro n3 z A ⟨J,d6,d7,k,m,Q,D,d8,E⟩
  refine Ac ?_ k m
  clear k m A z
  rw[Ev] at E
  refine AH (Ao O (AM (kp [97,95,94,3,2,96] O) (AC (AX O E (λb2 E=>?_) (λb2 E=>?_)))))
  ·refine AO (AC (A8 (WF.sl (AI 3 (AA O ?_)))))
   obtain⟨c,a6,E⟩:=bd E
   refine A9 O O (au.mono' D) H6 a6 O λd9 b3=>B6 A6 Q.1 O b3 HW (λe=>by cases e) O λea b4=>AG (Cn OQ O Q λeb ec a7 K=>AI 1 (AY O (AG ?_)))
   obtain⟨av,aw,ax,rfl,ed,ee,ef,eg,b5,b6,b7,eh,ei,ej,ek,el,em,en,eo,ep,eq,er⟩:=Bv.ex (b4.mono K)
   refine HM (vs:=[.string c.Name,vI c.Kind,vI c.From,vI c.To,av,aw,ax,vI c.Positions,vI c.Speed,vI c.Leak,vI c.Crest,vI c.Num,vI c.Den,vI c.Prime,vI c.Break,vI c.BackNum,vI c.BackDen,vI c.Delay]) (cs':=[.string c.Name,vI c.Kind,vI c.From,vI c.To,av,aw,ax,vI c.Positions,vI c.Speed,vI c.Leak,vI c.Crest,vI c.Num,vI c.Den,vI c.Prime,vI c.Break,vI c.BackNum,vI c.BackDen,vI c.Delay]) O O O (AF O (AF O (AF O (AF O (AF b5.one (AF b6.one (AF b7.one (AF O (AF O (AF O (AF O (AF O (AF O (AF O (AF O (AF O (AF O (AF O EG)))))))))))))))))) HW O a7 .head O O λes U W=>AZ (kp [7,8,95,94,3,2,96] O) (WF.sl (AI 5 (Af O (C.mono (x.trans (D.trans (K.trans W)))) JV Hw O λet b8=>Al A6 U.1 O b8 Ke O λeu b9=>AA O ?_)))
   obtain⟨g,a8,E⟩:=bd E
   refine A9 O O b9 KJ a8 O λev ca=>B6 A6 U.1 O ca Gn (λe=>by cases e) O λew cb=>AG (Cn SH O U λey ez a9 X=>?_)
   obtain⟨rfl,⟨e0,e1⟩⟩:=BE.ex (cb.mono X)
   refine DW (vs:=[vI g.Pos,vI g.Target,.bool g.Stuck,.bool g.Open]) O O O O Gn O a9 .head O λe2 i ah=>AZ (kp [9,8,95,94,3,2,96] O) (AC (AH (AD Mt O (AT A6 i O mh O Ae O (Ao O (AA O (AV 6 115 (.bool ((decide (g.Pos<0))||(decide (c.Positions<g.Pos)))) ?_ ?_)))))))
   ·cases e3:(decide (g.Pos<0))
    ·exact AB O (AD Mt O (AB O (AT A6 i O mh O Ae O (AB O (AD JI O (AB O (AT A6 i O (mt mh) O Ae O (AB O (Bk O (AJ O (AU O)))))))))))
    exact Aa O O
   refine AA O (AV 4 120 (.bool (((decide (g.Pos<0))||(decide (c.Positions<g.Pos)))||(decide (g.Target<0)))) ?_ ?_)
   ·cases e4:((decide (g.Pos<0))||(decide (c.Positions<g.Pos)))
    ·exact AB O (AD PK O (AB O (AT A6 i O mh O Ae O (AB O (Ao O (AJ O (AU O)))))))
    exact Aa O O
   refine AA O (AV 6 127 (.bool ((((decide (g.Pos<0))||(decide (c.Positions<g.Pos)))||(decide (g.Target<0)))||(decide (c.Positions<g.Target)))) ?_ ?_)
   ·cases e6:(((decide (g.Pos<0))||(decide (c.Positions<g.Pos)))||(decide (g.Target<0)))
    ·exact AB O (AD PK O (AB O (AT A6 i O mh O Ae O (AB O (AD JI O (AB O (AT A6 i O (mt mh) O Ae O (AB O (Bk O (AJ O (AU O)))))))))))
    exact Aa O O
   refine AM (kp [127,9,8,95,94,3,2,96] O) (AX O E (λcc E=>?_) (λcc E=>?_))
   ·refine AH (AL O (kp [4] O) (Ad (λz A k m=>?_)))
    have ba:=i.sel [] 2 O
    cases E
    exact Dr k m O O (e5.trans (u.trans (x.trans (D.trans (K.trans (W.trans (X.trans ah))))))) ⟨O,ba⟩
   refine AO (AH (AD Nq O (AT A6 i O mh O Ol O (AA O (AV 4 134 (.bool (g.Open&&(decide (c.Kind≠5)))) ?_ ?_)))))
   ·cases e7:g.Open
    ·exact Aa O O
    exact AB O (AD GF O (AB O (AT A6 i O (mt mh) O Ae O (AB O (Bl O (AJ O (AU O)))))))
   refine AA O (AV 4 139 (.bool ((g.Open&&(decide (c.Kind≠5)))&&(decide (c.Kind≠3)))) ?_ ?_)
   ·cases e8:(g.Open&&(decide (c.Kind≠5)))
    ·exact Aa O O
    exact AB O (AD GF O (AB O (AT A6 i O (mt mh) O Ae O (AB O (Bl O (AJ O (AU O)))))))
   refine AM (kp [139,95,94,3,2,96] O) (AX O E (λcd E=>?_) (λcd E=>?_))
   ·refine AH (AL O (kp [4] O) (Ad (λz A k m=>?_)))
    have bb:=i.sel [] 2 O
    cases E
    exact Dr k m O O (e5.trans (u.trans (x.trans (D.trans (K.trans (W.trans (X.trans ah))))))) ⟨O,bb⟩
   refine AO (BP (BY (.inl O) (Ai O (AA O (AM (kp [96,95,94,3,2] O) (WF.nil (λz A k m=>?_)))))))
   have bc:=i.sel [] 2 O
   exact⟨(BM (J+1)),_,_,k.sub (kp [95,94,3,2,96] O),m,bc,(D.trans (K.trans (W.trans (X.trans ah)))),(BG _),E⟩
  refine BA O (λz A k m=>?_)
  exact⟨_,_,k.sub (kp [3,2] O),m,Q,D,E⟩
 rintro z A ⟨e9,fb,k,m,y,M,E⟩
 refine Ac ?_ k m
 clear k m A z
 rw[Ex] at E
 refine AC (Bt (.inl O) y (B6 Bg y.1 O (ar.mono M) G0 (λe=>by cases e) O λfc ce=>?_))
 have ay:=C.mono (x.trans M)
 refine B6 Bg y.1 O ay G8 (λe=>by cases e) O λfd cf=>?_
 obtain⟨fe,be,E⟩:=bd E
 refine CX O O O gB O (λh' o=>On (St.all h') (ce.mono (o.all y.1)) (cf.mono (o.all y.1)) be) λcg=>?_
 have ff:=cg
 refine AA O (Bo O (Bo O (AY O (AY O (BQ (kp [11,10,3] O) λfg H Y=>AC (AH (AA O (BZ O (AM (kp [148,10,3] O) (AX O E (λch E=>?_) (λch E=>?_)))))))))))
 ·refine AH (AL O (kp [4] O) (Ad (λz A k m=>?_)))
  cases E
  exact Dr k m O O (e5.trans (u.trans (x.trans (M.trans Y)))) ⟨O,H⟩
 refine AO (AC (Bt (.inl O) H ?_))
 have az:=ay.mono Y
 refine Af O az KA KX O λfh ci=>Al Bg H.1 O ci BX O λfi cj=>?_
 obtain⟨fj,bf,E⟩:=bd E
 refine CX O O O ZZ O (λh' o=>LI (St.all h') (cj.mono' (o.all H.1)) (iq (n:=1152921504606846976) O) bf) λck=>?_
 have fk:=ck
 refine AA O (Bo O (Bo O (AY O (AY O (BQ (kp [11,12,10,3] O) λfl I ai=>AC (AH (AA O (BZ O (AM (kp [156,12,10,3] O) (AX O E (λcl E=>?_) (λcl E=>?_)))))))))))
 ·refine AH (AL O (kp [4] O) (Ad (λz A k m=>?_)))
  cases E
  exact Dr k m O O (e5.trans (u.trans (x.trans (M.trans (Y.trans ai))))) ⟨O,I⟩
 refine AO (AC (Bt (.inl O) I (Af O (az.mono ai) Ka JL O λfm cm=>Al Bg I.1 O cm BX O λfn cn=>AA O (Ai O (AA O (Cz O ?_))))))
 obtain⟨fo,bg,E⟩:=bd E
 refine CX O O O ZZ O (λh' o=>LI (St.all h') (cn.mono' (o.all I.1)) (BG _) bg) λco=>?_
 have fp:=co
 refine AA O (Bo O (Bo O (AY O (BQ (kp [11] O) λfq bh cp=>AH (AA O (AL O (kp [4] O) (Ad (λz A k m=>?_))))))))
 cases E
 exact Dr k m O O (e5.trans (u.trans (x.trans (M.trans (Y.trans (ai.trans cp)))))) ⟨O,bh⟩
theorem G2 (hs:St S L h) {a:Value}{c:(List Ax)}(b:Sl S h BE a c) {r:(List Ax)}(E:B4 N c=some r):
 CL Tryz.prog 56 #[a] S h (λv S' h'=>St S' (OS BE 69 v r::L) h'):=by
 refine BF (l:=[a]) 8 Tryz.func56 O Tryz.ntmps56 O λB=>?_
 rw[B4] at E
 rcases b.cases with ⟨rfl,rfl⟩|⟨s,o,rfl,b⟩
 ·have E1:(some ([]:List Ax))=some r:=by simpa [chk,KR] using E
  refine AH (AL O (kp [0] O) (AC (AH (AA O (Ux O O O Vn (AM (kp [4,0] O) (Xb O (AH (AL O (kp [2] O) (Ad (λt u d g=>?_)))))))))))
  have i:=hs.nil BE 69
  cases E
  exact Dr d g O O (B9.refl S h) i
 refine AH (AL O (kp [0] O) (AC (AH (AA O (Xk O O O Vn (AM (kp [4,0] O) (Xc O (AO (WF.sl (Xl (r:=BE) XE O O hs λv1 w j p=>AI 1 (AA O (AG ?_))))))))))))
 obtain⟨k,E⟩:=MU E
 refine JT (r:=BE) (l:=([]:List Ax)) (xs:=c) O O XE O (Sl.src (b.mono' p)) O k O j (λ_=> .head) λx y m n=>AI 1 (AY O (AG (AZ (kp [2] O) (Ad (λt u d g=>?_)))))
 cases E
 exact Dr d g O O (p.trans n) m
theorem Oo (hs:St S L h) {C:Value}{c:Am}(ak:Rd S h CP C c) {r:Am}(E:Iv N c=some r):
 CL Tryz.prog 29 #[C] S h (λv S' h'=>∃w1 w2 w3 w4 w5 w6:Value,v= .agg #[vI r.Hour,w1,w2,w3,w4,w5,w6]∧AE r.Hour∧Sl S' h' Ar w3 r.Queue∧St S' (OO AN.int 3 29 w1 r.Own::OS AN.int 3 w2 r.Rem::OS BE 69 w4 r.Gates::OS AN.int 3 w5 r.In::OS AN.int 3 w6 r.Out::L) h'):=by
 refine BF (l:=[C]) 43 Tryz.func29 O Tryz.ntmps29 O λB=>?_
 rw[Iv] at E
 refine WF.sl ?_
 obtain⟨v3,v5,v7,v9,ab,Z,rfl,r2,k4,k6,k8,bx,bz,b0⟩:=CP.ex ak
 refine P9 O O O hs λam cw a9 ay=>Cn OT O a9 λan cx ap az=>AZ (kp [2,1] O) (WF.sl (AI 3 (AD D2 O (AT A6 ap O (mt mh) O G9 O (Ak O (k4.mono' (ay.trans az)) E3 O λcy=>AG ?_)))))
 obtain⟨ba,E⟩:=MU E
 refine Yx AN.int 3 XG O O ba O O ap λao a0 aq bb=>AI 1 (AY O (AG (AZ (kp [3,2,1] O) (AC (AH (AD D2 O (AT A6 aq O (mt (mt mh)) O G9 O ?_)))))))
 have bc:=k4.mono' (ay.trans (az.trans bb))
 refine Ak O bc E3 O λcz=>AA O (AM (kp [13,12,11,3,2,1] O) (Aj (λa w=>∃(y:List (List Int)),IV B S a0 (43,[]) a w [(3,ao),(2,vP an 0),(1,vP am 0)] (OO AN.int 3 29 ao y::Bx an 36 [vI 0,vN,vN,vN,vN,vN,vN]::Bx am 36 [vI c.Hour,v3,v5,v7,v9,ab,Z]::L) λ_ _=>EK N c y=some r) ?_ ?_))
 ·refine A3 (λn1=>λa w=>∃(J:Int) (ac:List (List Int)),IV B S a0 (43,[]) a w [(12,vI (↑c.Own.length:Int)),(11,v3),(3,ao),(2,vP an 0),(1,vP am 0),(13,vI J)] (OO AN.int 3 29 ao ac::Bx an 36 [vI 0,vN,vN,vN,vN,vN,vN]::Bx am 36 [vI c.Hour,v3,v5,v7,v9,ab,Z]::L) λ_ _=>AE J∧EJ N c (EK N c) n1 J ac=some r) N ?_ ?_ ?_
  ·intro aa ww V W
   exact⟨0,(List.replicate ((↑c.Own.length:Int):Int).toNat ([]:(List Int))),_,_,V.sub (kp [12,11,3,2,1,13] O),W,aq,(B9.refl S a0),(iq (n:=0) O),E⟩
  ·rintro aa ww ⟨_,_,_,_,_,_,_,_,_,E⟩
   rw[EJ] at E;cases E
  rintro n1 aa ww ⟨J,ac,c0,c1,V,W,G,a1,c2,E⟩
  refine Ac ?_ V W
  clear V W ww aa
  rw[EJ] at E
  refine AH (Ao O (AM (kp [14,12,11,3,2,1,13] O) (AC (AX O E (λb1 E=>?_) (λb1 E=>?_)))))
  ·refine AO (AC (A8 (AH (AA O ?_))))
   obtain⟨c3,be,E⟩:=bd E
   refine A9 O O (bc.mono' a1) E3 be O λc4 b2=>Al A6 G.1 O b2 BX O λc5 b3=>AY O (AL O (kp [5,4,12,11,3,2,1,13] O) (EX (AI 3 (AA O (AA O (AA O (AG ?_)))))))
   obtain⟨b4,bf,E⟩:=bd E
   refine Bf O O O P5 O G (DE (St.all _) (b3.mono (λb hb=>G.1 b hb) (λ_ _=>rfl)) bf) λc6 c7 c8 cg b5 b6 p=>?_
   have bg:=p
   have ad:=G.join b6 bg ⟨OS.flat (λ{_ _ _ _ _ _} k=>k),trivial⟩
   simp only[List.cons_append,List.nil_append] at ad
   refine AI 1 ?_
   obtain⟨c9,bh,E⟩:=bd E
   refine N3 (r:=AN.int) ad (mt mh) O O E3 bh O λda bi=>AG ?_
   obtain⟨db,bj,E⟩:=bd E
   refine U1 (r:=AN.int) (i:=J) O O bi bj BX ad λdc bk b7=>AZ (kp [12,11,3,2,1,13] O) (BP (BY (.inl O) (Ai O (AA O (AM (kp [13,12,11,3,2,1] O) (WF.nil (λaa ww V W=>?_)))))))
   exact⟨(BM (J+1)),(upd ac J b4),_,_,V.sub (kp [12,11,3,2,1,13] O),W,bk,(a1.trans (b5.trans b7)),(BG _),E⟩
  refine BA O (λaa ww V W=>?_)
  exact⟨ac,_,_,V.sub (kp [3,2,1] O),W,G,a1,E⟩
 rintro aa ww ⟨y,dd,de,V,W,ar,b8,E⟩
 refine Ac ?_ V W
 clear V W ww aa
 rw[EK] at E
 refine WF.sl (AI 2 (AA O (AD D2 O (AG ?_))))
 obtain⟨s,d,rfl,df⟩:=ar.oolen mh
 refine H2 (vs:=[(.slice s y.length d)]) (cs':=[vI c.Hour,(.slice s y.length d),v5,v7,v9,ab,Z]) O O O O G9 O ar (.tail (.tail .head)) O O λdg X b9=>AZ (kp [2,1] O) (WF.sl (AI 2 (AD Jm O (AT A6 X O (mt (mt mh)) O BX O (AG ?_)))))
 have au:=ay.trans (az.trans (bb.trans (b8.trans b9)))
 obtain⟨H,bl,E⟩:=bd E
 refine Bf O O O P5 O X (DE (St.all _) ((k6.mono' au).mono (λb hb=>X.1 b hb) (λ_ _=>rfl)) bl) λdh di dj ch ca cb p=>?_
 have bm:=p
 have ae:=X.join cb bm ⟨OS.flat (λ{_ _ _ _ _ _} k=>k),trivial⟩
 simp only[List.cons_append,List.nil_append] at ae
 refine AI 1 (AD Jm O (AG ?_))
 obtain⟨x,j,rfl,dk⟩:=ae.oslen mh
 refine H2 (vs:=[(.slice x H.length j)]) (cs':=[vI c.Hour,(.slice s y.length d),(.slice x H.length j),v7,v9,ab,Z]) O O O O BX O ae (.tail (.tail (.tail .head))) O O λdl Y cc=>AZ (kp [2,1] O) (WF.sl (AI 2 (AD Hw O (AT A6 Y O (mt (mt (mt mh))) O Ke O (AG ?_)))))
 have av:=au.trans (ca.trans cc)
 obtain⟨K,bn,E⟩:=bd E
 refine Bf O O O fM O Y (G2 (St.all _) ((bx.mono' av).mono (λb hb=>Y.1 b hb) (λ_ _=>rfl)) bn) λdm dn ci cd bo bp p=>?_
 have a2:=p
 have M:=Y.join bp a2 ⟨OS.flat (λ{_ _ _ _ _ _} k=>k),trivial⟩
 simp only[List.cons_append,List.nil_append] at M
 refine AI 1 (AD Hw O (AG ?_))
 obtain⟨o,g,rfl,cj⟩:=M.oslen mh
 refine H2 (vs:=[(.slice o K.length g)]) (cs':=[vI c.Hour,(.slice s y.length d),(.slice x H.length j),v7,(.slice o K.length g),ab,Z]) O O O O Ke O M (.tail (.tail (.tail (.tail .head)))) O O λck D bq=>AZ (kp [2,1] O) (WF.sl (AI 2 (AD KX O (AT A6 D O (mt (mt (mt (mt mh)))) O BX O (AG ?_)))))
 have af:=av.trans (bo.trans bq)
 obtain⟨A,a3,E⟩:=bd E
 refine Bf O O O P5 O D (DE (St.all _) ((bz.mono' af).mono (λb hb=>D.1 b hb) (λ_ _=>rfl)) a3) λcl cm cn ce br bs p=>?_
 have a4:=p
 have Q:=D.join bs a4 ⟨OS.flat (λ{_ _ _ _ _ _} k=>k),trivial⟩
 simp only[List.cons_append,List.nil_append] at Q
 refine AI 1 (AD KX O (AG ?_))
 obtain⟨u,m,rfl,co⟩:=Q.oslen mh
 refine H2 (vs:=[(.slice u A.length m)]) (cs':=[vI c.Hour,(.slice s y.length d),(.slice x H.length j),v7,(.slice o K.length g),(.slice u A.length m),Z]) O O O O BX O Q (.tail (.tail (.tail (.tail (.tail .head))))) O O λcp F bt=>AZ (kp [2,1] O) (WF.sl (AI 2 (AD JL O (AT A6 F O (mt (mt (mt (mt (mt mh))))) O BX O (AG ?_)))))
 have ag:=af.trans (br.trans bt)
 obtain⟨I,a5,E⟩:=bd E
 refine Bf O O O P5 O F (DE (St.all _) ((b0.mono' ag).mono (λb hb=>F.1 b hb) (λ_ _=>rfl)) a5) λcq cr cs cf bu bv p=>?_
 have a6:=p
 have U:=F.join bv a6 ⟨OS.flat (λ{_ _ _ _ _ _} k=>k),trivial⟩
 simp only[List.cons_append,List.nil_append] at U
 refine AI 1 (AD JL O (AG ?_))
 obtain⟨z,t,rfl,ct⟩:=U.oslen mh
 refine H2 (vs:=[(.slice z I.length t)]) (cs':=[vI c.Hour,(.slice s y.length d),(.slice x H.length j),v7,(.slice o K.length g),(.slice u A.length m),(.slice z I.length t)]) O O O O BX O U (.tail (.tail (.tail (.tail (.tail (.tail .head)))))) O O λcu ah bw=>AZ (kp [2,1] O) (WF.sl (AI 1 (Dk (vs:=[vI c.Hour,(.slice s y.length d),(.slice x H.length j),v7,(.slice o K.length g),(.slice u A.length m),(.slice z I.length t)]) A6 ah O (mt (mt (mt (mt (mt (mt mh)))))) O O G8 O O (AG ?_))))
 have ai:=ag.trans (bu.trans bw)
 have aw:=k8.mono' ai
 refine HM (vs:=[vI c.Hour,(.slice s y.length d),(.slice x H.length j),v7,(.slice o K.length g),(.slice u A.length m),(.slice z I.length t)]) (cs':=[vI c.Hour,(.slice s y.length d),(.slice x H.length j),v7,(.slice o K.length g),(.slice u A.length m),(.slice z I.length t)]) O O O (AF O (AF O (AF O (AF aw.one (AF O (AF O (AF O EG))))))) G8 O ah (.tail (.tail (.tail (.tail (.tail .head))))) O O λcv a7 ax=>AZ (kp [2] O) (Ad (λaa ww V W=>?_))
 have aj:=a7.sel [4,3,2,1,0,0] 1 O
 have a8:=aj.drop (.tail (.tail (.tail (.tail (.tail .head)))))
 cases E
 exact KD V O W (IF (Xq V W aj O (mt (mt (mt (mt (mt mh))))) G8 O) KC) O (ai.trans ax) ⟨_,_,_,_,_,_,O,r2,(aw.mono' ax),a8⟩
theorem Pv (hs:St S L h) {i:Value}{n:A4}(u:Rd S h Bv i n) {j:Value}{b:Ax}(x:Rd S h BE j b) {c:Int}(G:AE c) {r:Ax}(E:Hy N n b c=some r):
 CL Tryz.prog 21 #[i,j,vI c] S h (λv S' h'=>v= .agg #[vI r.Pos,vI r.Target,.bool r.Stuck,.bool r.Open]∧Ax.ok r∧St S' (L) h'):=by
 refine BF (l:=[i,j,vI c]) 24 Tryz.func21 O Tryz.ntmps21 O λB=>?_
 rw[Hy] at E
 refine WF.sl (B3 O u (λe=>by cases e) O hs λq1 S2 h3 X e5 k6=>?_)
 obtain⟨rfl,⟨r9,Y⟩⟩:=BE.ex (x.mono e5)
 refine P9 O O O X λy am I J=>Cn SH O I λz A k K=>AZ (kp [6,4,3,2] O) (AC (AH (AA O (AM (kp [7,6,4,3,2] O) (Aj (λa w=>∃(o:Bool) (p:Bool),IV B S2 A (24,[]) a w [(6,vP z 0),(4,vP y 0)] (Bx z 69 [vI 0,vI 0,.bool false,.bool false]::Bx y 69 [vI b.Pos,vI b.Target,.bool o,.bool p]::L) λ_ _=>Fe N b o p=some r) ?_ ?_)))))
 ·refine AH (BK O (AL O (kp [8,7,6,4,3,2] O) (AX O E (λZ E=>?_) (λZ E=>?_))))
  ·refine EX (AI 1 (AD Rj O (AG (H2 (vs:=[.bool true]) (cs':=[vI b.Pos,vI b.Target,.bool true,.bool b.Open]) O O O O Ol O k (.tail .head) O O λan M ab=>AZ (kp [6,4] O) (WF.nil (λs t d g=>?_))))))
   exact⟨true,b.Open,_,_,d.sub (kp [6,4] O),g,M,ab,E⟩
  refine AH (BK O (AL O (kp [11,7,6,4,3,2] O) (AX O E (λac E=>?_) (λac E=>?_))))
  ·refine EX (AI 1 (AD Rj O (AG (H2 (vs:=[.bool false]) (cs':=[vI b.Pos,vI b.Target,.bool false,.bool b.Open]) O O O O Ol O k (.tail .head) O O λao Q ad=>AZ (kp [6,4] O) (WF.nil (λs t d g=>?_))))))
   exact⟨false,b.Open,_,_,d.sub (kp [6,4] O),g,Q,ad,E⟩
  refine AC (AH (BK O (AL O (kp [14,7,6,4,3,2] O) (Ga (λa w=>∃(H:Bool),IV B S2 A (24,[]) a w [(6,vP z 0),(4,vP y 0),(3,q1),(2,vI c),(14,.bool H)] (Bx z 69 [vI 0,vI 0,.bool false,.bool false]::Bx y 69 [vI b.Pos,vI b.Target,.bool b.Stuck,.bool b.Open]::L) λ_ _=>G4 N n b c (Fe N b) H=some r) ?_ ?_))))
  ·refine AX O E (λae E=>?_) (λae E=>?_)
   ·refine AO (WF.nil (λs t d g=>?_))
    exact⟨(decide (c=2)),_,_,d.sub (kp [6,4,3,2,14] O),g,k,(B9.refl S2 A),E⟩
   refine BY (.inl O) (BK O (AL O (kp [14,6,4,3,2] O) (WF.nil (λs t d g=>?_))))
   exact⟨(decide (c=3)),_,_,d.sub (kp [6,4,3,2,14] O),g,k,(B9.refl S2 A),E⟩
  rintro s t ⟨H,ap,aq,d,g,m,C,E⟩
  refine Ac ?_ d g
  clear d g t s
  rw[G4] at E
  refine AX O E (λaf E=>?_) (λaf E=>?_)
  ·refine AH (Af O (k6.mono (J.trans (K.trans C))) A4.f_Kind GF O λar ag=>Ag A6 m.1 O ag Ae O λau=>BK O (AM (kp [19,6,4,2] O) (AX O E (λah E=>?_) (λah E=>?_))))
   ·refine EX (AI 3 (AA O (BK O (AD Nq O (AG (H2 (vs:=[.bool (decide (c=2))]) (cs':=[vI b.Pos,vI b.Target,.bool b.Stuck,.bool (decide (c=2))]) O O O O Ol O m (.tail .head) O O λav U ai=>AZ (kp [6,4] O) (WF.nil (λs t d g=>?_))))))))
    exact⟨b.Stuck,(decide (c=2)),_,_,d.sub (kp [6,4] O),g,U,(C.trans ai),E⟩
   refine AO (WF.nil (λs t d g=>?_))
   exact⟨b.Stuck,b.Open,_,_,d.sub (kp [6,4] O),g,m,C,E⟩
  refine AO (WF.nil (λs t d g=>?_))
  exact⟨b.Stuck,b.Open,_,_,d.sub (kp [6,4] O),g,m,C,E⟩
 rintro s t ⟨o,p,aw,ax,d,g,D,aj,E⟩
 refine Ac ?_ d g
 clear d g t s
 rw[Fe] at E
 refine WF.sl (AI 1 (Dk (vs:=[vI b.Pos,vI b.Target,.bool o,.bool p]) A6 D O (mt mh) O O Gn O O (AG (DW (vs:=[vI b.Pos,vI b.Target,.bool o,.bool p]) O O O O Gn O D .head O λay V ak=>AZ (kp [6] O) (Ad (λs t d g=>?_))))))
 have F:=V.drop (.tail .head)
 have W:=F.drop .head
 cases E
 exact KD d O g (IF (Xq d g F O mh Gn O) KC) O (e5.trans (J.trans (K.trans (aj.trans ak)))) ⟨O,⟨r9,Y⟩,W⟩
theorem I8 (hs:St S L h) {d:Int}(i:AE d) {b:Int}(g:AE b) {a:Int}(c:AE a) {r:Int}(E:Gf N d b a=some r):
 CL Tryz.prog 45 #[vI d,vI b,vI a] S h (λv S' h'=>v=vI r∧AE r∧St S' (L) h'):=by
 refine BF (l:=[vI d,vI b,vI a]) 16 Tryz.func45 O Tryz.ntmps45 O λB=>?_
 rw[Gf] at E
 refine AH (AL O (kp [0,1,2] O) (AC (AH (AA O (AA O (Ao O (AM (kp [9,0,1,2] O) (AX O E (λo E=>?_) (λo E=>?_)))))))))
 ·refine AH (AA O (AL O (kp [6] O) (Ad (λm n j k=>?_))))
  cases E
  exact Dr j k O O (B9.refl S h) ⟨O,g,hs⟩
 refine AO (AC (AH (AA O (AA O (Bk O (AM (kp [13,0,2] O) (AX O E (λp E=>?_) (λp E=>?_))))))))
 ·refine AH (AA O (AL O (kp [6] O) (Ad (λm n j k=>?_))))
  cases E
  exact Dr j k O O (B9.refl S h) ⟨O,c,hs⟩
 refine AO (AH (AA O (AL O (kp [6] O) (Ad (λm n j k=>?_)))))
 cases E
 exact Dr j k O O (B9.refl S h) ⟨O,i,hs⟩
end Go.Proofs.YtblcgjadhemlbaaGreat
