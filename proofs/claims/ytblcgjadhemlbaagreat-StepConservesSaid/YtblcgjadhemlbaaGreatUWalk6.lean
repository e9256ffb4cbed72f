import Derived.Test.YtblcgjadhemlbaaGreatUWalk5
namespace Go.Proofs.YtblcgjadhemlbaaGreat
open Go.RowKit
set_option linter.unusedVariables false
set_option linter.unusedSimpArgs false
set_option maxRecDepth 10000
set_option maxHeartbeats 2000000
variable {N:Nat}{S:Nat→Prop}{L:List HP}{h:Av}
theorem LH (hs:St S L h) {c:Value}{i:(List Int)}(j:Sl S h AM.int c i) {b:Int}(t:AG b) {r:Int×Bool}(E:Ha N i b=some r):
 CG Tryz.prog 38 #[c,vI b] S h (λv S' h'=>v= .tuple #[vI r.1,.bool r.2]∧AG r.1∧St S' (L) h'):=by
 refine BB (l:=[c,vI b]) 29 Tryz.func38 O Tryz.ntmps38 O λB=>?_
 rw[Ha] at E
 refine AI (AY O (AL O (kp [0,1] O) (AI (AL O (kp [6,0,1] O) (AD (AI (AA O (Al O j BG O λY=>AA O (AN (kp [11,10,9,6,1] O) (Am (λa w=>∃(z:Int),IV B S h (29,[]) a w [(6,vI z)] (L) λ_ _=>AG z∧GE N z=some r) ?_ ?_))))))))))
 ·refine A3 (λG=>λa w=>∃(u:Int) (m:Int),IV B S h (29,[]) a w [(10,vI (↑i.length:Int)),(9,c),(1,vI b),(6,vI u),(11,vI m)] (L) λ_ _=>AG u∧AG m∧EU N i b (GE N) G u m=some r) N ?_ ?_ ?_
  ·intro o p d g
   exact⟨0,0,_,_,d.sub (kp [10,9,1,6,11] O),g,hs,(B9.refl S h),(iq (n:=0) O),(iq (n:=0) O),E⟩
  ·rintro o p ⟨_,_,_,_,_,_,_,_,_,_,E⟩
   rw[EU] at E;cases E
  rintro G o p ⟨u,m,H,I,d,g,k,q,J,K,E⟩
  refine Ad ?_ d g
  clear d g p o
  rw[EU] at E
  refine AI (Aq O (AN (kp [12,10,9,1,6,11] O) (AD (AX O E (λA E=>?_) (λA E=>?_)))))
  ·refine AT (AD (A5 (AI ?_)))
   obtain⟨s,x,E⟩:=bd E
   refine BD O O (j.mono' q) BG x O λM C=>Ah A6 k.1 O C Ag O λQ=>AL O (kp [8,10,9,1,6,11] O) (AD (AI (AA O (Aq O (AA O (AV 6 23 (.bool ((decide (s<0))||(decide ((BC (b-u))<s)))) ?_ ?_))))))
   ·cases U:(decide (s<0))
    ·exact AB O (AA O (AB O (AA O (AB O (AA O (AB O (Cg O (AB O (Bh O (AJ O (AU O)))))))))))
    exact Aa O O
   refine AN (kp [23,8,10,9,1,6,11] O) (AX O E (λD E=>?_) (λD E=>?_))
   ·refine AI (AY O (AL O (kp [5,4] O) (Ac (λo p d g=>?_))))
    cases E
    exact J9 d O g (IC (Im d (v:=_) O) (IC (Im d (v:=_) O) J8)) O q ⟨O,(iq (n:=0) O),k⟩
   refine AT (BY (.inl O) (AA O (AA O (Af O (AL O (kp [6,10,9,1,11] O) (BK (BY (.inl O) (Af O (AA O (AN (kp [11,6,10,9,1] O) (WF.nil (λo p d g=>?_))))))))))))
   exact⟨(BC (u+s)),(BC (m+1)),_,_,d.sub (kp [10,9,1,6,11] O),g,k,q,(BI _),(BI _),E⟩
  refine A9 O (λo p d g=>?_)
  exact⟨u,_,_,d.sub (kp [6] O),g,k,q,J,E⟩
 rintro o p ⟨z,V,W,d,g,y,F,X,E⟩
 refine Ad ?_ d g
 clear d g p o
 rw[GE] at E
 refine AI (AA O (AY O (AL O (kp [5,4] O) (Ac (λo p d g=>?_)))))
 cases E
 exact J9 d O g (IC (Im d (v:=_) O) (IC (Im d (v:=_) O) J8)) O F ⟨O,X,y⟩
theorem Ka (hs:St S L h) {F:Value}{d:AW}(aj:Rd S h B3 F d) {G:Value}{b:Ak}(ak:Rd S h CJ G b) {r:Bool}(E:Hu N d b=some r):
 CG Tryz.prog 14 #[F,G] S h (λv S' h'=>v= .bool r∧St S' (L) h'):=by
 refine BB (l:=[F,G]) 168 Tryz.func14 O Tryz.ntmps14 O λB=>?_
 rw[Hu] at E
 refine WF.sl (B5 O aj (λe=>by cases e) O hs λq1 S2 h3 cq e5 k6=>B5 O (ak.mono e5) (λe=>by cases e) O cq λq8 S9 a0 j u C=>AH 1 (AY O (AF (AZ (kp [3,2] O) (AD (AI (Ai O C Ak.f_Hour Id O λfr cr=>Ah A6 j.1 O cr Ag O λfs=>Aq O (AA O (AV 4 20 (.bool ((decide (b.Hour<0))||(decide (16777216<b.Hour)))) ?_ ?_)))))))))
 ·cases ft:(decide (b.Hour<0))
  ·exact AB O (Ai O C Ak.f_Hour Id O λfu cs=>AB O (Ah A6 j.1 O cs Ag O λfv=>AB O (Bh O (AJ O (AU O)))))
  exact Aa O O
 refine AA O (AV 8 29 (.bool (((decide (b.Hour<0))||(decide (16777216<b.Hour)))||(decide ((↑b.Own.length:Int)≠(↑d.Places.length:Int))))) ?_ ?_)
 ·cases fw:((decide (b.Hour<0))||(decide (16777216<b.Hour)))
  ·exact AB O (Ai O C JS D4 O λfx ct=>AB O (An A6 j.1 O ct HN O λfy cu=>AB O (Al O cu FO O λfz=>AB O (Ai O (k6.mono u) BU DI O λf0 cv=>AB O (An A6 j.1 O cv GO O λf1 cw=>AB O (Al O cw qZ O λf2=>AB O (Bc O (AJ O (AU O)))))))))
  exact Aa O O
 refine AA O (AV 8 38 (.bool ((((decide (b.Hour<0))||(decide (16777216<b.Hour)))||(decide ((↑b.Own.length:Int)≠(↑d.Places.length:Int))))||(decide ((↑b.Rem.length:Int)≠(↑d.Places.length:Int))))) ?_ ?_)
 ·cases f3:(((decide (b.Hour<0))||(decide (16777216<b.Hour)))||(decide ((↑b.Own.length:Int)≠(↑d.Places.length:Int))))
  ·exact AB O (Ai O C JR Jm O λf4 cx=>AB O (An A6 j.1 O cx BP O λf5 cy=>AB O (Al O cy BG O λf6=>AB O (Ai O (k6.mono u) BU DI O λf7 cz=>AB O (An A6 j.1 O cz GO O λf8 c0=>AB O (Al O c0 qZ O λf9=>AB O (Bc O (AJ O (AU O)))))))))
  exact Aa O O
 refine AA O (AV 8 47 (.bool (((((decide (b.Hour<0))||(decide (16777216<b.Hour)))||(decide ((↑b.Own.length:Int)≠(↑d.Places.length:Int))))||(decide ((↑b.Rem.length:Int)≠(↑d.Places.length:Int))))||(decide ((↑b.Gates.length:Int)≠(↑d.Links.length:Int))))) ?_ ?_)
 ·cases ga:((((decide (b.Hour<0))||(decide (16777216<b.Hour)))||(decide ((↑b.Own.length:Int)≠(↑d.Places.length:Int))))||(decide ((↑b.Rem.length:Int)≠(↑d.Places.length:Int))))
  ·exact AB O (Ai O C JT Ht O λgb c1=>AB O (An A6 j.1 O c1 KX O λgc c2=>AB O (Al O c2 KF O λgd=>AB O (Ai O (k6.mono u) Eo HA O λge c3=>AB O (An A6 j.1 O c3 Ju O λgf c4=>AB O (Al O c4 H4 O λgg=>AB O (Bc O (AJ O (AU O)))))))))
  exact Aa O O
 refine AA O (AV 8 56 (.bool ((((((decide (b.Hour<0))||(decide (16777216<b.Hour)))||(decide ((↑b.Own.length:Int)≠(↑d.Places.length:Int))))||(decide ((↑b.Rem.length:Int)≠(↑d.Places.length:Int))))||(decide ((↑b.Gates.length:Int)≠(↑d.Links.length:Int))))||(decide ((↑b.In.length:Int)≠(↑d.Owners.length:Int))))) ?_ ?_)
 ·cases gh:(((((decide (b.Hour<0))||(decide (16777216<b.Hour)))||(decide ((↑b.Own.length:Int)≠(↑d.Places.length:Int))))||(decide ((↑b.Rem.length:Int)≠(↑d.Places.length:Int))))||(decide ((↑b.Gates.length:Int)≠(↑d.Links.length:Int))))
  ·exact AB O (Ai O C JB Ic O λgi c5=>AB O (An A6 j.1 O c5 BP O λgj c6=>AB O (Al O c6 BG O λgl=>AB O (Ai O (k6.mono u) Dl HS O λgm c7=>AB O (An A6 j.1 O c7 KE O λgn c8=>AB O (Al O c8 Jv O λgp=>AB O (Bc O (AJ O (AU O)))))))))
  exact Aa O O
 refine AA O (AV 8 65 (.bool (((((((decide (b.Hour<0))||(decide (16777216<b.Hour)))||(decide ((↑b.Own.length:Int)≠(↑d.Places.length:Int))))||(decide ((↑b.Rem.length:Int)≠(↑d.Places.length:Int))))||(decide ((↑b.Gates.length:Int)≠(↑d.Links.length:Int))))||(decide ((↑b.In.length:Int)≠(↑d.Owners.length:Int))))||(decide ((↑b.Out.length:Int)≠(↑d.Owners.length:Int))))) ?_ ?_)
 ·cases gq:((((((decide (b.Hour<0))||(decide (16777216<b.Hour)))||(decide ((↑b.Own.length:Int)≠(↑d.Places.length:Int))))||(decide ((↑b.Rem.length:Int)≠(↑d.Places.length:Int))))||(decide ((↑b.Gates.length:Int)≠(↑d.Links.length:Int))))||(decide ((↑b.In.length:Int)≠(↑d.Owners.length:Int))))
  ·exact AB O (Ai O C Ii HR O λgr c9=>AB O (An A6 j.1 O c9 BP O λgs da=>AB O (Al O da BG O λgt=>AB O (Ai O (k6.mono u) Dl HS O λgu db=>AB O (An A6 j.1 O db KE O λgv dc=>AB O (Al O dc Jv O λgw=>AB O (Bc O (AJ O (AU O)))))))))
  exact Aa O O
 refine AN (kp [65,3,2] O) (AX O E (λdd E=>?_) (λdd E=>?_))
 ·refine AI (AL O (kp [4] O) (Ac (λz A k m=>?_)))
  cases E
  exact Dm k m O O (e5.trans u) ⟨O,j⟩
 refine AT (AD (AI ?_))
 have bi:=k6.mono u
 refine Ai O bi BU DI O λgx de=>An A6 j.1 O de GO O λdf bj=>Al O bj qZ O λgy=>AA O (AN (kp [69,68,67,3,2] O) (Am (λa w=>IV B S9 a0 (168,[]) a w [(3,q8),(2,q1)] (L) λ_ _=>Ew N d b=some r) ?_ ?_))
 ·refine A3 (λn1=>λa w=>∃(Z:Int),IV B S9 a0 (168,[]) a w [(68,vI (↑d.Places.length:Int)),(67,df),(3,q8),(2,q1),(69,vI Z)] (L) λ_ _=>AG Z∧Eu N d b (Ew N d b) n1 Z=some r) N ?_ ?_ ?_
  ·intro z A k m
   exact⟨0,_,_,k.sub (kp [68,67,3,2,69] O),m,j,(B9.refl S9 a0),(iq (n:=0) O),E⟩
  ·rintro z A ⟨_,_,_,_,_,_,_,_,E⟩
   rw[Eu] at E;cases E
  rintro n1 z A ⟨Z,gz,g0,k,m,ab,ac,g1,E⟩
  refine Ad ?_ k m
  clear k m A z
  rw[Eu] at E
  refine AI (Aq O (AN (kp [70,68,67,3,2,69] O) (AD (AX O E (λdg E=>?_) (λdg E=>?_)))))
  ·refine AT (AD (A5 (WF.sl (AH 3 (AA O ?_)))))
   obtain⟨p,bk,E⟩:=bd E
   refine BD O O (bj.mono' ac) qZ bk O λg2 bl=>B4 A6 ab.1 O bl Jt (λe=>by cases e) O λdh bm=>AF (Cs OR O ab λdi dj a1 V=>AH 1 (AY O (AF ?_)))
   obtain⟨am,an,ao,rfl,dk,dl,dm,dn,bn,bo,dp,dq,dr,ds,dt,bp⟩:=Bw.ex (bm.mono V)
   refine HJ (vs:=[.string p.Name,vI p.Kind,vI p.Office,vI p.Cap,am,an,vI p.Num,vI p.Den,vI p.Down,vI p.Delay,vI p.Floor,ao]) (cs':=[.string p.Name,vI p.Kind,vI p.Office,vI p.Cap,am,an,vI p.Num,vI p.Den,vI p.Down,vI p.Delay,vI p.Floor,ao]) O O O (AE O (AE O (AE O (AE O (AE bn.one (AE bo.one (AE O (AE O (AE O (AE O (AE O (AE bp.one EA)))))))))))) Jt O a1 .head O O λdu t ad=>AZ (kp [5,6,68,67,3,2,69] O) (AD (BY (.inr ⟨mo,by kernel_rfl⟩) ?_))
   have ap:=C.mono (ac.trans (V.trans ad))
   refine Ai O ap JR Jm O λdv bq=>An A6 t.1 O bq BP O λdw br=>AA O ?_
   obtain⟨bs,a2,E⟩:=bd E
   refine BD O O br BG a2 O λdx bt=>Ah A6 t.1 O bt Ag O λdy=>Aq O (AA O ?_)
   obtain⟨bu,s,E⟩:=bd E
   refine AV 11 91 (.bool bu) ?_ ?_
   ·cases aq:(decide (bs<0))
    ·have s:=GB aq s
     refine AB O (Ai O ap JR Jm O λdz bv=>AB O (An A6 t.1 O bv BP O λd0 bw=>AB O (AA O (AB O ?_))))
     obtain⟨d1,a3,s⟩:=bd s
     refine BD O O bw BG a3 O λd2 bx=>AB O (Ah A6 t.1 O bx Ag O λd3=>AB O (AC K1 O (AB O (AS A6 t O mh O Ag O (AB O (Cg O (AB O (OM O O O (AB O (Bh O (AJ O ?_)))))))))))
     cases s
     exact AU O
    have s:=GA aq s
    cases s
    exact Aa O O
   refine AN (kp [91,68,67,3,2,69] O) (AX O E (λbz E=>?_) (λbz E=>?_))
   ·refine AI (AL O (kp [4] O) (Ac (λz A k m=>?_)))
    have a4:=t.drop .head
    cases E
    exact Dm k m O O (e5.trans (u.trans (ac.trans (V.trans ad)))) ⟨O,a4⟩
   refine AT (BK (BY (.inl O) (Af O (AA O (AN (kp [69,68,67,3,2] O) (WF.nil (λz A k m=>?_)))))))
   have a5:=t.drop .head
   exact⟨(BC (Z+1)),_,_,k.sub (kp [68,67,3,2,69] O),m,a5,(ac.trans (V.trans ad)),(BI _),E⟩
  refine A9 O (λz A k m=>?_)
  exact⟨_,_,k.sub (kp [3,2] O),m,ab,ac,E⟩
 rintro z A ⟨ae,af,k,m,ag,x,E⟩
 refine Ad ?_ k m
 clear k m A z
 rw[Ew] at E
 refine AD (AI ?_)
 have ar:=bi.mono x
 refine Ai O ar Eo HA O λd4 b0=>An A6 ag.1 O b0 Ju O λb1 au=>Al O au H4 O λd5=>AA O (AN (kp [96,95,94,3,2] O) (Am (λa w=>IV B ae af (168,[]) a w [(3,q8),(2,q1)] (L) λ_ _=>Ev N d b=some r) ?_ ?_))
 ·refine A3 (λn3=>λa w=>∃(J:Int),IV B ae af (168,[]) a w [(95,vI (↑d.Links.length:Int)),(94,b1),(3,q8),(2,q1),(96,vI J)] (L) λ_ _=>AG J∧Et N d b (Ev N d b) n3 J=some r) N ?_ ?_ ?_
  ·intro z A k m
   exact⟨0,_,_,k.sub (kp [95,94,3,2,96] O),m,ag,(B9.refl ae af),(iq (n:=0) O),E⟩
  ·rintro z A ⟨_,_,_,_,_,_,_,_,E⟩
   rw[Et] at E;cases E
  rintro n3 z A ⟨J,d6,d7,k,m,Q,D,d8,E⟩
  refine Ad ?_ k m
  clear k m A z
  rw[Et] at E
  refine AI (Aq O (AN (kp [97,95,94,3,2,96] O) (AD (AX O E (λb2 E=>?_) (λb2 E=>?_)))))
  ·refine AT (AD (A5 (WF.sl (AH 3 (AA O ?_)))))
   obtain⟨c,a6,E⟩:=bd E
   refine BD O O (au.mono' D) H4 a6 O λd9 b3=>B4 A6 Q.1 O b3 HV (λe=>by cases e) O λea b4=>AF (Cs OQ O Q λeb ec a7 K=>AH 1 (AY O (AF ?_)))
   obtain⟨av,aw,ax,rfl,ed,ee,ef,eg,b5,b6,b7,eh,ei,ej,ek,el,em,en,eo,ep,eq,er⟩:=Bu.ex (b4.mono K)
   refine HJ (vs:=[.string c.Name,vI c.Kind,vI c.From,vI c.To,av,aw,ax,vI c.Positions,vI c.Speed,vI c.Leak,vI c.Crest,vI c.Num,vI c.Den,vI c.Prime,vI c.Break,vI c.BackNum,vI c.BackDen,vI c.Delay]) (cs':=[.string c.Name,vI c.Kind,vI c.From,vI c.To,av,aw,ax,vI c.Positions,vI c.Speed,vI c.Leak,vI c.Crest,vI c.Num,vI c.Den,vI c.Prime,vI c.Break,vI c.BackNum,vI c.BackDen,vI c.Delay]) O O O (AE O (AE O (AE O (AE O (AE b5.one (AE b6.one (AE b7.one (AE O (AE O (AE O (AE O (AE O (AE O (AE O (AE O (AE O (AE O (AE O EA)))))))))))))))))) HV O a7 .head O O λes U W=>AZ (kp [7,8,95,94,3,2,96] O) (WF.sl (AH 5 (Ai O (C.mono (x.trans (D.trans (K.trans W)))) JT Ht O λet b8=>An A6 U.1 O b8 KX O λeu b9=>AA O ?_)))
   obtain⟨g,a8,E⟩:=bd E
   refine BD O O b9 KF a8 O λev ca=>B4 A6 U.1 O ca Gi (λe=>by cases e) O λew cb=>AF (Cs SC O U λey ez a9 X=>?_)
   obtain⟨rfl,⟨e0,e1⟩⟩:=A8.ex (cb.mono X)
   refine Dh (vs:=[vI g.Pos,vI g.Target,.bool g.Stuck,.bool g.Open]) O O O O Gi O a9 .head O λe2 i ah=>AZ (kp [9,8,95,94,3,2,96] O) (AD (AI (AC Mq O (AS A6 i O mh O Ag O (Aq O (AA O (AV 6 115 (.bool ((decide (g.Pos<0))||(decide (c.Positions<g.Pos)))) ?_ ?_)))))))
   ·cases e3:(decide (g.Pos<0))
    ·exact AB O (AC Mq O (AB O (AS A6 i O mh O Ag O (AB O (AC JF O (AB O (AS A6 i O (mt mh) O Ag O (AB O (Bh O (AJ O (AU O)))))))))))
    exact Aa O O
   refine AA O (AV 4 120 (.bool (((decide (g.Pos<0))||(decide (c.Positions<g.Pos)))||(decide (g.Target<0)))) ?_ ?_)
   ·cases e4:((decide (g.Pos<0))||(decide (c.Positions<g.Pos)))
    ·exact AB O (AC PH O (AB O (AS A6 i O mh O Ag O (AB O (Aq O (AJ O (AU O)))))))
    exact Aa O O
   refine AA O (AV 6 127 (.bool ((((decide (g.Pos<0))||(decide (c.Positions<g.Pos)))||(decide (g.Target<0)))||(decide (c.Positions<g.Target)))) ?_ ?_)
   ·cases e6:(((decide (g.Pos<0))||(decide (c.Positions<g.Pos)))||(decide (g.Target<0)))
    ·exact AB O (AC PH O (AB O (AS A6 i O mh O Ag O (AB O (AC JF O (AB O (AS A6 i O (mt mh) O Ag O (AB O (Bh O (AJ O (AU O)))))))))))
    exact Aa O O
   refine AN (kp [127,9,8,95,94,3,2,96] O) (AX O E (λcc E=>?_) (λcc E=>?_))
   ·refine AI (AL O (kp [4] O) (Ac (λz A k m=>?_)))
    have ba:=i.sel [] 2 O
    cases E
    exact Dm k m O O (e5.trans (u.trans (x.trans (D.trans (K.trans (W.trans (X.trans ah))))))) ⟨O,ba⟩
   refine AT (AI (AC No O (AS A6 i O mh O Ol O (AA O (AV 4 134 (.bool (g.Open&&(decide (c.Kind≠5)))) ?_ ?_)))))
   ·cases e7:g.Open
    ·exact Aa O O
    exact AB O (AC GD O (AB O (AS A6 i O (mt mh) O Ag O (AB O (Bc O (AJ O (AU O)))))))
   refine AA O (AV 4 139 (.bool ((g.Open&&(decide (c.Kind≠5)))&&(decide (c.Kind≠3)))) ?_ ?_)
   ·cases e8:(g.Open&&(decide (c.Kind≠5)))
    ·exact Aa O O
    exact AB O (AC GD O (AB O (AS A6 i O (mt mh) O Ag O (AB O (Bc O (AJ O (AU O)))))))
   refine AN (kp [139,95,94,3,2,96] O) (AX O E (λcd E=>?_) (λcd E=>?_))
   ·refine AI (AL O (kp [4] O) (Ac (λz A k m=>?_)))
    have bb:=i.sel [] 2 O
    cases E
    exact Dm k m O O (e5.trans (u.trans (x.trans (D.trans (K.trans (W.trans (X.trans ah))))))) ⟨O,bb⟩
   refine AT (BK (BY (.inl O) (Af O (AA O (AN (kp [96,95,94,3,2] O) (WF.nil (λz A k m=>?_)))))))
   have bc:=i.sel [] 2 O
   exact⟨(BC (J+1)),_,_,k.sub (kp [95,94,3,2,96] O),m,bc,(D.trans (K.trans (W.trans (X.trans ah)))),(BI _),E⟩
  refine A9 O (λz A k m=>?_)
  exact⟨_,_,k.sub (kp [3,2] O),m,Q,D,E⟩
 rintro z A ⟨e9,fb,k,m,y,M,E⟩
 refine Ad ?_ k m
 clear k m A z
 rw[Ev] at E
 refine AD (Bl (.inl O) y (B4 Bb y.1 O (ar.mono M) G8 (λe=>by cases e) O λfc ce=>?_))
 have ay:=C.mono (x.trans M)
 refine B4 Bb y.1 O ay Gj (λe=>by cases e) O λfd cf=>?_
 obtain⟨fe,be,E⟩:=bd E
 refine CE O O O gO O (λh' o=>Om (St.all h') (ce.mono (o.all y.1)) (cf.mono (o.all y.1)) be) λcg=>?_
 have ff:=cg
 refine AA O (Bi O (Bi O (AY O (AY O (BJ (kp [11,10,3] O) λfg H Y=>AD (AI (AA O (BV O (AN (kp [148,10,3] O) (AX O E (λch E=>?_) (λch E=>?_)))))))))))
 ·refine AI (AL O (kp [4] O) (Ac (λz A k m=>?_)))
  cases E
  exact Dm k m O O (e5.trans (u.trans (x.trans (M.trans Y)))) ⟨O,H⟩
 refine AT (AD (Bl (.inl O) H ?_))
 have az:=ay.mono Y
 refine Ai O az JB Ic O λfh ci=>An Bb H.1 O ci BP O λfi cj=>?_
 obtain⟨fj,bf,E⟩:=bd E
 refine CE O O O Zf O (λh' o=>LH (St.all h') (cj.mono' (o.all H.1)) (iq (n:=1152921504606846976) O) bf) λck=>?_
 have fk:=ck
 refine AA O (Bi O (Bi O (AY O (AY O (BJ (kp [11,12,10,3] O) λfl I ai=>AD (AI (AA O (BV O (AN (kp [156,12,10,3] O) (AX O E (λcl E=>?_) (λcl E=>?_)))))))))))
 ·refine AI (AL O (kp [4] O) (Ac (λz A k m=>?_)))
  cases E
  exact Dm k m O O (e5.trans (u.trans (x.trans (M.trans (Y.trans ai))))) ⟨O,I⟩
 refine AT (AD (Bl (.inl O) I (Ai O (az.mono ai) Ii HR O λfm cm=>An Bb I.1 O cm BP O λfn cn=>AA O (Af O (AA O (Cg O ?_))))))
 obtain⟨fo,bg,E⟩:=bd E
 refine CE O O O Zf O (λh' o=>LH (St.all h') (cn.mono' (o.all I.1)) (BI _) bg) λco=>?_
 have fp:=co
 refine AA O (Bi O (Bi O (AY O (BJ (kp [11] O) λfq bh cp=>AI (AA O (AL O (kp [4] O) (Ac (λz A k m=>?_))))))))
 cases E
 exact Dm k m O O (e5.trans (u.trans (x.trans (M.trans (Y.trans (ai.trans cp)))))) ⟨O,bh⟩
theorem G0 (hs:St S L h) {a:Value}{c:(List Au)}(b:Sl S h A8 a c) {r:(List Au)}(E:Bz N c=some r):
 CG Tryz.prog 56 #[a] S h (λv S' h'=>St S' (OS A8 69 v r::L) h'):=by
 refine BB (l:=[a]) 8 Tryz.func56 O Tryz.ntmps56 O λB=>?_
 rw[Bz] at E
 rcases b.cases with ⟨rfl,rfl⟩|⟨s,o,rfl,b⟩
 ·have E1:(some ([]:List Au))=some r:=by simpa [chk,KN] using E
  refine AI (AL O (kp [0] O) (AD (AI (AA O (Uw O O O Vo (AN (kp [4,0] O) (Xe O (AI (AL O (kp [2] O) (Ac (λt u d g=>?_)))))))))))
  have i:=hs.nil A8 69
  cases E
  exact Dm d g O O (B9.refl S h) i
 refine AI (AL O (kp [0] O) (AD (AI (AA O (Xn O O O Vo (AN (kp [4,0] O) (Xf O (AT (WF.sl (Xo (r:=A8) XI O O hs λv1 w j p=>AH 1 (AA O (AF ?_))))))))))))
 obtain⟨k,E⟩:=MR E
 refine JQ (r:=A8) (l:=([]:List Au)) (xs:=c) O O XI O (Sl.src (b.mono' p)) O k O j (λ_=> .head) λx y m n=>AH 1 (AY O (AF (AZ (kp [2] O) (Ac (λt u d g=>?_)))))
 cases E
 exact Dm d g O O (p.trans n) m
theorem On (hs:St S L h) {C:Value}{c:Ak}(ak:Rd S h CJ C c) {r:Ak}(E:Ir N c=some r):
 CG Tryz.prog 29 #[C] S h (λv S' h'=>∃w1 w2 w3 w4 w5 w6:Value,v= .agg #[vI r.Hour,w1,w2,w3,w4,w5,w6]∧AG r.Hour∧Sl S' h' Ap w3 r.Queue∧St S' (OO AM.int 3 29 w1 r.Own::OS AM.int 3 w2 r.Rem::OS A8 69 w4 r.Gates::OS AM.int 3 w5 r.In::OS AM.int 3 w6 r.Out::L) h'):=by
 refine BB (l:=[C]) 43 Tryz.func29 O Tryz.ntmps29 O λB=>?_
 rw[Ir] at E
 refine WF.sl ?_
 obtain⟨v3,v5,v7,v9,ab,Z,rfl,r2,k4,k6,k8,bx,bz,b0⟩:=CJ.ex ak
 refine P4 O O O hs λam cw a9 ay=>Cs OT O a9 λan cx ap az=>AZ (kp [2,1] O) (WF.sl (AH 3 (AC D4 O (AS A6 ap O (mt mh) O HN O (Al O (k4.mono' (ay.trans az)) FO O λcy=>AF ?_)))))
 obtain⟨ba,E⟩:=MR E
 refine Y1 AM.int 3 XJ O O ba O O ap λao a0 aq bb=>AH 1 (AY O (AF (AZ (kp [3,2,1] O) (AD (AI (AC D4 O (AS A6 aq O (mt (mt mh)) O HN O ?_)))))))
 have bc:=k4.mono' (ay.trans (az.trans bb))
 refine Al O bc FO O λcz=>AA O (AN (kp [13,12,11,3,2,1] O) (Am (λa w=>∃(y:List (List Int)),IV B S a0 (43,[]) a w [(3,ao),(2,vP an 0),(1,vP am 0)] (OO AM.int 3 29 ao y::Bx an 36 [vI 0,vN,vN,vN,vN,vN,vN]::Bx am 36 [vI c.Hour,v3,v5,v7,v9,ab,Z]::L) λ_ _=>EE N c y=some r) ?_ ?_))
 ·refine A3 (λn1=>λa w=>∃(J:Int) (ac:List (List Int)),IV B S a0 (43,[]) a w [(12,vI (↑c.Own.length:Int)),(11,v3),(3,ao),(2,vP an 0),(1,vP am 0),(13,vI J)] (OO AM.int 3 29 ao ac::Bx an 36 [vI 0,vN,vN,vN,vN,vN,vN]::Bx am 36 [vI c.Hour,v3,v5,v7,v9,ab,Z]::L) λ_ _=>AG J∧ED N c (EE N c) n1 J ac=some r) N ?_ ?_ ?_
  ·intro aa ww V W
   exact⟨0,(List.replicate ((↑c.Own.length:Int):Int).toNat ([]:(List Int))),_,_,V.sub (kp [12,11,3,2,1,13] O),W,aq,(B9.refl S a0),(iq (n:=0) O),E⟩
  ·rintro aa ww ⟨_,_,_,_,_,_,_,_,_,E⟩
   rw[ED] at E;cases E
  rintro n1 aa ww ⟨J,ac,c0,c1,V,W,G,a1,c2,E⟩
  refine Ad ?_ V W
  clear V W ww aa
  rw[ED] at E
  refine AI (Aq O (AN (kp [14,12,11,3,2,1,13] O) (AD (AX O E (λb1 E=>?_) (λb1 E=>?_)))))
  ·refine AT (AD (A5 (AI (AA O ?_))))
   obtain⟨c3,be,E⟩:=bd E
   refine BD O O (bc.mono' a1) FO be O λc4 b2=>An A6 G.1 O b2 BP O λc5 b3=>AY O (AL O (kp [5,4,12,11,3,2,1,13] O) (EQ (AH 3 (AA O (AA O (AA O (AF ?_)))))))
   obtain⟨b4,bf,E⟩:=bd E
   refine BZ O O O P0 O G (C8 (St.all _) (b3.mono (λb hb=>G.1 b hb) (λ_ _=>rfl)) bf) λc6 c7 c8 cg b5 b6 p=>?_
   have bg:=p
   have ad:=G.join b6 bg ⟨OS.flat (λ{_ _ _ _ _ _} k=>k),trivial⟩
   simp only[List.cons_append,List.nil_append] at ad
   refine AH 1 ?_
   obtain⟨c9,bh,E⟩:=bd E
   refine N2 (r:=AM.int) ad (mt mh) O O FO bh O λda bi=>AF ?_
   obtain⟨db,bj,E⟩:=bd E
   refine U0 (r:=AM.int) (i:=J) O O bi bj BP ad λdc bk b7=>AZ (kp [12,11,3,2,1,13] O) (BK (BY (.inl O) (Af O (AA O (AN (kp [13,12,11,3,2,1] O) (WF.nil (λaa ww V W=>?_)))))))
   exact⟨(BC (J+1)),(upd ac J b4),_,_,V.sub (kp [12,11,3,2,1,13] O),W,bk,(a1.trans (b5.trans b7)),(BI _),E⟩
  refine A9 O (λaa ww V W=>?_)
  exact⟨ac,_,_,V.sub (kp [3,2,1] O),W,G,a1,E⟩
 rintro aa ww ⟨y,dd,de,V,W,ar,b8,E⟩
 refine Ad ?_ V W
 clear V W ww aa
 rw[EE] at E
 refine WF.sl (AH 2 (AA O (AC D4 O (AF ?_))))
 obtain⟨s,d,rfl,df⟩:=ar.oolen mh
 refine Hz (vs:=[(.slice s y.length d)]) (cs':=[vI c.Hour,(.slice s y.length d),v5,v7,v9,ab,Z]) O O O O HN O ar (.tail (.tail .head)) O O λdg X b9=>AZ (kp [2,1] O) (WF.sl (AH 2 (AC Jm O (AS A6 X O (mt (mt mh)) O BP O (AF ?_)))))
 have au:=ay.trans (az.trans (bb.trans (b8.trans b9)))
 obtain⟨H,bl,E⟩:=bd E
 refine BZ O O O P0 O X (C8 (St.all _) ((k6.mono' au).mono (λb hb=>X.1 b hb) (λ_ _=>rfl)) bl) λdh di dj ch ca cb p=>?_
 have bm:=p
 have ae:=X.join cb bm ⟨OS.flat (λ{_ _ _ _ _ _} k=>k),trivial⟩
 simp only[List.cons_append,List.nil_append] at ae
 refine AH 1 (AC Jm O (AF ?_))
 obtain⟨x,j,rfl,dk⟩:=ae.oslen mh
 refine Hz (vs:=[(.slice x H.length j)]) (cs':=[vI c.Hour,(.slice s y.length d),(.slice x H.length j),v7,v9,ab,Z]) O O O O BP O ae (.tail (.tail (.tail .head))) O O λdl Y cc=>AZ (kp [2,1] O) (WF.sl (AH 2 (AC Ht O (AS A6 Y O (mt (mt (mt mh))) O KX O (AF ?_)))))
 have av:=au.trans (ca.trans cc)
 obtain⟨K,bn,E⟩:=bd E
 refine BZ O O O fW O Y (G0 (St.all _) ((bx.mono' av).mono (λb hb=>Y.1 b hb) (λ_ _=>rfl)) bn) λdm dn ci cd bo bp p=>?_
 have a2:=p
 have M:=Y.join bp a2 ⟨OS.flat (λ{_ _ _ _ _ _} k=>k),trivial⟩
 simp only[List.cons_append,List.nil_append] at M
 refine AH 1 (AC Ht O (AF ?_))
 obtain⟨o,g,rfl,cj⟩:=M.oslen mh
 refine Hz (vs:=[(.slice o K.length g)]) (cs':=[vI c.Hour,(.slice s y.length d),(.slice x H.length j),v7,(.slice o K.length g),ab,Z]) O O O O KX O M (.tail (.tail (.tail (.tail .head)))) O O λck D bq=>AZ (kp [2,1] O) (WF.sl (AH 2 (AC Ic O (AS A6 D O (mt (mt (mt (mt mh)))) O BP O (AF ?_)))))
 have af:=av.trans (bo.trans bq)
 obtain⟨A,a3,E⟩:=bd E
 refine BZ O O O P0 O D (C8 (St.all _) ((bz.mono' af).mono (λb hb=>D.1 b hb) (λ_ _=>rfl)) a3) λcl cm cn ce br bs p=>?_
 have a4:=p
 have Q:=D.join bs a4 ⟨OS.flat (λ{_ _ _ _ _ _} k=>k),trivial⟩
 simp only[List.cons_append,List.nil_append] at Q
 refine AH 1 (AC Ic O (AF ?_))
 obtain⟨u,m,rfl,co⟩:=Q.oslen mh
 refine Hz (vs:=[(.slice u A.length m)]) (cs':=[vI c.Hour,(.slice s y.length d),(.slice x H.length j),v7,(.slice o K.length g),(.slice u A.length m),Z]) O O O O BP O Q (.tail (.tail (.tail (.tail (.tail .head))))) O O λcp F bt=>AZ (kp [2,1] O) (WF.sl (AH 2 (AC HR O (AS A6 F O (mt (mt (mt (mt (mt mh))))) O BP O (AF ?_)))))
 have ag:=af.trans (br.trans bt)
 obtain⟨I,a5,E⟩:=bd E
 refine BZ O O O P0 O F (C8 (St.all _) ((b0.mono' ag).mono (λb hb=>F.1 b hb) (λ_ _=>rfl)) a5) λcq cr cs cf bu bv p=>?_
 have a6:=p
 have U:=F.join bv a6 ⟨OS.flat (λ{_ _ _ _ _ _} k=>k),trivial⟩
 simp only[List.cons_append,List.nil_append] at U
 refine AH 1 (AC HR O (AF ?_))
 obtain⟨z,t,rfl,ct⟩:=U.oslen mh
 refine Hz (vs:=[(.slice z I.length t)]) (cs':=[vI c.Hour,(.slice s y.length d),(.slice x H.length j),v7,(.slice o K.length g),(.slice u A.length m),(.slice z I.length t)]) O O O O BP O U (.tail (.tail (.tail (.tail (.tail (.tail .head)))))) O O λcu ah bw=>AZ (kp [2,1] O) (WF.sl (AH 1 (DT (vs:=[vI c.Hour,(.slice s y.length d),(.slice x H.length j),v7,(.slice o K.length g),(.slice u A.length m),(.slice z I.length t)]) A6 ah O (mt (mt (mt (mt (mt (mt mh)))))) O O Gj O O (AF ?_))))
 have ai:=ag.trans (bu.trans bw)
 have aw:=k8.mono' ai
 refine HJ (vs:=[vI c.Hour,(.slice s y.length d),(.slice x H.length j),v7,(.slice o K.length g),(.slice u A.length m),(.slice z I.length t)]) (cs':=[vI c.Hour,(.slice s y.length d),(.slice x H.length j),v7,(.slice o K.length g),(.slice u A.length m),(.slice z I.length t)]) O O O (AE O (AE O (AE O (AE aw.one (AE O (AE O (AE O EA))))))) Gj O ah (.tail (.tail (.tail (.tail (.tail .head))))) O O λcv a7 ax=>AZ (kp [2] O) (Ac (λaa ww V W=>?_))
 have aj:=a7.sel [4,3,2,1,0,0] 1 O
 have a8:=aj.drop (.tail (.tail (.tail (.tail (.tail .head)))))
 cases E
 exact J9 V O W (IC (Xt V W aj O (mt (mt (mt (mt (mt mh))))) Gj O) J8) O (ai.trans ax) ⟨_,_,_,_,_,_,O,r2,(aw.mono' ax),a8⟩
theorem Pm (hs:St S L h) {i:Value}{n:Ay}(u:Rd S h Bu i n) {j:Value}{b:Au}(x:Rd S h A8 j b) {c:Int}(G:AG c) {r:Au}(E:Hv N n b c=some r):
 CG Tryz.prog 21 #[i,j,vI c] S h (λv S' h'=>v= .agg #[vI r.Pos,vI r.Target,.bool r.Stuck,.bool r.Open]∧Au.ok r∧St S' (L) h'):=by
 refine BB (l:=[i,j,vI c]) 24 Tryz.func21 O Tryz.ntmps21 O λB=>?_
 rw[Hv] at E
 refine WF.sl (B5 O u (λe=>by cases e) O hs λq1 S2 h3 X e5 k6=>?_)
 obtain⟨rfl,⟨r9,Y⟩⟩:=A8.ex (x.mono e5)
 refine P4 O O O X λy am I J=>Cs SC O I λz A k K=>AZ (kp [6,4,3,2] O) (AD (AI (AA O (AN (kp [7,6,4,3,2] O) (Am (λa w=>∃(o:Bool) (p:Bool),IV B S2 A (24,[]) a w [(6,vP z 0),(4,vP y 0)] (Bx z 69 [vI 0,vI 0,.bool false,.bool false]::Bx y 69 [vI b.Pos,vI b.Target,.bool o,.bool p]::L) λ_ _=>Fd N b o p=some r) ?_ ?_)))))
 ·refine AI (BH O (AL O (kp [8,7,6,4,3,2] O) (AX O E (λZ E=>?_) (λZ E=>?_))))
  ·refine EQ (AH 1 (AC Rc O (AF (Hz (vs:=[.bool true]) (cs':=[vI b.Pos,vI b.Target,.bool true,.bool b.Open]) O O O O Ol O k (.tail .head) O O λan M ab=>AZ (kp [6,4] O) (WF.nil (λs t d g=>?_))))))
   exact⟨true,b.Open,_,_,d.sub (kp [6,4] O),g,M,ab,E⟩
  refine AI (BH O (AL O (kp [11,7,6,4,3,2] O) (AX O E (λac E=>?_) (λac E=>?_))))
  ·refine EQ (AH 1 (AC Rc O (AF (Hz (vs:=[.bool false]) (cs':=[vI b.Pos,vI b.Target,.bool false,.bool b.Open]) O O O O Ol O k (.tail .head) O O λao Q ad=>AZ (kp [6,4] O) (WF.nil (λs t d g=>?_))))))
   exact⟨false,b.Open,_,_,d.sub (kp [6,4] O),g,Q,ad,E⟩
  refine AD (AI (BH O (AL O (kp [14,7,6,4,3,2] O) (Gs (λa w=>∃(H:Bool),IV B S2 A (24,[]) a w [(6,vP z 0),(4,vP y 0),(3,q1),(2,vI c),(14,.bool H)] (Bx z 69 [vI 0,vI 0,.bool false,.bool false]::Bx y 69 [vI b.Pos,vI b.Target,.bool b.Stuck,.bool b.Open]::L) λ_ _=>G4 N n b c (Fd N b) H=some r) ?_ ?_))))
  ·refine AX O E (λae E=>?_) (λae E=>?_)
   ·refine AT (WF.nil (λs t d g=>?_))
    exact⟨(decide (c=2)),_,_,d.sub (kp [6,4,3,2,14] O),g,k,(B9.refl S2 A),E⟩
   refine BY (.inl O) (BH O (AL O (kp [14,6,4,3,2] O) (WF.nil (λs t d g=>?_))))
   exact⟨(decide (c=3)),_,_,d.sub (kp [6,4,3,2,14] O),g,k,(B9.refl S2 A),E⟩
  rintro s t ⟨H,ap,aq,d,g,m,C,E⟩
  refine Ad ?_ d g
  clear d g t s
  rw[G4] at E
  refine AX O E (λaf E=>?_) (λaf E=>?_)
  ·refine AI (Ai O (k6.mono (J.trans (K.trans C))) Ay.f_Kind GD O λar ag=>Ah A6 m.1 O ag Ag O λau=>BH O (AN (kp [19,6,4,2] O) (AX O E (λah E=>?_) (λah E=>?_))))
   ·refine EQ (AH 3 (AA O (BH O (AC No O (AF (Hz (vs:=[.bool (decide (c=2))]) (cs':=[vI b.Pos,vI b.Target,.bool b.Stuck,.bool (decide (c=2))]) O O O O Ol O m (.tail .head) O O λav U ai=>AZ (kp [6,4] O) (WF.nil (λs t d g=>?_))))))))
    exact⟨b.Stuck,(decide (c=2)),_,_,d.sub (kp [6,4] O),g,U,(C.trans ai),E⟩
   refine AT (WF.nil (λs t d g=>?_))
   exact⟨b.Stuck,b.Open,_,_,d.sub (kp [6,4] O),g,m,C,E⟩
  refine AT (WF.nil (λs t d g=>?_))
  exact⟨b.Stuck,b.Open,_,_,d.sub (kp [6,4] O),g,m,C,E⟩
 rintro s t ⟨o,p,aw,ax,d,g,D,aj,E⟩
 refine Ad ?_ d g
 clear d g t s
 rw[Fd] at E
 refine WF.sl (AH 1 (DT (vs:=[vI b.Pos,vI b.Target,.bool o,.bool p]) A6 D O (mt mh) O O Gi O O (AF (Dh (vs:=[vI b.Pos,vI b.Target,.bool o,.bool p]) O O O O Gi O D .head O λay V ak=>AZ (kp [6] O) (Ac (λs t d g=>?_))))))
 have F:=V.drop (.tail .head)
 have W:=F.drop .head
 cases E
 exact J9 d O g (IC (Xt d g F O mh Gi O) J8) O (e5.trans (J.trans (K.trans (aj.trans ak)))) ⟨O,⟨r9,Y⟩,W⟩
theorem I2 (hs:St S L h) {d:Int}(i:AG d) {b:Int}(g:AG b) {a:Int}(c:AG a) {r:Int}(E:Ga N d b a=some r):
 CG Tryz.prog 45 #[vI d,vI b,vI a] S h (λv S' h'=>v=vI r∧AG r∧St S' (L) h'):=by
 refine BB (l:=[vI d,vI b,vI a]) 16 Tryz.func45 O Tryz.ntmps45 O λB=>?_
 rw[Ga] at E
 refine AI (AL O (kp [0,1,2] O) (AD (AI (AA O (AA O (Aq O (AN (kp [9,0,1,2] O) (AX O E (λo E=>?_) (λo E=>?_)))))))))
 ·refine AI (AA O (AL O (kp [6] O) (Ac (λm n j k=>?_))))
  cases E
  exact Dm j k O O (B9.refl S h) ⟨O,g,hs⟩
 refine AT (AD (AI (AA O (AA O (Bh O (AN (kp [13,0,2] O) (AX O E (λp E=>?_) (λp E=>?_))))))))
 ·refine AI (AA O (AL O (kp [6] O) (Ac (λm n j k=>?_))))
  cases E
  exact Dm j k O O (B9.refl S h) ⟨O,c,hs⟩
 refine AT (AI (AA O (AL O (kp [6] O) (Ac (λm n j k=>?_)))))
 cases E
 exact Dm j k O O (B9.refl S h) ⟨O,i,hs⟩
end Go.Proofs.YtblcgjadhemlbaaGreat
