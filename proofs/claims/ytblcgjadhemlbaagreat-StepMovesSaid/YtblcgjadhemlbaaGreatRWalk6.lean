import Derived.Test.YtblcgjadhemlbaaGreatRWalk5
namespace Go.Proofs.YtblcgjadhemlbaaGreat
open Go.RowKit
set_option linter.unusedVariables false
set_option linter.unusedSimpArgs false
set_option maxRecDepth 10000
set_option maxHeartbeats 2000000
variable {N:Nat}{S:Nat→Prop}{L:List HP}{h:Aw}
theorem LJ (hs:St S L h) {c:Value}{i:(List Int)}(j:Sl S h AM.int c i) {b:Int}(t:AH b) {r:Int×Bool}(E:Hj N i b=some r):
 CL Tryz.prog 38 #[c,vI b] S h (λv S' h'=>v= .tuple #[vI r.1,.bool r.2]∧AH r.1∧St S' (L) h'):=by
 refine BG (l:=[c,vI b]) 29 Tryz.func38 O Tryz.ntmps38 O λB=>?_
 rw[Hj] at E
 refine AI (AY O (AK O (kp [0,1] O) (AI (AK O (kp [6,0,1] O) (AC (AI (AA O (An O j BQ O λY=>AA O (AN (kp [11,10,9,6,1] O) (Am (λa w=>∃(z:Int),IV B S h (29,[]) a w [(6,vI z)] (L) λ_ _=>AH z∧GL N z=some r) ?_ ?_))))))))))
 ·refine A5 (λG=>λa w=>∃(u:Int) (m:Int),IV B S h (29,[]) a w [(10,vI (↑i.length:Int)),(9,c),(1,vI b),(6,vI u),(11,vI m)] (L) λ_ _=>AH u∧AH m∧El N i b (GL N) G u m=some r) N ?_ ?_ ?_
  ·intro o p d g
   exact⟨0,0,_,_,d.sub (kp [10,9,1,6,11] O),g,hs,(CA.refl S h),(iq (n:=0) O),(iq (n:=0) O),E⟩
  ·rintro o p ⟨_,_,_,_,_,_,_,_,_,_,E⟩
   rw[El] at E;cases E
  rintro G o p ⟨u,m,H,I,d,g,k,q,J,K,E⟩
  refine Ac ?_ d g
  clear d g p o
  rw[El] at E
  refine AI (Ar O (AN (kp [12,10,9,1,6,11] O) (AC (AW O E (λA E=>?_) (λA E=>?_)))))
  ·refine AQ (AC (BB (AI ?_)))
   obtain⟨s,x,E⟩:=bd E
   refine BE O O (j.mono' q) BQ x O λM C=>Af A9 k.1 O C Ag O λQ=>AK O (kp [8,10,9,1,6,11] O) (AC (AI (AA O (Ar O (AA O (AV 6 23 (.bool ((decide (s<0))||(decide ((BD (b-u))<s)))) ?_ ?_))))))
   ·cases U:(decide (s<0))
    ·exact AB O (AA O (AB O (AA O (AB O (AA O (AB O (Ck O (AB O (Bf O (AJ O (AU O)))))))))))
    exact Aa O O
   refine AN (kp [23,8,10,9,1,6,11] O) (AW O E (λD E=>?_) (λD E=>?_))
   ·refine AI (AY O (AK O (kp [5,4] O) (Ad (λo p d g=>?_))))
    cases E
    exact KH d O g (IK (I1 d (v:=_) O) (IK (I1 d (v:=_) O) KG)) O q ⟨O,(iq (n:=0) O),k⟩
   refine AQ (BZ (.inl O) (AA O (AA O (Ai O (AK O (kp [6,10,9,1,11] O) (BO (BZ (.inl O) (Ai O (AA O (AN (kp [11,6,10,9,1] O) (WF.nil (λo p d g=>?_))))))))))))
   exact⟨(BD (u+s)),(BD (m+1)),_,_,d.sub (kp [10,9,1,6,11] O),g,k,q,(BK _),(BK _),E⟩
  refine BC O (λo p d g=>?_)
  exact⟨u,_,_,d.sub (kp [6] O),g,k,q,J,E⟩
 rintro o p ⟨z,V,W,d,g,y,F,X,E⟩
 refine Ac ?_ d g
 clear d g p o
 rw[GL] at E
 refine AI (AA O (AY O (AK O (kp [5,4] O) (Ad (λo p d g=>?_)))))
 cases E
 exact KH d O g (IK (I1 d (v:=_) O) (IK (I1 d (v:=_) O) KG)) O F ⟨O,X,y⟩
theorem Kk (hs:St S L h) {F:Value}{d:AX}(aj:Rd S h B1 F d) {G:Value}{b:Aj}(ak:Rd S h CO G b) {r:Bool}(E:H2 N d b=some r):
 CL Tryz.prog 14 #[F,G] S h (λv S' h'=>v= .bool r∧St S' (L) h'):=by
 refine BG (l:=[F,G]) 168 Tryz.func14 O Tryz.ntmps14 O λB=>?_
 rw[H2] at E
 refine WF.sl (B4 O aj (λe=>by cases e) O hs λq1 S2 h3 cq e5 k6=>B4 O (ak.mono e5) (λe=>by cases e) O cq λq8 S9 a0 j u C=>AG 1 (AY O (AF (AZ (kp [3,2] O) (AC (AI (Ae O C Aj.f_Hour HK O λfr cr=>Af A9 j.1 O cr Ag O λfs=>Ar O (AA O (AV 4 20 (.bool ((decide (b.Hour<0))||(decide (16777216<b.Hour)))) ?_ ?_)))))))))
 ·cases ft:(decide (b.Hour<0))
  ·exact AB O (Ae O C Aj.f_Hour HK O λfu cs=>AB O (Af A9 j.1 O cs Ag O λfv=>AB O (Bf O (AJ O (AU O)))))
  exact Aa O O
 refine AA O (AV 8 29 (.bool (((decide (b.Hour<0))||(decide (16777216<b.Hour)))||(decide ((↑b.Own.length:Int)≠(↑d.Places.length:Int))))) ?_ ?_)
 ·cases fw:((decide (b.Hour<0))||(decide (16777216<b.Hour)))
  ·exact AB O (Ae O C Iw Dm O λfx ct=>AB O (Ao A9 j.1 O ct Gu O λfy cu=>AB O (An O cu Ev O λfz=>AB O (Ae O (k6.mono u) BP C1 O λf0 cv=>AB O (Ao A9 j.1 O cv F7 O λf1 cw=>AB O (An O cw FA O λf2=>AB O (Bt O (AJ O (AU O)))))))))
  exact Aa O O
 refine AA O (AV 8 38 (.bool ((((decide (b.Hour<0))||(decide (16777216<b.Hour)))||(decide ((↑b.Own.length:Int)≠(↑d.Places.length:Int))))||(decide ((↑b.Rem.length:Int)≠(↑d.Places.length:Int))))) ?_ ?_)
 ·cases f3:(((decide (b.Hour<0))||(decide (16777216<b.Hour)))||(decide ((↑b.Own.length:Int)≠(↑d.Places.length:Int))))
  ·exact AB O (Ae O C Jf Jy O λf4 cx=>AB O (Ao A9 j.1 O cx BW O λf5 cy=>AB O (An O cy BQ O λf6=>AB O (Ae O (k6.mono u) BP C1 O λf7 cz=>AB O (Ao A9 j.1 O cz F7 O λf8 c0=>AB O (An O c0 FA O λf9=>AB O (Bt O (AJ O (AU O)))))))))
  exact Aa O O
 refine AA O (AV 8 47 (.bool (((((decide (b.Hour<0))||(decide (16777216<b.Hour)))||(decide ((↑b.Own.length:Int)≠(↑d.Places.length:Int))))||(decide ((↑b.Rem.length:Int)≠(↑d.Places.length:Int))))||(decide ((↑b.Gates.length:Int)≠(↑d.Links.length:Int))))) ?_ ?_)
 ·cases ga:((((decide (b.Hour<0))||(decide (16777216<b.Hour)))||(decide ((↑b.Own.length:Int)≠(↑d.Places.length:Int))))||(decide ((↑b.Rem.length:Int)≠(↑d.Places.length:Int))))
  ·exact AB O (Ae O C Jh H0 O λgb c1=>AB O (Ao A9 j.1 O c1 Ki O λgc c2=>AB O (An O c2 KM O λgd=>AB O (Ae O (k6.mono u) D1 Gc O λge c3=>AB O (Ao A9 j.1 O c3 JR O λgf c4=>AB O (An O c4 Hf O λgg=>AB O (Bt O (AJ O (AU O)))))))))
  exact Aa O O
 refine AA O (AV 8 56 (.bool ((((((decide (b.Hour<0))||(decide (16777216<b.Hour)))||(decide ((↑b.Own.length:Int)≠(↑d.Places.length:Int))))||(decide ((↑b.Rem.length:Int)≠(↑d.Places.length:Int))))||(decide ((↑b.Gates.length:Int)≠(↑d.Links.length:Int))))||(decide ((↑b.In.length:Int)≠(↑d.Owners.length:Int))))) ?_ ?_)
 ·cases gh:(((((decide (b.Hour<0))||(decide (16777216<b.Hour)))||(decide ((↑b.Own.length:Int)≠(↑d.Places.length:Int))))||(decide ((↑b.Rem.length:Int)≠(↑d.Places.length:Int))))||(decide ((↑b.Gates.length:Int)≠(↑d.Links.length:Int))))
  ·exact AB O (Ae O C KE KZ O λgi c5=>AB O (Ao A9 j.1 O c5 BW O λgj c6=>AB O (An O c6 BQ O λgk=>AB O (Ae O (k6.mono u) EQ H1 O λgl c7=>AB O (Ao A9 j.1 O c7 Kj O λgm c8=>AB O (An O c8 KN O λgn=>AB O (Bt O (AJ O (AU O)))))))))
  exact Aa O O
 refine AA O (AV 8 65 (.bool (((((((decide (b.Hour<0))||(decide (16777216<b.Hour)))||(decide ((↑b.Own.length:Int)≠(↑d.Places.length:Int))))||(decide ((↑b.Rem.length:Int)≠(↑d.Places.length:Int))))||(decide ((↑b.Gates.length:Int)≠(↑d.Links.length:Int))))||(decide ((↑b.In.length:Int)≠(↑d.Owners.length:Int))))||(decide ((↑b.Out.length:Int)≠(↑d.Owners.length:Int))))) ?_ ?_)
 ·cases gp:((((((decide (b.Hour<0))||(decide (16777216<b.Hour)))||(decide ((↑b.Own.length:Int)≠(↑d.Places.length:Int))))||(decide ((↑b.Rem.length:Int)≠(↑d.Places.length:Int))))||(decide ((↑b.Gates.length:Int)≠(↑d.Links.length:Int))))||(decide ((↑b.In.length:Int)≠(↑d.Owners.length:Int))))
  ·exact AB O (Ae O C Jg Iq O λgq c9=>AB O (Ao A9 j.1 O c9 BW O λgr da=>AB O (An O da BQ O λgs=>AB O (Ae O (k6.mono u) EQ H1 O λgt db=>AB O (Ao A9 j.1 O db Kj O λgu dc=>AB O (An O dc KN O λgv=>AB O (Bt O (AJ O (AU O)))))))))
  exact Aa O O
 refine AN (kp [65,3,2] O) (AW O E (λdd E=>?_) (λdd E=>?_))
 ·refine AI (AK O (kp [4] O) (Ad (λz A k m=>?_)))
  cases E
  exact Dx k m O O (e5.trans u) ⟨O,j⟩
 refine AQ (AC (AI ?_))
 have bi:=k6.mono u
 refine Ae O bi BP C1 O λgw de=>Ao A9 j.1 O de F7 O λdf bj=>An O bj FA O λgx=>AA O (AN (kp [69,68,67,3,2] O) (Am (λa w=>IV B S9 a0 (168,[]) a w [(3,q8),(2,q1)] (L) λ_ _=>E8 N d b=some r) ?_ ?_))
 ·refine A5 (λn1=>λa w=>∃(Z:Int),IV B S9 a0 (168,[]) a w [(68,vI (↑d.Places.length:Int)),(67,df),(3,q8),(2,q1),(69,vI Z)] (L) λ_ _=>AH Z∧E6 N d b (E8 N d b) n1 Z=some r) N ?_ ?_ ?_
  ·intro z A k m
   exact⟨0,_,_,k.sub (kp [68,67,3,2,69] O),m,j,(CA.refl S9 a0),(iq (n:=0) O),E⟩
  ·rintro z A ⟨_,_,_,_,_,_,_,_,E⟩
   rw[E6] at E;cases E
  rintro n1 z A ⟨Z,gy,gz,k,m,ab,ac,g0,E⟩
  refine Ac ?_ k m
  clear k m A z
  rw[E6] at E
  refine AI (Ar O (AN (kp [70,68,67,3,2,69] O) (AC (AW O E (λdg E=>?_) (λdg E=>?_)))))
  ·refine AQ (AC (BB (WF.sl (AG 3 (AA O ?_)))))
   obtain⟨p,bk,E⟩:=bd E
   refine BE O O (bj.mono' ac) FA bk O λg1 bl=>B8 A9 ab.1 O bl J4 (λe=>by cases e) O λdh bm=>AF (Cp OZ O ab λdi dj a1 V=>AG 1 (AY O (AF ?_)))
   obtain⟨am,an,ao,rfl,dk,dl,dm,dn,bn,bo,dp,dq,dr,ds,dt,bp⟩:=B0.ex (bm.mono V)
   refine G7 (vs:=[.string p.Name,vI p.Kind,vI p.Office,vI p.Cap,am,an,vI p.Num,vI p.Den,vI p.Down,vI p.Delay,vI p.Floor,ao]) (cs':=[.string p.Name,vI p.Kind,vI p.Office,vI p.Cap,am,an,vI p.Num,vI p.Den,vI p.Down,vI p.Delay,vI p.Floor,ao]) O O O (AE O (AE O (AE O (AE O (AE bn.one (AE bo.one (AE O (AE O (AE O (AE O (AE O (AE bp.one EH)))))))))))) J4 O a1 .head O O λdu t ad=>AZ (kp [5,6,68,67,3,2,69] O) (AC (BZ (.inr ⟨mo,by kernel_rfl⟩) ?_))
   have ap:=C.mono (ac.trans (V.trans ad))
   refine Ae O ap Jf Jy O λdv bq=>Ao A9 t.1 O bq BW O λdw br=>AA O ?_
   obtain⟨bs,a2,E⟩:=bd E
   refine BE O O br BQ a2 O λdx bt=>Af A9 t.1 O bt Ag O λdy=>Ar O (AA O ?_)
   obtain⟨bu,s,E⟩:=bd E
   refine AV 11 91 (.bool bu) ?_ ?_
   ·cases aq:(decide (bs<0))
    ·have s:=F5 aq s
     refine AB O (Ae O ap Jf Jy O λdz bv=>AB O (Ao A9 t.1 O bv BW O λd0 bw=>AB O (AA O (AB O ?_))))
     obtain⟨d1,a3,s⟩:=bd s
     refine BE O O bw BQ a3 O λd2 bx=>AB O (Af A9 t.1 O bx Ag O λd3=>AB O (AD K5 O (AB O (AS A9 t O mh O Ag O (AB O (Ck O (AB O (P7 O O O (AB O (Bf O (AJ O ?_)))))))))))
     cases s
     exact AU O
    have s:=Fy aq s
    cases s
    exact Aa O O
   refine AN (kp [91,68,67,3,2,69] O) (AW O E (λbz E=>?_) (λbz E=>?_))
   ·refine AI (AK O (kp [4] O) (Ad (λz A k m=>?_)))
    have a4:=t.drop .head
    cases E
    exact Dx k m O O (e5.trans (u.trans (ac.trans (V.trans ad)))) ⟨O,a4⟩
   refine AQ (BO (BZ (.inl O) (Ai O (AA O (AN (kp [69,68,67,3,2] O) (WF.nil (λz A k m=>?_)))))))
   have a5:=t.drop .head
   exact⟨(BD (Z+1)),_,_,k.sub (kp [68,67,3,2,69] O),m,a5,(ac.trans (V.trans ad)),(BK _),E⟩
  refine BC O (λz A k m=>?_)
  exact⟨_,_,k.sub (kp [3,2] O),m,ab,ac,E⟩
 rintro z A ⟨ae,af,k,m,ag,x,E⟩
 refine Ac ?_ k m
 clear k m A z
 rw[E8] at E
 refine AC (AI ?_)
 have ar:=bi.mono x
 refine Ae O ar D1 Gc O λd4 b0=>Ao A9 ag.1 O b0 JR O λb1 au=>An O au Hf O λd5=>AA O (AN (kp [96,95,94,3,2] O) (Am (λa w=>IV B ae af (168,[]) a w [(3,q8),(2,q1)] (L) λ_ _=>E7 N d b=some r) ?_ ?_))
 ·refine A5 (λn3=>λa w=>∃(J:Int),IV B ae af (168,[]) a w [(95,vI (↑d.Links.length:Int)),(94,b1),(3,q8),(2,q1),(96,vI J)] (L) λ_ _=>AH J∧E5 N d b (E7 N d b) n3 J=some r) N ?_ ?_ ?_
  ·intro z A k m
   exact⟨0,_,_,k.sub (kp [95,94,3,2,96] O),m,ag,(CA.refl ae af),(iq (n:=0) O),E⟩
  ·rintro z A ⟨_,_,_,_,_,_,_,_,E⟩
   rw[E5] at E;cases E
  rintro n3 z A ⟨J,d6,d7,k,m,Q,D,d8,E⟩
  refine Ac ?_ k m
  clear k m A z
  rw[E5] at E
  refine AI (Ar O (AN (kp [97,95,94,3,2,96] O) (AC (AW O E (λb2 E=>?_) (λb2 E=>?_)))))
  ·refine AQ (AC (BB (WF.sl (AG 3 (AA O ?_)))))
   obtain⟨c,a6,E⟩:=bd E
   refine BE O O (au.mono' D) Hf a6 O λd9 b3=>B8 A9 Q.1 O b3 Hd (λe=>by cases e) O λea b4=>AF (Cp OY O Q λeb ec a7 K=>AG 1 (AY O (AF ?_)))
   obtain⟨av,aw,ax,rfl,ed,ee,ef,eg,b5,b6,b7,eh,ei,ej,ek,el,em,en,eo,ep,eq,er⟩:=Bu.ex (b4.mono K)
   refine G7 (vs:=[.string c.Name,vI c.Kind,vI c.From,vI c.To,av,aw,ax,vI c.Positions,vI c.Speed,vI c.Leak,vI c.Crest,vI c.Num,vI c.Den,vI c.Prime,vI c.Break,vI c.BackNum,vI c.BackDen,vI c.Delay]) (cs':=[.string c.Name,vI c.Kind,vI c.From,vI c.To,av,aw,ax,vI c.Positions,vI c.Speed,vI c.Leak,vI c.Crest,vI c.Num,vI c.Den,vI c.Prime,vI c.Break,vI c.BackNum,vI c.BackDen,vI c.Delay]) O O O (AE O (AE O (AE O (AE O (AE b5.one (AE b6.one (AE b7.one (AE O (AE O (AE O (AE O (AE O (AE O (AE O (AE O (AE O (AE O (AE O EH)))))))))))))))))) Hd O a7 .head O O λes U W=>AZ (kp [7,8,95,94,3,2,96] O) (WF.sl (AG 5 (Ae O (C.mono (x.trans (D.trans (K.trans W)))) Jh H0 O λet b8=>Ao A9 U.1 O b8 Ki O λeu b9=>AA O ?_)))
   obtain⟨g,a8,E⟩:=bd E
   refine BE O O b9 KM a8 O λev ca=>B8 A9 U.1 O ca Gt (λe=>by cases e) O λew cb=>AF (Cp SA O U λey ez a9 X=>?_)
   obtain⟨rfl,⟨e0,e1⟩⟩:=BJ.ex (cb.mono X)
   refine Du (vs:=[vI g.Pos,vI g.Target,.bool g.Stuck,.bool g.Open]) O O O O Gt O a9 .head O λe2 i ah=>AZ (kp [9,8,95,94,3,2,96] O) (AC (AI (AD M1 O (AS A9 i O mh O Ag O (Ar O (AA O (AV 6 115 (.bool ((decide (g.Pos<0))||(decide (c.Positions<g.Pos)))) ?_ ?_)))))))
   ·cases e3:(decide (g.Pos<0))
    ·exact AB O (AD M1 O (AB O (AS A9 i O mh O Ag O (AB O (AD JV O (AB O (AS A9 i O (mt mh) O Ag O (AB O (Bf O (AJ O (AU O)))))))))))
    exact Aa O O
   refine AA O (AV 4 120 (.bool (((decide (g.Pos<0))||(decide (c.Positions<g.Pos)))||(decide (g.Target<0)))) ?_ ?_)
   ·cases e4:((decide (g.Pos<0))||(decide (c.Positions<g.Pos)))
    ·exact AB O (AD PK O (AB O (AS A9 i O mh O Ag O (AB O (Ar O (AJ O (AU O)))))))
    exact Aa O O
   refine AA O (AV 6 127 (.bool ((((decide (g.Pos<0))||(decide (c.Positions<g.Pos)))||(decide (g.Target<0)))||(decide (c.Positions<g.Target)))) ?_ ?_)
   ·cases e6:(((decide (g.Pos<0))||(decide (c.Positions<g.Pos)))||(decide (g.Target<0)))
    ·exact AB O (AD PK O (AB O (AS A9 i O mh O Ag O (AB O (AD JV O (AB O (AS A9 i O (mt mh) O Ag O (AB O (Bf O (AJ O (AU O)))))))))))
    exact Aa O O
   refine AN (kp [127,9,8,95,94,3,2,96] O) (AW O E (λcc E=>?_) (λcc E=>?_))
   ·refine AI (AK O (kp [4] O) (Ad (λz A k m=>?_)))
    have ba:=i.sel [] 2 O
    cases E
    exact Dx k m O O (e5.trans (u.trans (x.trans (D.trans (K.trans (W.trans (X.trans ah))))))) ⟨O,ba⟩
   refine AQ (AI (AD Nv O (AS A9 i O mh O Oo O (AA O (AV 4 134 (.bool (g.Open&&(decide (c.Kind≠5)))) ?_ ?_)))))
   ·cases e7:g.Open
    ·exact Aa O O
    exact AB O (AD GK O (AB O (AS A9 i O (mt mh) O Ag O (AB O (Bt O (AJ O (AU O)))))))
   refine AA O (AV 4 139 (.bool ((g.Open&&(decide (c.Kind≠5)))&&(decide (c.Kind≠3)))) ?_ ?_)
   ·cases e8:(g.Open&&(decide (c.Kind≠5)))
    ·exact Aa O O
    exact AB O (AD GK O (AB O (AS A9 i O (mt mh) O Ag O (AB O (Bt O (AJ O (AU O)))))))
   refine AN (kp [139,95,94,3,2,96] O) (AW O E (λcd E=>?_) (λcd E=>?_))
   ·refine AI (AK O (kp [4] O) (Ad (λz A k m=>?_)))
    have bb:=i.sel [] 2 O
    cases E
    exact Dx k m O O (e5.trans (u.trans (x.trans (D.trans (K.trans (W.trans (X.trans ah))))))) ⟨O,bb⟩
   refine AQ (BO (BZ (.inl O) (Ai O (AA O (AN (kp [96,95,94,3,2] O) (WF.nil (λz A k m=>?_)))))))
   have bc:=i.sel [] 2 O
   exact⟨(BD (J+1)),_,_,k.sub (kp [95,94,3,2,96] O),m,bc,(D.trans (K.trans (W.trans (X.trans ah)))),(BK _),E⟩
  refine BC O (λz A k m=>?_)
  exact⟨_,_,k.sub (kp [3,2] O),m,Q,D,E⟩
 rintro z A ⟨e9,fb,k,m,y,M,E⟩
 refine Ac ?_ k m
 clear k m A z
 rw[E7] at E
 refine AC (Bq (.inl O) y (B8 Bd y.1 O (ar.mono M) G6 (λe=>by cases e) O λfc ce=>?_))
 have ay:=C.mono (x.trans M)
 refine B8 Bd y.1 O ay HI (λe=>by cases e) O λfd cf=>?_
 obtain⟨fe,be,E⟩:=bd E
 refine CY O O O fK O (λh' o=>Ot (St.all h') (ce.mono (o.all y.1)) (cf.mono (o.all y.1)) be) λcg=>?_
 have ff:=cg
 refine AA O (Bo O (Bo O (AY O (AY O (BM (kp [11,10,3] O) λfg H Y=>AC (AI (AA O (BY O (AN (kp [148,10,3] O) (AW O E (λch E=>?_) (λch E=>?_)))))))))))
 ·refine AI (AK O (kp [4] O) (Ad (λz A k m=>?_)))
  cases E
  exact Dx k m O O (e5.trans (u.trans (x.trans (M.trans Y)))) ⟨O,H⟩
 refine AQ (AC (Bq (.inl O) H ?_))
 have az:=ay.mono Y
 refine Ae O az KE KZ O λfh ci=>Ao Bd H.1 O ci BW O λfi cj=>?_
 obtain⟨fj,bf,E⟩:=bd E
 refine CY O O O ZG O (λh' o=>LJ (St.all h') (cj.mono' (o.all H.1)) (iq (n:=1152921504606846976) O) bf) λck=>?_
 have fk:=ck
 refine AA O (Bo O (Bo O (AY O (AY O (BM (kp [11,12,10,3] O) λfl I ai=>AC (AI (AA O (BY O (AN (kp [156,12,10,3] O) (AW O E (λcl E=>?_) (λcl E=>?_)))))))))))
 ·refine AI (AK O (kp [4] O) (Ad (λz A k m=>?_)))
  cases E
  exact Dx k m O O (e5.trans (u.trans (x.trans (M.trans (Y.trans ai))))) ⟨O,I⟩
 refine AQ (AC (Bq (.inl O) I (Ae O (az.mono ai) Jg Iq O λfm cm=>Ao Bd I.1 O cm BW O λfn cn=>AA O (Ai O (AA O (Ck O ?_))))))
 obtain⟨fo,bg,E⟩:=bd E
 refine CY O O O ZG O (λh' o=>LJ (St.all h') (cn.mono' (o.all I.1)) (BK _) bg) λco=>?_
 have fp:=co
 refine AA O (Bo O (Bo O (AY O (BM (kp [11] O) λfq bh cp=>AI (AA O (AK O (kp [4] O) (Ad (λz A k m=>?_))))))))
 cases E
 exact Dx k m O O (e5.trans (u.trans (x.trans (M.trans (Y.trans (ai.trans cp)))))) ⟨O,bh⟩
theorem G9 (hs:St S L h) {a:Value}{c:(List Ax)}(b:Sl S h BJ a c) {r:(List Ax)}(E:B6 N c=some r):
 CL Tryz.prog 56 #[a] S h (λv S' h'=>St S' (OS BJ 69 v r::L) h'):=by
 refine BG (l:=[a]) 8 Tryz.func56 O Tryz.ntmps56 O λB=>?_
 rw[B6] at E
 rcases b.cases with ⟨rfl,rfl⟩|⟨s,o,rfl,b⟩
 ·have E1:(some ([]:List Ax))=some r:=by simpa [chk,Jk] using E
  refine AI (AK O (kp [0] O) (AC (AI (AA O (Uj O O O VT (AN (kp [4,0] O) (XF O (AI (AK O (kp [2] O) (Ad (λt u d g=>?_)))))))))))
  have i:=hs.nil BJ 69
  cases E
  exact Dx d g O O (CA.refl S h) i
 refine AI (AK O (kp [0] O) (AC (AI (AA O (XQ O O O VT (AN (kp [4,0] O) (XG O (AQ (WF.sl (XS (r:=BJ) Ww O O hs λv1 w j p=>AG 1 (AA O (AF ?_))))))))))))
 obtain⟨k,E⟩:=Lr E
 refine JJ (r:=BJ) (l:=([]:List Ax)) (xs:=c) O O Ww O (Sl.src (b.mono' p)) O k O j (λ_=> .head) λx y m n=>AG 1 (AY O (AF (AZ (kp [2] O) (Ad (λt u d g=>?_)))))
 cases E
 exact Dx d g O O (p.trans n) m
theorem Ou (hs:St S L h) {C:Value}{c:Aj}(ak:Rd S h CO C c) {r:Aj}(E:I7 N c=some r):
 CL Tryz.prog 29 #[C] S h (λv S' h'=>∃w1 w2 w3 w4 w5 w6:Value,v= .agg #[vI r.Hour,w1,w2,w3,w4,w5,w6]∧AH r.Hour∧Sl S' h' Ap w3 r.Queue∧St S' (OO AM.int 3 29 w1 r.Own::OS AM.int 3 w2 r.Rem::OS BJ 69 w4 r.Gates::OS AM.int 3 w5 r.In::OS AM.int 3 w6 r.Out::L) h'):=by
 refine BG (l:=[C]) 43 Tryz.func29 O Tryz.ntmps29 O λB=>?_
 rw[I7] at E
 refine WF.sl ?_
 obtain⟨v3,v5,v7,v9,ab,Z,rfl,r2,k4,k6,k8,bx,bz,b0⟩:=CO.ex ak
 refine P9 O O O hs λam cw a9 ay=>Cp Oa O a9 λan cx ap az=>AZ (kp [2,1] O) (WF.sl (AG 3 (AD Dm O (AS A9 ap O (mt mh) O Gu O (An O (k4.mono' (ay.trans az)) Ev O λcy=>AF ?_)))))
 obtain⟨ba,E⟩:=Lr E
 refine Ye AM.int 3 Wx O O ba O O ap λao a0 aq bb=>AG 1 (AY O (AF (AZ (kp [3,2,1] O) (AC (AI (AD Dm O (AS A9 aq O (mt (mt mh)) O Gu O ?_)))))))
 have bc:=k4.mono' (ay.trans (az.trans bb))
 refine An O bc Ev O λcz=>AA O (AN (kp [13,12,11,3,2,1] O) (Am (λa w=>∃(y:List (List Int)),IV B S a0 (43,[]) a w [(3,ao),(2,vP an 0),(1,vP am 0)] (OO AM.int 3 29 ao y::Bx an 36 [vI 0,vN,vN,vN,vN,vN,vN]::Bx am 36 [vI c.Hour,v3,v5,v7,v9,ab,Z]::L) λ_ _=>EU N c y=some r) ?_ ?_))
 ·refine A5 (λn1=>λa w=>∃(J:Int) (ac:List (List Int)),IV B S a0 (43,[]) a w [(12,vI (↑c.Own.length:Int)),(11,v3),(3,ao),(2,vP an 0),(1,vP am 0),(13,vI J)] (OO AM.int 3 29 ao ac::Bx an 36 [vI 0,vN,vN,vN,vN,vN,vN]::Bx am 36 [vI c.Hour,v3,v5,v7,v9,ab,Z]::L) λ_ _=>AH J∧ET N c (EU N c) n1 J ac=some r) N ?_ ?_ ?_
  ·intro aa ww V W
   exact⟨0,(List.replicate ((↑c.Own.length:Int):Int).toNat ([]:(List Int))),_,_,V.sub (kp [12,11,3,2,1,13] O),W,aq,(CA.refl S a0),(iq (n:=0) O),E⟩
  ·rintro aa ww ⟨_,_,_,_,_,_,_,_,_,E⟩
   rw[ET] at E;cases E
  rintro n1 aa ww ⟨J,ac,c0,c1,V,W,G,a1,c2,E⟩
  refine Ac ?_ V W
  clear V W ww aa
  rw[ET] at E
  refine AI (Ar O (AN (kp [14,12,11,3,2,1,13] O) (AC (AW O E (λb1 E=>?_) (λb1 E=>?_)))))
  ·refine AQ (AC (BB (AI (AA O ?_))))
   obtain⟨c3,be,E⟩:=bd E
   refine BE O O (bc.mono' a1) Ev be O λc4 b2=>Ao A9 G.1 O b2 BW O λc5 b3=>AY O (AK O (kp [5,4,12,11,3,2,1,13] O) (D3 (AG 3 (AA O (AA O (AA O (AF ?_)))))))
   obtain⟨b4,bf,E⟩:=bd E
   refine BX O O O P5 O G (DC (St.all _) (b3.mono (λb hb=>G.1 b hb) (λ_ _=>rfl)) bf) λc6 c7 c8 cg b5 b6 p=>?_
   have bg:=p
   have ad:=G.join b6 bg ⟨OS.flat (λ{_ _ _ _ _ _} k=>k),trivial⟩
   simp only[List.cons_append,List.nil_append] at ad
   refine AG 1 ?_
   obtain⟨c9,bh,E⟩:=bd E
   refine N7 (r:=AM.int) ad (mt mh) O O Ev bh O λda bi=>AF ?_
   obtain⟨db,bj,E⟩:=bd E
   refine Un (r:=AM.int) (i:=J) O O bi bj BW ad λdc bk b7=>AZ (kp [12,11,3,2,1,13] O) (BO (BZ (.inl O) (Ai O (AA O (AN (kp [13,12,11,3,2,1] O) (WF.nil (λaa ww V W=>?_)))))))
   exact⟨(BD (J+1)),(upd ac J b4),_,_,V.sub (kp [12,11,3,2,1,13] O),W,bk,(a1.trans (b5.trans b7)),(BK _),E⟩
  refine BC O (λaa ww V W=>?_)
  exact⟨ac,_,_,V.sub (kp [3,2,1] O),W,G,a1,E⟩
 rintro aa ww ⟨y,dd,de,V,W,ar,b8,E⟩
 refine Ac ?_ V W
 clear V W ww aa
 rw[EU] at E
 refine WF.sl (AG 2 (AA O (AD Dm O (AF ?_))))
 obtain⟨s,d,rfl,df⟩:=ar.oolen mh
 refine H6 (vs:=[(.slice s y.length d)]) (cs':=[vI c.Hour,(.slice s y.length d),v5,v7,v9,ab,Z]) O O O O Gu O ar (.tail (.tail .head)) O O λdg X b9=>AZ (kp [2,1] O) (WF.sl (AG 2 (AD Jy O (AS A9 X O (mt (mt mh)) O BW O (AF ?_)))))
 have au:=ay.trans (az.trans (bb.trans (b8.trans b9)))
 obtain⟨H,bl,E⟩:=bd E
 refine BX O O O P5 O X (DC (St.all _) ((k6.mono' au).mono (λb hb=>X.1 b hb) (λ_ _=>rfl)) bl) λdh di dj ch ca cb p=>?_
 have bm:=p
 have ae:=X.join cb bm ⟨OS.flat (λ{_ _ _ _ _ _} k=>k),trivial⟩
 simp only[List.cons_append,List.nil_append] at ae
 refine AG 1 (AD Jy O (AF ?_))
 obtain⟨x,j,rfl,dk⟩:=ae.oslen mh
 refine H6 (vs:=[(.slice x H.length j)]) (cs':=[vI c.Hour,(.slice s y.length d),(.slice x H.length j),v7,v9,ab,Z]) O O O O BW O ae (.tail (.tail (.tail .head))) O O λdl Y cc=>AZ (kp [2,1] O) (WF.sl (AG 2 (AD H0 O (AS A9 Y O (mt (mt (mt mh))) O Ki O (AF ?_)))))
 have av:=au.trans (ca.trans cc)
 obtain⟨K,bn,E⟩:=bd E
 refine BX O O O eW O Y (G9 (St.all _) ((bx.mono' av).mono (λb hb=>Y.1 b hb) (λ_ _=>rfl)) bn) λdm dn ci cd bo bp p=>?_
 have a2:=p
 have M:=Y.join bp a2 ⟨OS.flat (λ{_ _ _ _ _ _} k=>k),trivial⟩
 simp only[List.cons_append,List.nil_append] at M
 refine AG 1 (AD H0 O (AF ?_))
 obtain⟨o,g,rfl,cj⟩:=M.oslen mh
 refine H6 (vs:=[(.slice o K.length g)]) (cs':=[vI c.Hour,(.slice s y.length d),(.slice x H.length j),v7,(.slice o K.length g),ab,Z]) O O O O Ki O M (.tail (.tail (.tail (.tail .head)))) O O λck D bq=>AZ (kp [2,1] O) (WF.sl (AG 2 (AD KZ O (AS A9 D O (mt (mt (mt (mt mh)))) O BW O (AF ?_)))))
 have af:=av.trans (bo.trans bq)
 obtain⟨A,a3,E⟩:=bd E
 refine BX O O O P5 O D (DC (St.all _) ((bz.mono' af).mono (λb hb=>D.1 b hb) (λ_ _=>rfl)) a3) λcl cm cn ce br bs p=>?_
 have a4:=p
 have Q:=D.join bs a4 ⟨OS.flat (λ{_ _ _ _ _ _} k=>k),trivial⟩
 simp only[List.cons_append,List.nil_append] at Q
 refine AG 1 (AD KZ O (AF ?_))
 obtain⟨u,m,rfl,co⟩:=Q.oslen mh
 refine H6 (vs:=[(.slice u A.length m)]) (cs':=[vI c.Hour,(.slice s y.length d),(.slice x H.length j),v7,(.slice o K.length g),(.slice u A.length m),Z]) O O O O BW O Q (.tail (.tail (.tail (.tail (.tail .head))))) O O λcp F bt=>AZ (kp [2,1] O) (WF.sl (AG 2 (AD Iq O (AS A9 F O (mt (mt (mt (mt (mt mh))))) O BW O (AF ?_)))))
 have ag:=af.trans (br.trans bt)
 obtain⟨I,a5,E⟩:=bd E
 refine BX O O O P5 O F (DC (St.all _) ((b0.mono' ag).mono (λb hb=>F.1 b hb) (λ_ _=>rfl)) a5) λcq cr cs cf bu bv p=>?_
 have a6:=p
 have U:=F.join bv a6 ⟨OS.flat (λ{_ _ _ _ _ _} k=>k),trivial⟩
 simp only[List.cons_append,List.nil_append] at U
 refine AG 1 (AD Iq O (AF ?_))
 obtain⟨z,t,rfl,ct⟩:=U.oslen mh
 refine H6 (vs:=[(.slice z I.length t)]) (cs':=[vI c.Hour,(.slice s y.length d),(.slice x H.length j),v7,(.slice o K.length g),(.slice u A.length m),(.slice z I.length t)]) O O O O BW O U (.tail (.tail (.tail (.tail (.tail (.tail .head)))))) O O λcu ah bw=>AZ (kp [2,1] O) (WF.sl (AG 1 (Db (vs:=[vI c.Hour,(.slice s y.length d),(.slice x H.length j),v7,(.slice o K.length g),(.slice u A.length m),(.slice z I.length t)]) A9 ah O (mt (mt (mt (mt (mt (mt mh)))))) O O HI O O (AF ?_))))
 have ai:=ag.trans (bu.trans bw)
 have aw:=k8.mono' ai
 refine G7 (vs:=[vI c.Hour,(.slice s y.length d),(.slice x H.length j),v7,(.slice o K.length g),(.slice u A.length m),(.slice z I.length t)]) (cs':=[vI c.Hour,(.slice s y.length d),(.slice x H.length j),v7,(.slice o K.length g),(.slice u A.length m),(.slice z I.length t)]) O O O (AE O (AE O (AE O (AE aw.one (AE O (AE O (AE O EH))))))) HI O ah (.tail (.tail (.tail (.tail (.tail .head))))) O O λcv a7 ax=>AZ (kp [2] O) (Ad (λaa ww V W=>?_))
 have aj:=a7.sel [4,3,2,1,0,0] 1 O
 have a8:=aj.drop (.tail (.tail (.tail (.tail (.tail .head)))))
 cases E
 exact KH V O W (IK (XX V W aj O (mt (mt (mt (mt (mt mh))))) HI O) KG) O (ai.trans ax) ⟨_,_,_,_,_,_,O,r2,(aw.mono' ax),a8⟩
theorem Pu (hs:St S L h) {i:Value}{n:A7}(u:Rd S h Bu i n) {j:Value}{b:Ax}(x:Rd S h BJ j b) {c:Int}(G:AH c) {r:Ax}(E:H3 N n b c=some r):
 CL Tryz.prog 21 #[i,j,vI c] S h (λv S' h'=>v= .agg #[vI r.Pos,vI r.Target,.bool r.Stuck,.bool r.Open]∧Ax.ok r∧St S' (L) h'):=by
 refine BG (l:=[i,j,vI c]) 24 Tryz.func21 O Tryz.ntmps21 O λB=>?_
 rw[H3] at E
 refine WF.sl (B4 O u (λe=>by cases e) O hs λq1 S2 h3 X e5 k6=>?_)
 obtain⟨rfl,⟨r9,Y⟩⟩:=BJ.ex (x.mono e5)
 refine P9 O O O X λy am I J=>Cp SA O I λz A k K=>AZ (kp [6,4,3,2] O) (AC (AI (AA O (AN (kp [7,6,4,3,2] O) (Am (λa w=>∃(o:Bool) (p:Bool),IV B S2 A (24,[]) a w [(6,vP z 0),(4,vP y 0)] (Bx z 69 [vI 0,vI 0,.bool false,.bool false]::Bx y 69 [vI b.Pos,vI b.Target,.bool o,.bool p]::L) λ_ _=>Fk N b o p=some r) ?_ ?_)))))
 ·refine AI (BL O (AK O (kp [8,7,6,4,3,2] O) (AW O E (λZ E=>?_) (λZ E=>?_))))
  ·refine D3 (AG 1 (AD Rb O (AF (H6 (vs:=[.bool true]) (cs':=[vI b.Pos,vI b.Target,.bool true,.bool b.Open]) O O O O Oo O k (.tail .head) O O λan M ab=>AZ (kp [6,4] O) (WF.nil (λs t d g=>?_))))))
   exact⟨true,b.Open,_,_,d.sub (kp [6,4] O),g,M,ab,E⟩
  refine AI (BL O (AK O (kp [11,7,6,4,3,2] O) (AW O E (λac E=>?_) (λac E=>?_))))
  ·refine D3 (AG 1 (AD Rb O (AF (H6 (vs:=[.bool false]) (cs':=[vI b.Pos,vI b.Target,.bool false,.bool b.Open]) O O O O Oo O k (.tail .head) O O λao Q ad=>AZ (kp [6,4] O) (WF.nil (λs t d g=>?_))))))
   exact⟨false,b.Open,_,_,d.sub (kp [6,4] O),g,Q,ad,E⟩
  refine AC (AI (BL O (AK O (kp [14,7,6,4,3,2] O) (Ge (λa w=>∃(H:Bool),IV B S2 A (24,[]) a w [(6,vP z 0),(4,vP y 0),(3,q1),(2,vI c),(14,.bool H)] (Bx z 69 [vI 0,vI 0,.bool false,.bool false]::Bx y 69 [vI b.Pos,vI b.Target,.bool b.Stuck,.bool b.Open]::L) λ_ _=>HC N n b c (Fk N b) H=some r) ?_ ?_))))
  ·refine AW O E (λae E=>?_) (λae E=>?_)
   ·refine AQ (WF.nil (λs t d g=>?_))
    exact⟨(decide (c=2)),_,_,d.sub (kp [6,4,3,2,14] O),g,k,(CA.refl S2 A),E⟩
   refine BZ (.inl O) (BL O (AK O (kp [14,6,4,3,2] O) (WF.nil (λs t d g=>?_))))
   exact⟨(decide (c=3)),_,_,d.sub (kp [6,4,3,2,14] O),g,k,(CA.refl S2 A),E⟩
  rintro s t ⟨H,ap,aq,d,g,m,C,E⟩
  refine Ac ?_ d g
  clear d g t s
  rw[HC] at E
  refine AW O E (λaf E=>?_) (λaf E=>?_)
  ·refine AI (Ae O (k6.mono (J.trans (K.trans C))) A7.f_Kind GK O λar ag=>Af A9 m.1 O ag Ag O λau=>BL O (AN (kp [19,6,4,2] O) (AW O E (λah E=>?_) (λah E=>?_))))
   ·refine D3 (AG 3 (AA O (BL O (AD Nv O (AF (H6 (vs:=[.bool (decide (c=2))]) (cs':=[vI b.Pos,vI b.Target,.bool b.Stuck,.bool (decide (c=2))]) O O O O Oo O m (.tail .head) O O λav U ai=>AZ (kp [6,4] O) (WF.nil (λs t d g=>?_))))))))
    exact⟨b.Stuck,(decide (c=2)),_,_,d.sub (kp [6,4] O),g,U,(C.trans ai),E⟩
   refine AQ (WF.nil (λs t d g=>?_))
   exact⟨b.Stuck,b.Open,_,_,d.sub (kp [6,4] O),g,m,C,E⟩
  refine AQ (WF.nil (λs t d g=>?_))
  exact⟨b.Stuck,b.Open,_,_,d.sub (kp [6,4] O),g,m,C,E⟩
 rintro s t ⟨o,p,aw,ax,d,g,D,aj,E⟩
 refine Ac ?_ d g
 clear d g t s
 rw[Fk] at E
 refine WF.sl (AG 1 (Db (vs:=[vI b.Pos,vI b.Target,.bool o,.bool p]) A9 D O (mt mh) O O Gt O O (AF (Du (vs:=[vI b.Pos,vI b.Target,.bool o,.bool p]) O O O O Gt O D .head O λay V ak=>AZ (kp [6] O) (Ad (λs t d g=>?_))))))
 have F:=V.drop (.tail .head)
 have W:=F.drop .head
 cases E
 exact KH d O g (IK (XX d g F O mh Gt O) KG) O (e5.trans (J.trans (K.trans (aj.trans ak)))) ⟨O,⟨r9,Y⟩,W⟩
theorem JH (hs:St S L h) {d:Int}(i:AH d) {b:Int}(g:AH b) {a:Int}(c:AH a) {r:Int}(E:Gj N d b a=some r):
 CL Tryz.prog 45 #[vI d,vI b,vI a] S h (λv S' h'=>v=vI r∧AH r∧St S' (L) h'):=by
 refine BG (l:=[vI d,vI b,vI a]) 16 Tryz.func45 O Tryz.ntmps45 O λB=>?_
 rw[Gj] at E
 refine AI (AK O (kp [0,1,2] O) (AC (AI (AA O (AA O (Ar O (AN (kp [9,0,1,2] O) (AW O E (λo E=>?_) (λo E=>?_)))))))))
 ·refine AI (AA O (AK O (kp [6] O) (Ad (λm n j k=>?_))))
  cases E
  exact Dx j k O O (CA.refl S h) ⟨O,g,hs⟩
 refine AQ (AC (AI (AA O (AA O (Bf O (AN (kp [13,0,2] O) (AW O E (λp E=>?_) (λp E=>?_))))))))
 ·refine AI (AA O (AK O (kp [6] O) (Ad (λm n j k=>?_))))
  cases E
  exact Dx j k O O (CA.refl S h) ⟨O,c,hs⟩
 refine AQ (AI (AA O (AK O (kp [6] O) (Ad (λm n j k=>?_)))))
 cases E
 exact Dx j k O O (CA.refl S h) ⟨O,i,hs⟩
end Go.Proofs.YtblcgjadhemlbaaGreat
