import Derived.Test.YtblcgjadhemlbaaGreatTWalk16
namespace Go.Proofs.YtblcgjadhemlbaaGreat
open Go.RowKit
set_option linter.unusedVariables false
set_option linter.unusedSimpArgs false
set_option maxRecDepth 10000
set_option maxHeartbeats 2000000
variable {N:Nat}{S:Nat→Prop}{L:List HP}{h:Aw}
theorem L7 (hs:St S L h) {p:Value}{t:AW}(J:Rd S h B8 p t) {k:Value}{s:Cy}(F:Rd S h FY k s) {d:Int}(am:AE d) {i:Int}(an:AE i) {b:Int}(y:AE b) {r:Int}(E:GT N t s d i b=some r):
 CL Tryz.prog 25 #[p,k,vI d,vI i,vI b] S h (λv S' h'=>v=vI r∧AE r∧St S' (L) h'):=by
 refine BF (l:=[p,k,vI d,vI i,vI b]) 82 Tryz.func25 O Tryz.ntmps25 O λB=>?_
 rw[GT] at E
 refine WF.sl (B3 O J (λe=>by cases e) O hs λq1 S2 h3 ao e5 k6=>B3 O (F.mono e5) (λe=>by cases e) O ao λq8 S9 M X Q ap=>AI 1 (AY O (AG (AZ (kp [6,5,2,3,4] O) (AH (AL O (kp [11,6,5,2,3,4] O) (AC (AH (AL O (kp [12,11,6,5,2,3,4] O) (Aj (λa w=>∃(K:Int),IV B S9 M (82,[]) a w [(11,vI K)] (L) λ_ _=>AE K∧De N K=some r) ?_ ?_))))))))))
 ·refine A3 (λn1=>λa w=>∃(u:Int) (z:Int),IV B S9 M (82,[]) a w [(6,q8),(5,q1),(2,vI d),(3,vI i),(4,vI b),(11,vI u),(12,vI z)] (L) λ_ _=>AE u∧AE z∧CF N t s d i b (De N) n1 u z=some r) N ?_ ?_ ?_
  ·intro A C m o
   exact⟨0,0,_,_,m.sub (kp [6,5,2,3,4,11,12] O),o,X,(B9.refl S9 M),(iq (n:=0) O),(iq (n:=0) O),E⟩
  ·rintro A C ⟨_,_,_,_,_,_,_,_,_,_,E⟩
   rw[CF] at E;cases E
  rintro n1 A C ⟨u,z,aq,ar,m,o,x,G,U,bk,E⟩
  refine Ac ?_ m o
  clear m o C A
  rw[CF] at E
  refine AC (AH (AA O ?_))
  have Y:=ap.mono G
  refine Af O Y Kt PO O λbl au=>Al A6 x.1 O au UC O λbm av=>Ak O av SY O λbn=>Ao O (AM (kp [18,6,5,2,3,4,11,12] O) (AX O E (λaw E=>?_) (λaw E=>?_)))
  ·refine AO (AC (Aj (λa w=>∃(H:Int),IV B aq ar (82,[]) a w [(6,q8),(5,q1),(2,vI d),(3,vI i),(4,vI b),(12,vI z),(11,vI H)] (L) λ_ _=>AE H∧ER N z (CF N t s d i b (De N) n1) H=some r) ?_ ?_))
   ·refine WF.sl (AI 5 (Af O Y Kt PO O λbo ax=>Al A6 x.1 O ax UC O λbp ay=>AA O ?_))
    obtain⟨c,Z,E⟩:=bd E
    refine A9 O O ay SY Z O λbq az=>B6 A6 x.1 O az UB (λe=>by cases e) O λbr a0=>AG (Cn Y3 O x λbs bt ab D=>?_)
    obtain⟨rfl,⟨bu,bv,bw,bx⟩⟩:=FO.ex (a0.mono D)
    refine DW (vs:=[vI c.Place,vI c.Owner,vI c.Litres,vI c.To]) O O O O UB O ab .head O λbz g I=>AZ (kp [13,6,5,2,3,4,11,12] O) (AC (AH (AD Ui O (AT A6 g O mh O Ae O (AA O (Bl O (AA O (AV 5 35 (.bool ((decide (c.Place≠d))||(decide (c.Owner≠i)))) ?_ ?_))))))))
    ·cases b0:(decide (c.Place≠d))
     ·exact AB O (AD Ri O (AB O (AT A6 g O mh O Ae O (AB O (AA O (AB O (Bl O (AJ O (AU O)))))))))
     exact Aa O O
    refine AA O (AV 4 40 (.bool (((decide (c.Place≠d))||(decide (c.Owner≠i)))||(decide (c.Litres≤0)))) ?_ ?_)
    ·cases b1:((decide (c.Place≠d))||(decide (c.Owner≠i)))
     ·exact AB O (AD PH O (AB O (AT A6 g O mh O Ae O (AB O (Fv O (AJ O (AU O)))))))
     exact Aa O O
    refine AA O (AV 4 45 (.bool ((((decide (c.Place≠d))||(decide (c.Owner≠i)))||(decide (c.Litres≤0)))||(decide (c.To<(-1))))) ?_ ?_)
    ·cases b2:(((decide (c.Place≠d))||(decide (c.Owner≠i)))||(decide (c.Litres≤0)))
     ·exact AB O (AD K1 O (AB O (AT A6 g O mh O Ae O (AB O (Ao O (AJ O (AU O)))))))
     exact Aa O O
    refine AA O (AV 7 53 (.bool (((((decide (c.Place≠d))||(decide (c.Owner≠i)))||(decide (c.Litres≤0)))||(decide (c.To<(-1))))||(decide ((↑t.Places.length:Int)≤c.To)))) ?_ ?_)
    ·cases b3:((((decide (c.Place≠d))||(decide (c.Owner≠i)))||(decide (c.Litres≤0)))||(decide (c.To<(-1))))
     ·exact AB O (AD K1 O (AB O (AT A6 g O mh O Ae O (AB O (Af O (k6.mono (Q.trans (G.trans (D.trans I)))) BO C0 O λb4 a1=>AB O (Al A6 g.1 O a1 Fq O λb5 a2=>AB O (Ak O a2 Ez O λb6=>AB O (Gb O (AJ O (AU O))))))))))
     exact Aa O O
    refine AM (kp [53,13,6,5,2,3,4,11,12] O) (AX O E (λa3 E=>?_) (λa3 E=>?_))
    ·refine BA O (λA C m o=>?_)
     have ac:=g.drop .head
     exact⟨u,_,_,m.sub (kp [6,5,2,3,4,12,11] O),o,ac,(D.trans I),U,E⟩
    refine AO (AC (BY (.inr ⟨mo,by kernel_rfl⟩) (AD K1 O (AT A6 g O mh O Ae O (BK O (AA O ?_))))))
    obtain⟨a4,j,E⟩:=bd E
    refine AV 15 72 (.bool a4) ?_ ?_
    ·cases ad:(decide (c.To=(-1)))
     ·have j:=GM ad j
      refine AB O ?_
      have ae:=k6.mono (Q.trans (G.trans (D.trans I)))
      refine Af O ae BO C0 O λb7 a5=>AB O (Al A6 g.1 O a5 Fq O λb8 a6=>AB O (AD K1 O (AB O (AT A6 g O mh O Ae O (AB O ?_)))))
      obtain⟨b9,af,j⟩:=bd j
      refine A9 O O a6 Ez af O λca a7=>AB O (Af O a7 GR KW O λcb a8=>AB O (Ag A6 g.1 O a8 Ae O λcc=>AB O (Af O ae BO C0 O λcd a9=>AB O (Al A6 g.1 O a9 Fq O λce ba=>AB O (AA O (AB O ?_))))))
      obtain⟨cf,ag,j⟩:=bd j
      refine A9 O O ba Ez ag O λcg bb=>AB O (Af O bb GR KW O λch bc=>AB O (Ag A6 g.1 O bc Ae O λci=>AB O (BK O (AJ O ?_))))
      cases j
      exact AU O
     have j:=GL ad j
     cases j
     exact Aa O O
    refine AM (kp [72,13,6,5,2,3,4,11,12] O) (AX O E (λbe E=>?_) (λbe E=>?_))
    ·refine BY (.inl O) (AA O (AA O (AD PH O (AT A6 g O mh O Ae O (AA O (NT O O O (Ai O (NT O O O (AL O (kp [11,6,5,2,3,4,12] O) (WF.nil (λA C m o=>?_)))))))))))
     have ah:=g.drop .head
     exact⟨(min b (BM (u+(min c.Litres b)))),_,_,m.sub (kp [6,5,2,3,4,12,11] O),o,ah,(D.trans I),(Kb y (BG _)),E⟩
    refine AO (WF.nil (λA C m o=>?_))
    have ai:=g.drop .head
    exact⟨u,_,_,m.sub (kp [6,5,2,3,4,12,11] O),o,ai,(D.trans I),U,E⟩
   rintro A C ⟨H,cj,bh,m,o,V,aj,bf,E⟩
   refine Ac ?_ m o
   clear m o C A
   rw[ER] at E
   refine BY (.inl O) (AA O (Ai O (AL O (kp [12,6,5,2,3,4,11] O) (WF.nil (λA C m o=>?_)))))
   exact⟨H,(BM (z+1)),_,_,m.sub (kp [6,5,2,3,4,11,12] O),o,V,(G.trans aj),bf,(BG _),E⟩
  refine BA O (λA C m o=>?_)
  exact⟨u,_,_,m.sub (kp [11] O),o,x,G,U,E⟩
 rintro A C ⟨K,bi,bj,m,o,W,ak,bg,E⟩
 refine Ac ?_ m o
 clear m o C A
 rw[De] at E
 refine AH (AA O (AL O (kp [10] O) (Ad (λA C m o=>?_))))
 cases E
 exact Dr m o O O (e5.trans (Q.trans ak)) ⟨O,bg,W⟩
theorem Kw (hs:St S L h) {af:Value}{j:AW}(br:Rd S h B8 af j) {ag:Value}{m:Am}(bs:Rd S h CP ag m) {U:Value}{c:Cy}(a8:Rd S h FY U c) {r:Bool}(E:FH N j m c=some r):
 CL Tryz.prog 7 #[af,ag,U] S h (λv S' h'=>v= .bool r∧St S' (L) h'):=by
 refine BF (l:=[af,ag,U]) 204 Tryz.func7 O Tryz.ntmps7 O λB=>?_
 rw[FH] at E
 refine WF.sl (B3 O br (λe=>by cases e) O hs λq1 S2 h3 g0 e5 k6=>B3 O (bs.mono e5) (λe=>by cases e) O g0 λq8 S9 k2 d3 a3 g1=>B3 O (a8.mono (e5.trans a3)) (λe=>by cases e) O d3 λac k3 k4 d4 a4 g2=>AI 1 (AY O (AG (AZ (kp [5,4,3] O) (AC (Bt (.inl O) d4 ?_))))))
 obtain⟨u,d5,E⟩:=bd E
 refine A5 O O O jO O (λh' o=>L6 (St.all h') d5) (AY O (BQ (kp [7,5,4,3] O) λk5 Q ar=>AC (AC (Bt (.inl O) Q ?_))))
 have d6:=k6.mono (a3.trans (a4.trans ar))
 refine B6 Bg Q.1 O d6 G0 (λe=>by cases e) O λk7 g3=>?_
 have d7:=g1.mono (a4.trans ar)
 refine B6 Bg Q.1 O d7 G8 (λe=>by cases e) O λk8 g4=>?_
 have cc:=g2.mono ar
 refine B6 Bg Q.1 O cc SO (λe=>by cases e) O λk9 g5=>?_
 obtain⟨d8,d9,E⟩:=bd E
 refine A5 O O O gV O (λh' o=>MW (St.all h') (g3.mono (o.all Q.1)) (g4.mono (o.all Q.1)) (g5.mono (o.all Q.1)) d9) (BZ O (AA O (AV 5 31 (.bool ((!d8)||(decide (0<(↑c.Swaps.length:Int))))) ?_ ?_)))
 ·cases la:(!d8)
  ·exact AB O (Af O cc Mh Rp O λlb g6=>AB O (Al Bg Q.1 O g6 Vr O λlc g7=>AB O (Ak O g7 UH O λle=>AB O (Bk O (AJ O (AU O))))))
  exact Aa O O
 refine BQ (kp [31,7,5,4,3] O) λlf ai au=>AX O E (λg8 E=>?_) (λg8 E=>?_)
 ·refine AH (AA O (AL O (kp [6] O) (Ad (λs t d g=>?_))))
  cases E
  exact Dr d g O O (e5.trans (a3.trans (a4.trans (ar.trans au)))) ⟨O,ai⟩
 refine AO (WF.sl (AI 3 ?_))
 have ea:=d6.mono au
 refine B6 A6 ai.1 O ea G0 (λe=>by cases e) O λlg g9=>?_
 have eb:=d7.mono au
 refine B6 A6 ai.1 O eb G8 (λe=>by cases e) O λlh ha=>?_
 have ec:=cc.mono au
 refine B6 A6 ai.1 O ec SO (λe=>by cases e) O λli hb=>AG ?_
 obtain⟨b,ed,E⟩:=bd E
 refine Ct O O O XT O (K9 ai g9 ha hb ed) λlj cd ll a5 p=>?_
 obtain⟨lm,y,lo,rfl,hc,ee⟩:=p
 refine AI 4 (AA O (Bo O (Bo O (Bo O (AG (Cn OT O ee λlp lq ef av=>?_))))))
 obtain⟨eg,eh,ei,ej,ek,el,rfl,lr,hd,he,hg,hh,hi,hj⟩:=CP.ex (hc.mono av)
 refine HM (vs:=[vI b.1.Hour,eg,eh,ei,ej,ek,el]) (cs':=[vI b.1.Hour,eg,eh,ei,ej,ek,el]) O O O (AF O (AF hd.one (AF he.one (AF hg.one (AF hh.one (AF hi.one (AF hj.one EG))))))) G8 O ef .head O O λce em a6=>AI 2 (AY O (AY O (AG (AZ (kp [9,7,5,4,3] O) (AC (AH (AL O (kp [11,9,7,5,4,3] O) (Aj (λa w=>IV B cd ce (204,[]) a w [(9,y),(7,.bool u)] (OS BJ 50 y b.2.1::L) λ_ _=>Aq N u b=some r) ?_ ?_))))))))
 ·refine A3 (λn1=>λa w=>∃(i:Int),IV B cd ce (204,[]) a w [(9,y),(7,.bool u),(5,ac),(4,q8),(3,q1),(11,vI i)] (OS BJ 50 y b.2.1::L) λ_ _=>AE i∧Ap N j m c b (Aq N u b) n1 i=some r) N ?_ ?_ ?_
  ·intro s t d g
   have en:=em.sel [1] 2 O
   exact⟨0,_,_,d.sub (kp [9,7,5,4,3,11] O),g,en,(B9.refl cd ce),(iq (n:=0) O),E⟩
  ·rintro s t ⟨_,_,_,_,_,_,_,_,E⟩
   rw[Ap] at E;cases E
  rintro n1 s t ⟨i,cf,cg,d,g,a9,a7,hk,E⟩
  refine Ac ?_ d g
  clear d g t s
  rw[Ap] at E
  refine AC (AH (AA O ?_))
  have bt:=ea.mono (a5.trans (av.trans (a6.trans a7)))
  refine Af O bt BO C0 O λhl eo=>Al A6 a9.1 O eo Fq O λhm ep=>Ak O ep Ez O λhn=>Ao O (AM (kp [45,9,7,5,4,3,11] O) (AX O E (λeq E=>?_) (λeq E=>?_)))
  ·refine AO (AC (Aj (λa w=>IV B cf cg (204,[]) a w [(9,y),(7,.bool u),(5,ac),(4,q8),(3,q1),(11,vI i)] (OS BJ 50 y b.2.1::L) λ_ _=>BD N i (Ap N j m c b (Aq N u b) n1)=some r) ?_ ?_))
   ·refine AH (AL O (kp [12,9,7,5,4,3,11] O) (A8 (A3 (λn3=>λa w=>∃(k:Int),IV B cf cg (204,[]) a w [(9,y),(7,.bool u),(5,ac),(4,q8),(3,q1),(11,vI i),(12,vI k)] (OS BJ 50 y b.2.1::L) λ_ _=>AE k∧BC N j m c b i (BD N i (Ap N j m c b (Aq N u b) n1)) n3 k=some r) N ?_ ?_ ?_)))
    ·intro s t d g
     exact⟨0,_,_,d.sub (kp [9,7,5,4,3,11,12] O),g,a9,(B9.refl cf cg),(iq (n:=0) O),E⟩
    ·rintro s t ⟨_,_,_,_,_,_,_,_,E⟩
     rw[BC] at E;cases E
    rintro n3 s t ⟨k,ba,bb,d,g,M,ad,er,E⟩
    refine Ac ?_ d g
    clear d g t s
    rw[BC] at E
    refine AC (AH (AA O ?_))
    have bu:=bt.mono ad
    refine Af O bu Dq HT O λho es=>Al A6 M.1 O es KI O λhp et=>Ak O et Jx O λhq=>Ao O (AM (kp [52,9,7,5,4,3,11,12] O) (AX O E (λeu E=>?_) (λeu E=>?_)))
    ·refine AO (AC (A8 (AH ?_)))
     have bv:=eb.mono (a5.trans (av.trans (a6.trans (a7.trans ad))))
     refine Af O bv Ik D2 O λhr ev=>Al A6 M.1 O ev G9 O λht ew=>AA O ?_
     obtain⟨hu,ch,E⟩:=bd E
     refine A9 O O ew E3 ch O λhv ey=>Al A6 M.1 O ey BX O λhx ez=>AA O ?_
     obtain⟨e0,ci,E⟩:=bd E
     refine A9 O O ez BR ci O λhy e1=>Ag A6 M.1 O e1 Ae O λe2=>AL O (kp [13,9,7,5,4,3,11,12] O) (AC (AH (AL O (kp [14,13,9,7,5,4,3,11,12] O) (Aj (λa w=>∃(aj:Int),IV B ba bb (204,[]) a w [(9,y),(7,.bool u),(5,ac),(4,q8),(3,q1),(11,vI i),(12,vI k),(13,vI aj)] (OS BJ 50 y b.2.1::L) λ_ _=>AE aj∧Cm N j c b i k (BC N j m c b i (BD N i (Ap N j m c b (Aq N u b) n1)) n3) aj=some r) ?_ ?_))))
     ·refine A3 (λn5=>λa w=>∃(V:Int) (W:Int),IV B ba bb (204,[]) a w [(9,y),(7,.bool u),(5,ac),(4,q8),(3,q1),(11,vI i),(12,vI k),(13,vI V),(14,vI W)] (OS BJ 50 y b.2.1::L) λ_ _=>AE V∧AE W∧Bd N m i k (Cm N j c b i k (BC N j m c b i (BD N i (Ap N j m c b (Aq N u b) n1)) n3)) n5 V W=some r) N ?_ ?_ ?_
      ·intro s t d g
       exact⟨e0,0,_,_,d.sub (kp [9,7,5,4,3,11,12,13,14] O),g,M,(B9.refl ba bb),e2,(iq (n:=0) O),E⟩
      ·rintro s t ⟨_,_,_,_,_,_,_,_,_,_,E⟩
       rw[Bd] at E;cases E
      rintro n5 s t ⟨V,W,bc,be,d,g,z,bf,bw,hz,E⟩
      refine Ac ?_ d g
      clear d g t s
      rw[Bd] at E
      refine AC (AH (AA O ?_))
      have ak:=bv.mono bf
      refine Af O ak FZ IL O λh0 e3=>Al A6 z.1 O e3 Ju O λh1 e4=>Ak O e4 Im O λh2=>Ao O (AM (kp [67,9,7,5,4,3,11,12,13,14] O) (AX O E (λe6 E=>?_) (λe6 E=>?_)))
      ·refine AO (AC (Aj (λa w=>∃(am:Int),IV B bc be (204,[]) a w [(9,y),(7,.bool u),(5,ac),(4,q8),(3,q1),(11,vI i),(12,vI k),(14,vI W),(13,vI am)] (OS BJ 50 y b.2.1::L) λ_ _=>AE am∧EC N W (Bd N m i k (Cm N j c b i k (BC N j m c b i (BD N i (Ap N j m c b (Aq N u b) n1)) n3)) n5) am=some r) ?_ ?_))
       ·refine AC (BY (.inr ⟨mo,by kernel_rfl⟩) (Af O ak FZ IL O λh4 e7=>Al A6 z.1 O e7 Ju O λh5 e8=>AA O ?_))
        obtain⟨e9,cj,E⟩:=bd E
        refine A9 O O e8 Im cj O λh6 fb=>Af O fb Av.f_To KV O λh7 fc=>Ag A6 z.1 O fc Ae O λh8=>AA O (BK O (AA O ?_))
        obtain⟨fd,H,E⟩:=bd E
        refine AV 10 88 (.bool fd) ?_ ?_
        ·cases bx:(decide (e9.To=i))
         ·have H:=GM bx H
          cases H
          exact Aa O O
         have H:=GL bx H
         refine AB O (Af O ak FZ IL O λh9 fe=>AB O (Al A6 z.1 O fe Ju O λia ff=>AB O (AA O (AB O ?_))))
         obtain⟨ib,ck,H⟩:=bd H
         refine A9 O O ff Im ck O λic fg=>AB O (Af O fg NW Mv O λid fh=>AB O (Ag A6 z.1 O fh Ae O λie=>AB O (Af O ak Am.f_Hour IM O λig fi=>AB O (Ag A6 z.1 O fi Ae O λih=>AB O (Fv O (AJ O ?_))))))
         cases H
         exact AU O
        refine AM (kp [88,9,7,5,4,3,11,12,13,14] O) (AX O E (λfj E=>?_) (λfj E=>?_))
        ·refine BY (.inl O) (AA O (Af O ak FZ IL O λii fk=>Al A6 z.1 O fk Ju O λij fl=>AA O ?_))
         obtain⟨ik,cl,E⟩:=bd E
         refine A9 O O fl Im cl O λil fm=>Af O fm Av.f_Part KU O λim fn=>Al A6 z.1 O fn BX O λio fo=>AA O ?_
         obtain⟨fp,cm,E⟩:=bd E
         refine A9 O O fo BR cm O λip fq=>Ag A6 z.1 O fq Ae O λir=>Ai O (AL O (kp [13,9,7,5,4,3,11,12,14] O) (WF.nil (λs t d g=>?_)))
         exact⟨(BM (V+fp)),_,_,d.sub (kp [9,7,5,4,3,11,12,14,13] O),g,z,(B9.refl bc be),(BG _),E⟩
        refine AO (WF.nil (λs t d g=>?_))
        exact⟨V,_,_,d.sub (kp [9,7,5,4,3,11,12,14,13] O),g,z,(B9.refl bc be),bw,E⟩
       rintro s t ⟨am,it,iu,d,g,cn,fr,fs,E⟩
       refine Ac ?_ d g
       clear d g t s
       rw[EC] at E
       refine BY (.inl O) (AA O (Ai O (AL O (kp [14,9,7,5,4,3,11,12,13] O) (WF.nil (λs t d g=>?_)))))
       exact⟨am,(BM (W+1)),_,_,d.sub (kp [9,7,5,4,3,11,12,13,14] O),g,cn,(bf.trans fr),fs,(BG _),E⟩
      refine BA O (λs t d g=>?_)
      exact⟨V,_,_,d.sub (kp [9,7,5,4,3,11,12,13] O),g,z,bf,bw,E⟩
     rintro s t ⟨aj,bg,bh,d,g,co,ax,ft,E⟩
     refine Ac ?_ d g
     clear d g t s
     rw[Cm] at E
     refine AH (AL O (kp [15,9,7,5,4,3,11,12,13] O) (AC (AH (AL O (kp [16,15,9,7,5,4,3,11,12,13] O) (Aj (λa w=>∃(ay:Int) (az:Int),IV B bg bh (204,[]) a w [(9,y),(7,.bool u),(5,ac),(4,q8),(3,q1),(11,vI i),(12,vI k),(13,vI ay),(15,vI az)] (OS BJ 50 y b.2.1::L) λ_ _=>AE ay∧AE az∧Ck N j c i k (BC N j m c b i (BD N i (Ap N j m c b (Aq N u b) n1)) n3) ay az=some r) ?_ ?_)))))
     ·refine A3 (λn8=>λa w=>∃(X:Int) (K:Int) (J:Int),IV B bg bh (204,[]) a w [(9,y),(7,.bool u),(5,ac),(4,q8),(3,q1),(11,vI i),(12,vI k),(13,vI X),(15,vI K),(16,vI J)] (OS BJ 50 y b.2.1::L) λ_ _=>AE X∧AE K∧AE J∧Bc N b i k (Ck N j c i k (BC N j m c b i (BD N i (Ap N j m c b (Aq N u b) n1)) n3)) n8 X K J=some r) N ?_ ?_ ?_
      ·intro s t d g
       exact⟨aj,0,0,_,_,d.sub (kp [9,7,5,4,3,11,12,13,15,16] O),g,co,(B9.refl bg bh),ft,(iq (n:=0) O),(iq (n:=0) O),E⟩
      ·rintro s t ⟨_,_,_,_,_,_,_,_,_,_,_,_,E⟩
       rw[Bc] at E;cases E
      rintro n8 s t ⟨X,K,J,a0,a1,d,g,A,bz,b0,b1,iv,E⟩
      refine Ac ?_ d g
      clear d g t s
      rw[Bc] at E
      refine AC (AH (AA O (AA O (K7 A mh O Fs O λiw=>Ao O (AM (kp [103,9,7,5,4,3,11,12,13,15,16] O) (AX O E (λfu E=>?_) (λfu E=>?_)))))))
      ·refine AO (AC (Aj (λa w=>∃(an:Int) (ao:Int),IV B a0 a1 (204,[]) a w [(9,y),(7,.bool u),(5,ac),(4,q8),(3,q1),(11,vI i),(12,vI k),(16,vI J),(13,vI an),(15,vI ao)] (OS BJ 50 y b.2.1::L) λ_ _=>AE an∧AE ao∧DU N J (Bc N b i k (Ck N j c i k (BC N j m c b i (BD N i (Ap N j m c b (Aq N u b) n1)) n3)) n8) an ao=some r) ?_ ?_))
       ·refine AC (AH (AA O (AA O ?_)))
        obtain⟨iy,cp,E⟩:=bd E
        refine A0 A mh O O Fs cp O λiz cq=>Eq O cq YV O λi0 cr=>?_
        obtain⟨fv,cs,E⟩:=bd E
        have fw:=A.epAt mh cs Ah.f_To cr
        refine Ag A6 (λ_ x=>x) O fw Ae O λi1=>AA O (BK O (AA O ?_))
        obtain⟨fx,C,E⟩:=bd E
        refine AV 7 120 (.bool fx) ?_ ?_
        ·cases b2:(decide (fv.To=i))
         ·have C:=GM b2 C
          cases C
          exact Aa O O
         have C:=GL b2 C
         refine AB O (AA O (AB O (AA O (AB O ?_))))
         obtain⟨i2,ct,C⟩:=bd C
         refine A0 A mh O O Fs ct O λi3 cu=>AB O (Eq O cu Hv O λi4 cv=>AB O ?_)
         obtain⟨i5,cw,C⟩:=bd C
         have fy:=A.epAt mh cw ED cv
         refine Ag A6 (λ_ x=>x) O fy Ae O λi6=>AB O (BK O (AJ O ?_))
         cases C
         exact AU O
        refine AM (kp [120,9,7,5,4,3,11,12,13,15,16] O) (Ga (λa w=>∃(ae:Int),IV B a0 a1 (204,[]) a w [(9,y),(7,.bool u),(5,ac),(4,q8),(3,q1),(11,vI i),(12,vI k),(15,vI K),(16,vI J),(13,vI ae)] (OS BJ 50 y b.2.1::L) λ_ _=>AE ae∧D4 N b i k K J (DU N J (Bc N b i k (Ck N j c i k (BC N j m c b i (BD N i (Ap N j m c b (Aq N u b) n1)) n3)) n8)) ae=some r) ?_ ?_)
        ·refine AX O E (λfz E=>?_) (λfz E=>?_)
         ·refine BY (.inl O) (AA O (AA O (AA O ?_)))
          obtain⟨i7,cx,E⟩:=bd E
          refine A0 A mh O O Fs cx O λi8 cy=>Eq O cy Hu O λi9 cz=>?_
          obtain⟨ja,c0,E⟩:=bd E
          have f0:=A.epAt mh c0 Ah.f_Part cz
          refine Al A6 (λ_ x=>x) O f0 BX O λjb f1=>AA O ?_
          obtain⟨f2,c1,E⟩:=bd E
          refine A9 O O f1 BR c1 O λjc f3=>Ag A6 A.1 O f3 Ae O λjd=>Ai O (AL O (kp [13,9,7,5,4,3,11,12,15,16] O) (WF.nil (λs t d g=>?_)))
          exact⟨(BM (X+f2)),_,_,d.sub (kp [9,7,5,4,3,11,12,15,16,13] O),g,A,(B9.refl a0 a1),(BG _),E⟩
         refine AO (WF.nil (λs t d g=>?_))
         exact⟨X,_,_,d.sub (kp [9,7,5,4,3,11,12,15,16,13] O),g,A,(B9.refl a0 a1),b0,E⟩
        rintro s t ⟨ae,je,jf,d,g,G,b3,b4,E⟩
        refine Ac ?_ d g
        clear d g t s
        rw[D4] at E
        refine AH (AA O (AA O ?_))
        obtain⟨jg,c2,E⟩:=bd E
        refine A0 G mh O O Fs c2 O λjh c3=>Eq O c3 YW O λji c4=>?_
        obtain⟨f4,c5,E⟩:=bd E
        have f5:=G.epAt mh c5 Ah.f_From c4
        refine Ag A6 (λ_ x=>x) O f5 Ae O λjj=>AA O (BK O (AA O ?_))
        obtain⟨f6,D,E⟩:=bd E
        refine AV 7 145 (.bool f6) ?_ ?_
        ·cases b5:(decide (f4.From=i))
         ·have D:=GM b5 D
          cases D
          exact Aa O O
         have D:=GL b5 D
         refine AB O (AA O (AB O (AA O (AB O ?_))))
         obtain⟨jk,c6,D⟩:=bd D
         refine A0 G mh O O Fs c6 O λjl c7=>AB O (Eq O c7 Hv O λjm c8=>AB O ?_)
         obtain⟨jn,c9,D⟩:=bd D
         have f7:=G.epAt mh c9 ED c8
         refine Ag A6 (λ_ x=>x) O f7 Ae O λjo=>AB O (BK O (AJ O ?_))
         cases D
         exact AU O
        refine AM (kp [145,9,7,5,4,3,11,12,15,16,13] O) (AX O E (λf8 E=>?_) (λf8 E=>?_))
        ·refine BY (.inl O) (AA O (AA O (AA O ?_)))
         obtain⟨jp,da,E⟩:=bd E
         refine A0 G mh O O Fs da O λjq db=>Eq O db Hu O λjr dc=>?_
         obtain⟨js,dd,E⟩:=bd E
         have f9:=G.epAt mh dd Ah.f_Part dc
         refine Al A6 (λ_ x=>x) O f9 BX O λjt ga=>AA O ?_
         obtain⟨gb,de,E⟩:=bd E
         refine A9 O O ga BR de O λju gc=>Ag A6 G.1 O gc Ae O λjv=>Ai O (AL O (kp [15,9,7,5,4,3,11,12,16,13] O) (WF.nil (λs t d g=>?_)))
         exact⟨ae,(BM (K+gb)),_,_,d.sub (kp [9,7,5,4,3,11,12,16,13,15] O),g,G,b3,b4,(BG _),E⟩
        refine AO (WF.nil (λs t d g=>?_))
        exact⟨ae,K,_,_,d.sub (kp [9,7,5,4,3,11,12,16,13,15] O),g,G,b3,b4,b1,E⟩
       rintro s t ⟨an,ao,jw,jx,d,g,df,gd,ge,gf,E⟩
       refine Ac ?_ d g
       clear d g t s
       rw[DU] at E
       refine BY (.inl O) (AA O (Ai O (AL O (kp [16,9,7,5,4,3,11,12,13,15] O) (WF.nil (λs t d g=>?_)))))
       exact⟨an,ao,(BM (J+1)),_,_,d.sub (kp [9,7,5,4,3,11,12,13,15,16] O),g,df,(bz.trans gd),ge,gf,(BG _),E⟩
      refine BA O (λs t d g=>?_)
      exact⟨X,K,_,_,d.sub (kp [9,7,5,4,3,11,12,13,15] O),g,A,bz,b0,b1,E⟩
     rintro s t ⟨ay,az,jy,jz,d,g,Y,a2,gg,j0,E⟩
     refine Ac ?_ d g
     clear d g t s
     rw[Ck] at E
     refine AC (Bt (.inl O) Y (AA O (AA O (B6 Bg Y.1 O (bu.mono (ax.trans a2)) G0 (λe=>by cases e) O λj1 gh=>B6 Bg Y.1 O (ec.mono (a5.trans (av.trans (a6.trans (a7.trans (ad.trans (ax.trans a2))))))) SO (λe=>by cases e) O λj2 gi=>AA O (AA O (AA O ?_))))))
     obtain⟨j3,dg,E⟩:=bd E
     refine CX O O O gN O (λh' o=>L7 (St.all h') (gh.mono (o.all Y.1)) (gi.mono (o.all Y.1)) hk er gg dg) λgj=>?_
     have j4:=gj
     refine NT O O O (Bl O (BQ (kp [165,9,7,5,4,3,11,12] O) λj5 bi b6=>AX O E (λgk E=>?_) (λgk E=>?_)))
     ·refine AH (AL O (kp [6] O) (Ad (λs t d g=>?_)))
      have dh:=bi.drop .head
      cases E
      exact Dr d g O O (e5.trans (a3.trans (a4.trans (ar.trans (au.trans (a5.trans (av.trans (a6.trans (a7.trans (ad.trans (ax.trans (a2.trans b6)))))))))))) ⟨O,dh⟩
     refine AO (BP (BY (.inl O) (AA O (Ai O (AL O (kp [12,9,7,5,4,3,11] O) (WF.nil (λs t d g=>?_)))))))
     exact⟨(BM (k+1)),_,_,d.sub (kp [9,7,5,4,3,11,12] O),g,bi,(ad.trans (ax.trans (a2.trans b6))),(BG _),E⟩
    refine J8 O (WF.nil (λs t d g=>?_))
    exact⟨_,_,d.sub (kp [9,7,5,4,3,11] O),g,M,ad,E⟩
   rintro s t ⟨j6,j7,d,g,di,gl,E⟩
   refine Ac ?_ d g
   clear d g t s
   rw[BD] at E
   refine BY (.inl O) (AA O (Ai O (AL O (kp [11,9,7,5,4,3] O) (WF.nil (λs t d g=>?_)))))
   exact⟨(BM (i+1)),_,_,d.sub (kp [9,7,5,4,3,11] O),g,di,(a7.trans gl),(BG _),E⟩
  refine BA O (λs t d g=>?_)
  exact⟨_,_,d.sub (kp [9,7] O),g,a9,a7,E⟩
 rintro s t ⟨bj,bk,d,g,dj,b7,E⟩
 refine Ac ?_ d g
 clear d g t s
 rw[Aq] at E
 refine AC (AH (AL O (kp [17,9,7] O) (Aj (λa w=>IV B bj bk (204,[]) a w [(7,.bool u)] (L) λ_ _=>CB N u=some r) ?_ ?_)))
 ·refine A3 (λbl=>λa w=>∃(F:Int),IV B bj bk (204,[]) a w [(9,y),(7,.bool u),(17,vI F)] (OS BJ 50 y b.2.1::L) λ_ _=>AE F∧Bj N b (CB N u) bl F=some r) N ?_ ?_ ?_
  ·intro s t d g
   exact⟨0,_,_,d.sub (kp [9,7,17] O),g,dj,(B9.refl bj bk),(iq (n:=0) O),E⟩
  ·rintro s t ⟨_,_,_,_,_,_,_,_,E⟩
   rw[Bj] at E;cases E
  rintro bl s t ⟨F,bm,bn,d,g,aw,bo,j8,E⟩
  refine Ac ?_ d g
  clear d g t s
  rw[Bj] at E
  refine AC (AH (AA O (AA O (K7 aw mh O Fs O λj9=>Ao O (AM (kp [169,9,7,17] O) (AX O E (λgm E=>?_) (λgm E=>?_)))))))
  ·refine AO (AC (A8 (AH (AL O (kp [18,9,7,17] O) (AC (AH (AL O (kp [19,18,9,7,17] O) (Aj (λa w=>∃(ap:Int),IV B bm bn (204,[]) a w [(9,y),(7,.bool u),(17,vI F),(18,vI ap)] (OS BJ 50 y b.2.1::L) λ_ _=>AE ap∧DH N b F (Bj N b (CB N u) bl) ap=some r) ?_ ?_))))))))
   ·refine A3 (λdk=>λa w=>∃(Z:Int) (ab:Int),IV B bm bn (204,[]) a w [(9,y),(7,.bool u),(17,vI F),(18,vI Z),(19,vI ab)] (OS BJ 50 y b.2.1::L) λ_ _=>AE Z∧AE ab∧Bi N b F (DH N b F (Bj N b (CB N u) bl)) dk Z ab=some r) N ?_ ?_ ?_
    ·intro s t d g
     exact⟨0,0,_,_,d.sub (kp [9,7,17,18,19] O),g,aw,(B9.refl bm bn),(iq (n:=0) O),(iq (n:=0) O),E⟩
    ·rintro s t ⟨_,_,_,_,_,_,_,_,_,_,E⟩
     rw[Bi] at E;cases E
    rintro dk s t ⟨Z,ab,bp,bq,d,g,I,b8,b9,ka,E⟩
    refine Ac ?_ d g
    clear d g t s
    rw[Bi] at E
    refine AC (AH (AA O (AA O (AA O ?_))))
    obtain⟨kb,dl,E⟩:=bd E
    refine A0 I mh O O Fs dl O λkc dm=>Eq O dm Hu O λkd dn=>?_
    obtain⟨ke,dp,E⟩:=bd E
    have gn:=I.epAt mh dp Ah.f_Part dn
    refine Al A6 (λ_ x=>x) O gn BX O λkf gp=>Ak O gp BR O λkg=>Ao O (AM (kp [179,9,7,17,18,19] O) (AX O E (λgq E=>?_) (λgq E=>?_)))
    ·refine AO (AC (Aj (λa w=>∃(aq:Int),IV B bp bq (204,[]) a w [(9,y),(7,.bool u),(17,vI F),(19,vI ab),(18,vI aq)] (OS BJ 50 y b.2.1::L) λ_ _=>AE aq∧D3 N ab (Bi N b F (DH N b F (Bj N b (CB N u) bl)) dk) aq=some r) ?_ ?_))
     ·refine AH (AA O (AA O ?_))
      obtain⟨kh,dq,E⟩:=bd E
      refine A0 I mh O O Fs dq O λki dr=>Eq O dr Hu O λkj ds=>?_
      obtain⟨kk,dt,E⟩:=bd E
      have gr:=I.epAt mh dt Ah.f_Part ds
      refine Al A6 (λ_ x=>x) O gr BX O λkl gs=>AA O ?_
      obtain⟨km,du,E⟩:=bd E
      refine A9 O O gs BR du O λkn gt=>Ag A6 I.1 O gt Ae O λko=>Bk O (AM (kp [190,9,7,17,18,19] O) (AX O E (λgu E=>?_) (λgu E=>?_)))
      ·refine BY (.inl O) (AA O (Ai O (AL O (kp [18,9,7,17,19] O) (WF.nil (λs t d g=>?_)))))
       exact⟨(BM (Z+1)),_,_,d.sub (kp [9,7,17,19,18] O),g,I,(B9.refl bp bq),(BG _),E⟩
      refine AO (WF.nil (λs t d g=>?_))
      exact⟨Z,_,_,d.sub (kp [9,7,17,19,18] O),g,I,(B9.refl bp bq),b9,E⟩
     rintro s t ⟨aq,kq,kr,d,g,dv,gv,gw,E⟩
     refine Ac ?_ d g
     clear d g t s
     rw[D3] at E
     refine BY (.inl O) (AA O (Ai O (AL O (kp [19,9,7,17,18] O) (WF.nil (λs t d g=>?_)))))
     exact⟨aq,(BM (ab+1)),_,_,d.sub (kp [9,7,17,18,19] O),g,dv,(b8.trans gv),gw,(BG _),E⟩
    refine BA O (λs t d g=>?_)
    exact⟨Z,_,_,d.sub (kp [9,7,17,18] O),g,I,b8,b9,E⟩
   rintro s t ⟨ap,ks,kt,d,g,ah,ca,ku,E⟩
   refine Ac ?_ d g
   clear d g t s
   rw[DH] at E
   refine AH (AA O (AA O ?_))
   obtain⟨kv,dw,E⟩:=bd E
   refine A0 ah mh O O Fs dw O λkw dx=>Eq O dx Hv O λkx dy=>?_
   obtain⟨cb,dz,E⟩:=bd E
   have gx:=ah.epAt mh dz ED dy
   refine Ag A6 (λ_ x=>x) O gx Ae O λky=>BK O (AA O (AV 3 202 (.bool ((decide (cb.Way=(-3)))&&(decide (ap≠1)))) ?_ ?_))
   ·cases kz:(decide (cb.Way=(-3)))
    ·exact Aa O O
    exact AB O (AA O (AB O (Bl O (AJ O (AU O)))))
   refine AM (kp [202,9,7,17] O) (AX O E (λgy E=>?_) (λgy E=>?_))
   ·refine AH (AL O (kp [6] O) (Ad (λs t d g=>?_)))
    have d0:=ah.drop .head
    cases E
    exact Dr d g O O (e5.trans (a3.trans (a4.trans (ar.trans (au.trans (a5.trans (av.trans (a6.trans (b7.trans (bo.trans ca)))))))))) ⟨O,d0⟩
   refine AO (BP (BY (.inl O) (AA O (Ai O (AL O (kp [17,9,7] O) (WF.nil (λs t d g=>?_)))))))
   exact⟨(BM (F+1)),_,_,d.sub (kp [9,7,17] O),g,ah,(bo.trans ca),(BG _),E⟩
  refine BA O (λs t d g=>?_)
  have d1:=aw.drop .head
  exact⟨_,_,d.sub (kp [7] O),g,d1,bo,E⟩
 rintro s t ⟨k0,k1,d,g,d2,gz,E⟩
 refine Ac ?_ d g
 clear d g t s
 rw[CB] at E
 refine AH (AA O (AL O (kp [6] O) (Ad (λs t d g=>?_))))
 cases E
 exact Dr d g O O (e5.trans (a3.trans (a4.trans (ar.trans (au.trans (a5.trans (av.trans (a6.trans (b7.trans gz))))))))) ⟨O,d2⟩
end Go.Proofs.YtblcgjadhemlbaaGreat
