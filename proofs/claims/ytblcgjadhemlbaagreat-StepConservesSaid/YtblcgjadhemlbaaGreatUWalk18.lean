import Derived.Test.YtblcgjadhemlbaaGreatUWalk14
namespace Go.Proofs.YtblcgjadhemlbaaGreat
open Go.RowKit
set_option linter.unusedVariables false
set_option linter.unusedSimpArgs false
set_option maxRecDepth 10000
set_option maxHeartbeats 2000000
variable {N:Nat}{S:Nat→Prop}{L:List HP}{h:Av}
theorem M5 (hs:St S L h) {g:Value}{b:AW}(n:Rd S h B3 g b) {i:Value}{j:Ak}(o:Rd S h CJ i j) {d:Value}{a:Ct}(k:Rd S h Fg d a) {r:Bool}(E:II N b j a=some r):
 CG Tryz.prog 28 #[g,i,d] S h (λv S' h'=>v= .bool r∧St S' (L) h'):=by
 refine BB (l:=[g,i,d]) 57 Tryz.func28 O Tryz.ntmps28 O λB=>?_
 rw[II] at E
 refine WF.sl (B5 O n (λe=>by cases e) O hs λq1 S2 h3 x w k6=>B5 O (o.mono w) (λe=>by cases e) O x λq8 S9 ae u p y=>B5 O (k.mono (w.trans p)) (λe=>by cases e) O u λaf ag ah c s m=>AH 1 (AY O (AF (AZ (kp [5,4,3] O) (AD (AI ?_))))))
 have t:=k6.mono (p.trans s)
 refine Ai O t BU DI O λai z=>An A6 c.1 O z GO O λaj A=>Al O A qZ O λak=>Bh O (AA O (AV 5 16 (.bool ((decide (6<(↑b.Places.length:Int)))||(decide (6<(↑b.Links.length:Int))))) ?_ ?_))
 ·cases al:(decide (6<(↑b.Places.length:Int)))
  ·exact AB O (Ai O t Eo HA O λam C=>AB O (An A6 c.1 O C Ju O λan D=>AB O (Al O D H4 O λao=>AB O (Bh O (AJ O (AU O))))))
  exact Aa O O
 refine AA O (AV 5 22 (.bool (((decide (6<(↑b.Places.length:Int)))||(decide (6<(↑b.Links.length:Int))))||(decide (4<(↑b.Owners.length:Int))))) ?_ ?_)
 ·cases ap:((decide (6<(↑b.Places.length:Int)))||(decide (6<(↑b.Links.length:Int))))
  ·exact AB O (Ai O t Dl HS O λaq F=>AB O (An A6 c.1 O F KE O λar G=>AB O (Al O G Jv O λau=>AB O (Bh O (AJ O (AU O))))))
  exact Aa O O
 refine AA O (AV 5 28 (.bool ((((decide (6<(↑b.Places.length:Int)))||(decide (6<(↑b.Links.length:Int))))||(decide (4<(↑b.Owners.length:Int))))||(decide (12<(↑j.Queue.length:Int))))) ?_ ?_)
 ·cases av:(((decide (6<(↑b.Places.length:Int)))||(decide (6<(↑b.Links.length:Int))))||(decide (4<(↑b.Owners.length:Int))))
  ·exact AB O (Ai O (y.mono s) IZ Jl O λaw H=>AB O (An A6 c.1 O H LG O λax I=>AB O (Al O I JX O λay=>AB O (Bh O (AJ O (AU O))))))
  exact Aa O O
 refine AN (kp [28,5] O) (AX O E (λJ E=>?_) (λJ E=>?_))
 ·refine AI (AL O (kp [6] O) (Ac (λaa ww K M=>?_)))
  cases E
  exact Dm K M O O (w.trans (p.trans s)) ⟨O,c⟩
 refine AT (AI (Ai O m Ct.f_Rain Nu O λaz Q=>An A6 c.1 O Q BP O λa0 U=>Al O U BG O λa1=>Ft O (AA O (AV 5 38 (.bool ((decide ((↑a.Rain.length:Int)≤8))&&(decide ((↑a.Faults.length:Int)≤8)))) ?_ ?_))))
 ·cases a2:(decide ((↑a.Rain.length:Int)≤8))
  ·exact Aa O O
  exact AB O (Ai O m O3 Uk O λa3 V=>AB O (An A6 c.1 O V ZF O λa4 W=>AB O (Al O W WC O λa5=>AB O (Ft O (AJ O (AU O))))))
 refine AA O (AV 5 44 (.bool (((decide ((↑a.Rain.length:Int)≤8))&&(decide ((↑a.Faults.length:Int)≤8)))&&(decide ((↑a.Cmds.length:Int)≤8)))) ?_ ?_)
 ·cases a6:((decide ((↑a.Rain.length:Int)≤8))&&(decide ((↑a.Faults.length:Int)≤8)))
  ·exact Aa O O
  exact AB O (Ai O m QS Uj O λa7 X=>AB O (An A6 c.1 O X ZE O λa8 Y=>AB O (Al O Y WB O λa9=>AB O (Ft O (AJ O (AU O))))))
 refine AA O (AV 5 50 (.bool ((((decide ((↑a.Rain.length:Int)≤8))&&(decide ((↑a.Faults.length:Int)≤8)))&&(decide ((↑a.Cmds.length:Int)≤8)))&&(decide ((↑a.Takes.length:Int)≤8)))) ?_ ?_)
 ·cases ba:(((decide ((↑a.Rain.length:Int)≤8))&&(decide ((↑a.Faults.length:Int)≤8)))&&(decide ((↑a.Cmds.length:Int)≤8)))
  ·exact Aa O O
  exact AB O (Ai O m P9 Ui O λbb Z=>AB O (An A6 c.1 O Z ZD O λbc ab=>AB O (Al O ab WA O λbe=>AB O (Ft O (AJ O (AU O))))))
 refine AA O (AV 5 56 (.bool (((((decide ((↑a.Rain.length:Int)≤8))&&(decide ((↑a.Faults.length:Int)≤8)))&&(decide ((↑a.Cmds.length:Int)≤8)))&&(decide ((↑a.Takes.length:Int)≤8)))&&(decide ((↑a.Swaps.length:Int)≤8)))) ?_ ?_)
 ·cases bf:((((decide ((↑a.Rain.length:Int)≤8))&&(decide ((↑a.Faults.length:Int)≤8)))&&(decide ((↑a.Cmds.length:Int)≤8)))&&(decide ((↑a.Takes.length:Int)≤8)))
  ·exact Aa O O
  exact AB O (Ai O m Me Rj O λbg ac=>AB O (An A6 c.1 O ac Vs O λbh ad=>AB O (Al O ad UF O λbi=>AB O (Ft O (AJ O (AU O))))))
 refine AL O (kp [6] O) (Ac (λaa ww K M=>?_))
 cases E
 exact Dm K M O O (w.trans (p.trans s)) ⟨O,c⟩
theorem MT (hs:St S L h) {g:Value}{p:AW}(m:Rd S h B3 g p) {i:Value}{s:Ak}(n:Rd S h CJ i s) {d:Value}{j:Ct}(k:Rd S h Fg d j) {r:Bool}(E:Hw N p s j=some r):
 CG Tryz.prog 10 #[g,i,d] S h (λv S' h'=>v= .bool r∧St S' (L) h'):=by
 refine BB (l:=[g,i,d]) 20 Tryz.func10 O Tryz.ntmps10 O λB=>?_
 rw[Hw] at E
 refine WF.sl (B5 O m (λe=>by cases e) O hs λq1 S2 h3 I J k6=>B5 O (n.mono J) (λe=>by cases e) O I λq8 S9 ad x t K=>B5 O (k.mono (J.trans t)) (λe=>by cases e) O x λae af ag a u M=>AH 1 (AY O (AF (AZ (kp [5,4,3] O) (AD (Bl (.inl O) a ?_))))))
 have w:=k6.mono (t.trans u)
 refine B4 Bb a.1 O w G8 (λe=>by cases e) O λah Q=>?_
 have y:=K.mono u
 refine B4 Bb a.1 O y Gj (λe=>by cases e) O λai U=>B4 Bb a.1 O M T8 (λe=>by cases e) O λaj V=>?_
 obtain⟨W,z,E⟩:=bd E
 refine Az O O O gW O (λh' o=>M5 (St.all h') (Q.mono (o.all a.1)) (U.mono (o.all a.1)) (V.mono (o.all a.1)) z) (AA O ?_)
 obtain⟨A,b,E⟩:=bd E
 refine AV 3 14 (.bool A) ?_ ?_
 ·cases C:W
  ·have b:=GB C b
   cases b
   exact Aa O O
  have b:=GA C b
  refine AB O (B4 Bb a.1 O w G8 (λe=>by cases e) O λak X=>AB O ?_)
  obtain⟨al,D,b⟩:=bd b
  refine Az O O O Zh O (λh' o=>Lw (St.all h') (X.mono (o.all a.1)) D) (AJ O ?_)
  cases b
  exact AU O
 refine AA O ?_
 obtain⟨Y,c,E⟩:=bd E
 refine AV 4 19 (.bool Y) ?_ ?_
 ·cases F:A
  ·have c:=GB F c
   cases c
   exact Aa O O
  have c:=GA F c
  refine AB O (B4 Bb a.1 O w G8 (λe=>by cases e) O λam Z=>AB O (B4 Bb a.1 O y Gj (λe=>by cases e) O λan ab=>AB O ?_))
  obtain⟨ao,G,c⟩:=bd c
  refine Az O O O XW O (λh' o=>Ka (St.all h') (Z.mono (o.all a.1)) (ab.mono (o.all a.1)) G) (AJ O ?_)
  cases c
  exact AU O
 refine AY O (BJ (kp [6] O) λap H ac=>Ac (λaa ww hf hw=>?_))
 cases E
 exact Dm hf hw O O (J.trans (t.trans (u.trans ac))) ⟨O,H⟩
theorem Do (hs:St S L h) {b:Value}{i:(List Int)}(c:Sl S h AM.int b i) {r:Int}(E:Be N i=some r):
 CG Tryz.prog 13 #[b] S h (λv S' h'=>v=vI r∧AG r∧St S' (L) h'):=by
 refine BB (l:=[b]) 18 Tryz.func13 O Tryz.ntmps13 O λB=>?_
 rw[Be] at E
 refine AI (AL O (kp [0] O) (AI (AL O (kp [3,0] O) (AD (AI (AL O (kp [4,3,0] O) (Am (λa w=>∃(u:Int),IV B S h (18,[]) a w [(3,vI u)] (L) λ_ _=>AG u∧FH N u=some r) ?_ ?_)))))))
 ·refine A3 (λC=>λa w=>∃(p:Int) (q:Int),IV B S h (18,[]) a w [(0,b),(3,vI p),(4,vI q)] (L) λ_ _=>AG p∧AG q∧DW N i (FH N) C p q=some r) N ?_ ?_ ?_
  ·intro m o d g
   exact⟨0,0,_,_,d.sub (kp [0,3,4] O),g,hs,(B9.refl S h),(iq (n:=0) O),(iq (n:=0) O),E⟩
  ·rintro m o ⟨_,_,_,_,_,_,_,_,_,_,E⟩
   rw[DW] at E;cases E
  rintro C m o ⟨p,q,D,F,d,g,j,k,G,H,E⟩
  refine Ad ?_ d g
  clear d g o m
  rw[DW] at E
  refine AD (AI (AA O (AA O (Al O (c.mono' k) BG O λI=>Aq O (AN (kp [8,0,3,4] O) (AX O E (λx E=>?_) (λx E=>?_)))))))
  ·refine AT (AD (A5 (BY (.inl O) (AA O (AA O (AA O ?_))))))
   obtain⟨y,s,E⟩:=bd E
   refine BD O O (c.mono' k) BG s O λJ z=>Ah A6 j.1 O z Ag O λK=>Af O (AL O (kp [3,0,4] O) (BK (BY (.inl O) (AA O (Af O (AL O (kp [4,3,0] O) (WF.nil (λm o d g=>?_))))))))
   exact⟨(BC (p+y)),(BC (q+1)),_,_,d.sub (kp [0,3,4] O),g,j,k,(BI _),(BI _),E⟩
  refine A9 O (λm o d g=>?_)
  exact⟨p,_,_,d.sub (kp [3] O),g,j,k,G,E⟩
 rintro m o ⟨u,M,Q,d,g,t,A,U,E⟩
 refine Ad ?_ d g
 clear d g o m
 rw[FH] at E
 refine AI (AA O (AL O (kp [2] O) (Ac (λm o d g=>?_))))
 cases E
 exact Dm d g O O A ⟨O,U,t⟩
end Go.Proofs.YtblcgjadhemlbaaGreat
namespace Go.Proofs.YtblcgjadhemlbaaGreat
open Go.RowKit
set_option linter.unusedVariables false
set_option linter.unusedSimpArgs false
set_option maxRecDepth 10000
set_option maxHeartbeats 2000000
variable {N:Nat}{S:Nat→Prop}{L:List HP}{h:Av}
end Go.Proofs.YtblcgjadhemlbaaGreat
namespace Go.Proofs.YtblcgjadhemlbaaGreat
open Go.RowKit
set_option linter.unusedVariables false
set_option linter.unusedSimpArgs false
set_option maxRecDepth 10000
set_option maxHeartbeats 2000000
variable {N:Nat}{S:Nat→Prop}{L:List HP}{h:Av}
end Go.Proofs.YtblcgjadhemlbaaGreat
namespace Go.Proofs.YtblcgjadhemlbaaGreat
open Go.RowKit
set_option linter.unusedVariables false
set_option linter.unusedSimpArgs false
set_option maxRecDepth 10000
set_option maxHeartbeats 2000000
variable {N:Nat}{S:Nat→Prop}{L:List HP}{h:Av}
theorem J5 (hs:St S L h) {az:Value}{J:AW}(bp:Rd S h B3 az J) {a0:Value}{W:Ak}(bq:Rd S h CJ a0 W) {ai:Value}{u:Ct}(be:Rd S h Fg ai u) {r:Bool}(E:D0 N J W u=some r):
 CG Tryz.prog 3 #[az,a0,ai] S h (λv S' h'=>v= .bool r∧St S' (L) h'):=by
 refine BB (l:=[az,a0,ai]) 212 Tryz.func3 O Tryz.ntmps3 O λB=>?_
 rw[D0] at E
 refine WF.sl (B5 O bp (λe=>by cases e) O hs λq1 S2 h3 fg e5 k6=>B5 O (bq.mono e5) (λe=>by cases e) O fg λq8 S9 iw de a6 fh=>B5 O (be.mono (e5.trans a6)) (λe=>by cases e) O de λbc iy iz df a7 fi=>AH 1 (AY O (AF (AZ (kp [5,4,3] O) (AD (Bl (.inl O) df ?_))))))
 obtain⟨K,dg,E⟩:=bd E
 refine Az O O O jX O (λh' o=>L5 (St.all h') dg) (AY O (BJ (kp [7,5,4,3] O) λi0 aj a1=>AD (AD (Bl (.inl O) aj ?_))))
 have dh:=k6.mono (a6.trans (a7.trans a1))
 refine B4 Bb aj.1 O dh G8 (λe=>by cases e) O λi1 fj=>?_
 have di:=fh.mono (a7.trans a1)
 refine B4 Bb aj.1 O di Gj (λe=>by cases e) O λi2 fk=>?_
 have dj:=fi.mono a1
 refine B4 Bb aj.1 O dj T8 (λe=>by cases e) O λi3 fl=>?_
 obtain⟨i4,dk,E⟩:=bd E
 refine Az O O O iB O (λh' o=>MT (St.all h') (fj.mono (o.all aj.1)) (fk.mono (o.all aj.1)) (fl.mono (o.all aj.1)) dk) (BV O (BJ (kp [25,7,5,4,3] O) λi5 a2 a3=>AX O E (λfm E=>?_) (λfm E=>?_)))
 ·refine AI (AA O (AL O (kp [6] O) (Ac (λX Y s t=>?_))))
  cases E
  exact Dm s t O O (e5.trans (a6.trans (a7.trans (a1.trans a3)))) ⟨O,a2⟩
 refine AT (WF.sl (AH 3 ?_))
 have dl:=dh.mono a3
 refine B4 A6 a2.1 O dl G8 (λe=>by cases e) O λi6 fn=>?_
 have dm:=di.mono a3
 refine B4 A6 a2.1 O dm Gj (λe=>by cases e) O λi7 fo=>?_
 have b7:=dj.mono a3
 refine B4 A6 a2.1 O b7 T8 (λe=>by cases e) O λi8 fp=>AF ?_
 obtain⟨m,dn,E⟩:=bd E
 refine Cn O O O XY O (K6 a2 fn fo fp dn) λi9 b8 ja a8 p=>?_
 obtain⟨jb,br,jc,rfl,fq,dp⟩:=p
 refine AH 4 (AA O (Bi O (Bi O (Bi O (AF (Cs OT O dp λad jd dq a4=>?_))))))
 obtain⟨ao,ap,aq,ar,au,av,rfl,fr,dr,ds,dt,du,bf,bg⟩:=CJ.ex (fq.mono a4)
 refine HJ (vs:=[vI m.1.Hour,ao,ap,aq,ar,au,av]) (cs':=[vI m.1.Hour,ao,ap,aq,ar,au,av]) O O O (AE O (AE dr.one (AE ds.one (AE dt.one (AE du.one (AE bf.one (AE bg.one EA))))))) Gj O dq .head O O λje a9 D=>AH 2 (AY O (AY O (AF (AZ (kp [9,8,7,5,4,3] O) (WF.sl (AH 1 ?_))))))
 have bs:=a8.trans (a4.trans D)
 have b9:=dm.mono bs
 refine B4 A6 a9.1 O b9 Gj (λe=>by cases e) O λjf fs=>AF ?_
 obtain⟨F,dv,E⟩:=bd E
 refine BZ O O O XX O a9 (KZ (St.all _) (fs.mono ⟨λb hb=>a9.1 b hb,λ_ _=>rfl,Nat.le_refl _⟩) dv) λae jg jh fv A ft p=>?_
 have dw:=p
 have Z:=a9.join ft dw ⟨OS.flat (λ{_ _ _ _ _ _} k=>k),trivial⟩
 simp only[List.cons_append,List.nil_append] at Z
 refine AH 1 (AY O (AF (AZ (kp [11,9,8,7,5,4,3] O) (WF.sl (AH 1 (DT (vs:=[vI m.1.Hour,ao,ap,aq,ar,au,av]) A6 Z O (mt mh) O O Gj O O (AF ?_)))))))
 obtain⟨g,ca,E⟩:=bd E
 refine BZ O O O XX O Z (KZ (St.all _) (CJ.mk (x:=m.1) fr ((dr.mono' (D.trans A)).mono (λb hb=>Z.1 b hb) (λ_ _=>rfl)) ((ds.mono' (D.trans A)).mono (λb hb=>Z.1 b hb) (λ_ _=>rfl)) ((dt.mono' (D.trans A)).mono (λb hb=>Z.1 b hb) (λ_ _=>rfl)) ((du.mono' (D.trans A)).mono (λb hb=>Z.1 b hb) (λ_ _=>rfl)) ((bf.mono' (D.trans A)).mono (λb hb=>Z.1 b hb) (λ_ _=>rfl)) ((bg.mono' (D.trans A)).mono (λb hb=>Z.1 b hb) (λ_ _=>rfl))) ca) λz fw bh fu y dx p=>?_
 have cb:=p
 have G:=Z.join dx cb ⟨OS.flat (λ{_ _ _ _ _ _} k=>k),trivial⟩
 simp only[List.cons_append,List.nil_append] at G
 refine AH 1 (AY O (AF (AZ (kp [12,11,9,8,7,5,4,3] O) (AD (AI (AA O (JO G mh O BG O λfx=>?_)))))))
 have bt:=dl.mono (bs.trans (A.trans y))
 refine Ai O bt Dl HS O λfy dy=>An A6 G.1 O dy KE O λfz dz=>Al O dz Jv O λf0=>Bc O (AA O (AV 7 52 (.bool ((decide ((↑g.length:Int)≠(↑J.Owners.length:Int)))||(decide ((↑m.1.In.length:Int)≠(↑F.length:Int))))) ?_ ?_))
 ·cases f1:(decide ((↑g.length:Int)≠(↑J.Owners.length:Int)))
  ·exact AB O (AC Ic O (AB O (AS A6 G O (mt (mt mh)) O BP O (AB O (Al O (bf.mono' (D.trans (A.trans y))) BG O λf2=>AB O (AA O (AB O (JO G (mt mh) O BG O λf3=>AB O (Bc O (AJ O (AU O)))))))))))
  exact Aa O O
 refine AA O (AV 7 60 (.bool (((decide ((↑g.length:Int)≠(↑J.Owners.length:Int)))||(decide ((↑m.1.In.length:Int)≠(↑F.length:Int))))||(decide ((↑m.1.Out.length:Int)≠(↑F.length:Int))))) ?_ ?_)
 ·cases f4:((decide ((↑g.length:Int)≠(↑J.Owners.length:Int)))||(decide ((↑m.1.In.length:Int)≠(↑F.length:Int))))
  ·exact AB O (AC HR O (AB O (AS A6 G O (mt (mt mh)) O BP O (AB O (Al O (bg.mono' (D.trans (A.trans y))) BG O λf5=>AB O (AA O (AB O (JO G (mt mh) O BG O λf6=>AB O (Bc O (AJ O (AU O)))))))))))
  exact Aa O O
 refine AN (kp [60,12,11,9,8,7,5,4,3] O) (AX O E (λd0 E=>?_) (λd0 E=>?_))
 ·refine AI (AL O (kp [6] O) (Ac (λX Y s t=>?_)))
  have cc:=G.sel [] 5 O
  cases E
  exact Dm s t O O (e5.trans (a6.trans (a7.trans (a1.trans (a3.trans (a8.trans (a4.trans (D.trans (A.trans y))))))))) ⟨O,cc⟩
 refine AT (AI (AL O (kp [13,12,11,9,8,7,5,4,3] O) (AD (AI (AL O (kp [14,13,12,11,9,8,7,5,4,3] O) (Am (λa w=>∃(j:Int),IV B b8 bh (212,[]) a w [(12,z),(11,ae),(8,vP ad 0),(7,.bool K),(5,bc),(4,q8),(3,q1),(13,vI j)] (OS AM.int 3 z g::OS AM.int 3 ae F::Bx ad 36 [vI m.1.Hour,ao,ap,aq,ar,au,av]::L) λ_ _=>AG j∧CL N J W u K m F g j=some r) ?_ ?_))))))
 ·refine A3 (λn1=>λa w=>∃(ak:Int) (am:Int),IV B b8 bh (212,[]) a w [(12,z),(11,ae),(9,br),(8,vP ad 0),(7,.bool K),(5,bc),(4,q8),(3,q1),(13,vI ak),(14,vI am)] (OS AM.int 3 z g::OS AM.int 3 ae F::Bx ad 36 [vI m.1.Hour,ao,ap,aq,ar,au,av]::OS BT 50 br m.2.1::L) λ_ _=>AG ak∧AG am∧BL N m (CL N J W u K m F g) n1 ak am=some r) N ?_ ?_ ?_
  ·intro X Y s t
   have cd:=G.drop (.tail (.tail (.tail (.tail .head))))
   exact⟨0,0,_,_,s.sub (kp [12,11,9,8,7,5,4,3,13,14] O),t,cd,(B9.refl b8 bh),(iq (n:=0) O),(iq (n:=0) O),E⟩
  ·rintro X Y ⟨_,_,_,_,_,_,_,_,_,_,E⟩
   rw[BL] at E;cases E
  rintro n1 X Y ⟨ak,am,bu,bv,s,t,H,bw,bx,f7,E⟩
  refine Ad ?_ s t
  clear s t Y X
  rw[BL] at E
  refine AD (AI (AA O (AA O (JO H (mt (mt (mt mh))) O HO O λf8=>Aq O (AN (kp [64,12,11,9,8,7,5,4,3,13,14] O) (AX O E (λd1 E=>?_) (λd1 E=>?_)))))))
  ·refine AT (AD (Am (λa w=>∃(a5:Int),IV B bu bv (212,[]) a w [(12,z),(11,ae),(9,br),(8,vP ad 0),(7,.bool K),(5,bc),(4,q8),(3,q1),(14,vI am),(13,vI a5)] (OS AM.int 3 z g::OS AM.int 3 ae F::Bx ad 36 [vI m.1.Hour,ao,ap,aq,ar,au,av]::OS BT 50 br m.2.1::L) λ_ _=>AG a5∧DP N am (BL N m (CL N J W u K m F g) n1) a5=some r) ?_ ?_))
   ·refine AI (AA O (AA O ?_))
    obtain⟨f9,ce,E⟩:=bd E
    refine A4 H (mt (mt (mt mh))) O O HO ce O λga cf=>GN O cf Ib O λgb cg=>?_
    obtain⟨gc,ch,E⟩:=bd E
    have d2:=H.epAt (mt (mt (mt mh))) ch FK cg
    refine Ah A6 (λ_ x=>x) O d2 Ag O λgd=>BH O (AN (kp [72,12,11,9,8,7,5,4,3,13,14] O) (AX O E (λd3 E=>?_) (λd3 E=>?_)))
    ·refine Bl (.inl O) H (AA O (AA O (AA O ?_)))
     obtain⟨ge,ci,E⟩:=bd E
     refine A4 H (mt (mt (mt mh))) O O HO ci O λgf cj=>GN O cj Iz O λgg ck=>?_
     obtain⟨gh,cl,E⟩:=bd E
     have d4:=H.epAt (mt (mt (mt mh))) cl Ae.f_Part ck
     refine An Bb (λ_ x=>x) O d4 BP O λgi d5=>?_
     obtain⟨d6,cm,E⟩:=bd E
     refine CE O O O Of O (λh' o=>Do (St.all h') (d5.mono' (o.all H.1)) cm) λd7=>?_
     have gj:=d7
     refine Af O (AY O (BJ (kp [13,12,11,9,8,7,5,4,3,14] O) λgl cn d8=>WF.nil (λX Y s t=>?_)))
     exact⟨(BC (ak+d6)),_,_,s.sub (kp [12,11,9,8,7,5,4,3,14,13] O),t,cn,d8,(BI _),E⟩
    refine AT (WF.nil (λX Y s t=>?_))
    exact⟨ak,_,_,s.sub (kp [12,11,9,8,7,5,4,3,14,13] O),t,H,(B9.refl bu bv),bx,E⟩
   rintro X Y ⟨a5,gm,gn,s,t,co,d9,ea,E⟩
   refine Ad ?_ s t
   clear s t Y X
   rw[DP] at E
   refine BY (.inl O) (AA O (Af O (AL O (kp [14,12,11,9,8,7,5,4,3,13] O) (WF.nil (λX Y s t=>?_)))))
   exact⟨a5,(BC (am+1)),_,_,s.sub (kp [12,11,9,8,7,5,4,3,13,14] O),t,co,(bw.trans d9),ea,(BI _),E⟩
  refine A9 O (λX Y s t=>?_)
  have cp:=H.drop (.tail (.tail (.tail .head)))
  exact⟨ak,_,_,s.sub (kp [12,11,8,7,5,4,3,13] O),t,cp,bw,bx,E⟩
 rintro X Y ⟨j,bi,bj,s,t,cq,I,gp,E⟩
 refine Ad ?_ s t
 clear s t Y X
 rw[CL] at E
 refine AI (AL O (kp [15,12,11,8,7,5,4,3,13] O) (AD (AI (AL O (kp [16,15,12,11,8,7,5,4,3,13] O) (Am (λa w=>∃(M:Int),IV B bi bj (212,[]) a w [(12,z),(11,ae),(8,vP ad 0),(7,.bool K),(5,bc),(4,q8),(13,vI j),(15,vI M)] (OS AM.int 3 z g::OS AM.int 3 ae F::Bx ad 36 [vI m.1.Hour,ao,ap,aq,ar,au,av]::L) λ_ _=>AG M∧DO N W u K m F g j M=some r) ?_ ?_)))))
 ·refine A3 (λn4=>λa w=>∃(aw:Int) (ag:Int),IV B bi bj (212,[]) a w [(12,z),(11,ae),(8,vP ad 0),(7,.bool K),(5,bc),(4,q8),(3,q1),(13,vI j),(15,vI aw),(16,vI ag)] (OS AM.int 3 z g::OS AM.int 3 ae F::Bx ad 36 [vI m.1.Hour,ao,ap,aq,ar,au,av]::L) λ_ _=>AG aw∧AG ag∧Bn N J u (DO N W u K m F g j) n4 aw ag=some r) N ?_ ?_ ?_
  ·intro X Y s t
   exact⟨0,0,_,_,s.sub (kp [12,11,8,7,5,4,3,13,15,16] O),t,cq,(B9.refl bi bj),(iq (n:=0) O),(iq (n:=0) O),E⟩
  ·rintro X Y ⟨_,_,_,_,_,_,_,_,_,_,E⟩
   rw[Bn] at E;cases E
  rintro n4 X Y ⟨aw,ag,gq,gr,s,t,af,ba,eb,gs,E⟩
  refine Ad ?_ s t
  clear s t Y X
  rw[Bn] at E
  refine AD (AI (AA O ?_))
  have bz:=b7.mono (a8.trans (a4.trans (D.trans (A.trans (y.trans (I.trans ba))))))
  refine Ai O bz Ct.f_Rain Nu O λgt ec=>An A6 af.1 O ec BP O λgu ed=>Al O ed BG O λgv=>Aq O (AA O (AV 6 92 (.bool ((decide (ag<(↑u.Rain.length:Int)))&&(decide (ag<(↑J.Places.length:Int))))) ?_ ?_))
  ·cases gw:(decide (ag<(↑u.Rain.length:Int)))
   ·exact Aa O O
   exact AB O (AA O (AB O (Ai O (bt.mono (I.trans ba)) BU DI O λgx ee=>AB O (An A6 af.1 O ee GO O λgy ef=>AB O (Al O ef qZ O λgz=>AB O (Aq O (AJ O (AU O))))))))
  refine AN (kp [92,12,11,8,7,5,4,3,13,15,16] O) (AX O E (λeg E=>?_) (λeg E=>?_))
  ·refine AT (AD (A5 (BY (.inl O) (AA O (Ai O bz Ct.f_Rain Nu O λg0 eh=>An A6 af.1 O eh BP O λg1 ei=>AA O ?_)))))
   obtain⟨ej,cr,E⟩:=bd E
   refine BD O O ei BG cr O λg2 ek=>Ah A6 af.1 O ek Ag O λg3=>OM O O O (P2 O O O (Af O (AL O (kp [15,12,11,8,7,5,4,3,13,16] O) (BK (BY (.inl O) (AA O (Af O (AL O (kp [16,15,12,11,8,7,5,4,3,13] O) (WF.nil (λX Y s t=>?_))))))))))
   exact⟨(BC (aw+(min (max ej 0) 1125899906842624))),(BC (ag+1)),_,_,s.sub (kp [12,11,8,7,5,4,3,13,15,16] O),t,af,ba,(BI _),(BI _),E⟩
  refine A9 O (λX Y s t=>?_)
  exact⟨aw,_,_,s.sub (kp [12,11,8,7,5,4,13,15] O),t,af,ba,eb,E⟩
 rintro X Y ⟨M,bk,bl,s,t,cs,ab,g4,E⟩
 refine Ad ?_ s t
 clear s t Y X
 rw[DO] at E
 refine AD (AI (AL O (kp [17,12,11,8,7,5,4,13,15] O) (Am (λa w=>IV B bk bl (212,[]) a w [(12,z),(11,ae),(8,vP ad 0),(7,.bool K),(4,q8),(13,vI j),(15,vI M)] (OS AM.int 3 z g::OS AM.int 3 ae F::Bx ad 36 [vI m.1.Hour,ao,ap,aq,ar,au,av]::L) λ_ _=>Ce N W K m F g j M=some r) ?_ ?_)))
 ·refine A3 (λn6=>λa w=>∃(Q:Int),IV B bk bl (212,[]) a w [(12,z),(11,ae),(8,vP ad 0),(7,.bool K),(5,bc),(4,q8),(13,vI j),(15,vI M),(17,vI Q)] (OS AM.int 3 z g::OS AM.int 3 ae F::Bx ad 36 [vI m.1.Hour,ao,ap,aq,ar,au,av]::L) λ_ _=>AG Q∧Bm N W u m F g j (Ce N W K m F g j M) n6 Q=some r) N ?_ ?_ ?_
  ·intro X Y s t
   exact⟨0,_,_,s.sub (kp [12,11,8,7,5,4,13,15,17] O),t,cs,(B9.refl bk bl),(iq (n:=0) O),E⟩
  ·rintro X Y ⟨_,_,_,_,_,_,_,_,E⟩
   rw[Bm] at E;cases E
  rintro n6 X Y ⟨Q,g5,g6,s,t,c,ah,g7,E⟩
  refine Ad ?_ s t
  clear s t Y X
  rw[Bm] at E
  refine AD (AI (AA O (AA O (JO c (mt mh) O BG O λg8=>Aq O (AN (kp [107,12,11,8,7,5,4,13,15,17] O) (AX O E (λel E=>?_) (λel E=>?_)))))))
  ·refine AT (AD (A5 (AD (BY (.inr ⟨mo,by kernel_rfl⟩) (AC Ic O (AS A6 c O (mt (mt mh)) O BP O (AA O ?_)))))))
   obtain⟨ax,ct,E⟩:=bd E
   refine BD O O (bf.mono' (D.trans (A.trans (y.trans (I.trans (ab.trans ah)))))) BG ct O λg9 em=>Ah A6 c.1 O em Ag O λha=>?_
   have b0:=b9.mono (A.trans (y.trans (I.trans (ab.trans ah))))
   refine Ai O b0 JB Ic O λhc en=>An A6 c.1 O en BP O λhd eo=>AA O ?_
   obtain⟨ay,cu,E⟩:=bd E
   refine BD O O eo BG cu O λhe ep=>Ah A6 c.1 O ep Ag O λhg=>Cg O (AL O (kp [18,12,11,8,7,5,4,13,15,17] O) (AD (AI (AA O (Bc O (AA O (AV 3 126 (.bool ((decide ((BC (ax-ay))≠0))&&(decide (Q≠0)))) ?_ ?_)))))))
   ·cases hh:(decide ((BC (ax-ay))≠0))
    ·exact Aa O O
    exact AB O (AA O (AB O (Bc O (AJ O (AU O)))))
   refine AA O (AV 8 135 (.bool (((decide ((BC (ax-ay))≠0))&&(decide (Q≠0)))||((decide (Q=0))&&(decide ((BC (ax-ay))≠j))))) ?_ ?_)
   ·cases hi:((decide ((BC (ax-ay))≠0))&&(decide (Q≠0)))
    ·refine AB O (AA O (AB O (BH O (AB O (AA O (AV 4 134 (.bool ((decide (Q=0))&&(decide ((BC (ax-ay))≠j)))) ?_ ?_))))))
     ·cases hj:(decide (Q=0))
      ·exact Aa O O
      exact AB O (AA O (AB O (AA O (AB O (Bc O (AB O (AJ O (AU O))))))))
     exact AJ O (AU O)
    exact Aa O O
   refine AN (kp [135,18,12,11,8,7,5,4,13,15,17] O) (AX O E (λeq E=>?_) (λeq E=>?_))
   ·refine AI (AL O (kp [6] O) (Ac (λX Y s t=>?_)))
    have cv:=c.sel [] 3 O
    cases E
    exact Dm s t O O (e5.trans (a6.trans (a7.trans (a1.trans (a3.trans (a8.trans (a4.trans (D.trans (A.trans (y.trans (I.trans (ab.trans ah)))))))))))) ⟨O,cv⟩
   refine AT (AD (BY (.inr ⟨mo,by kernel_rfl⟩) (Ai O (b7.mono (a8.trans (a4.trans (D.trans (A.trans (y.trans (I.trans (ab.trans ah)))))))) Me Rj O λhk er=>An A6 c.1 O er Vs O λhl es=>Al O es UF O λhm=>BH O (AA O ?_))))
   obtain⟨et,d,E⟩:=bd E
   refine AV 24 164 (.bool et) ?_ ?_
   ·cases b1:(decide ((↑u.Swaps.length:Int)=0))
    ·have d:=GB b1 d
     cases d
     exact Aa O O
    have d:=GA b1 d
    refine AB O (AA O (AB O (AA O (AB O ?_))))
    obtain⟨hn,cw,d⟩:=bd d
    refine A4 c mh O O BG cw O λho cx=>AB O ?_
    obtain⟨hp,cy,d⟩:=bd d
    have eu:=c.epAt mh cy FM.id cx
    refine Ah A6 (λ_ x=>x) O eu Ag O λhq=>AB O (AC HR O (AB O (AS A6 c O (mt (mt mh)) O BP O (AB O (AA O (AB O ?_))))))
    obtain⟨hr,cz,d⟩:=bd d
    refine BD O O (bg.mono' (D.trans (A.trans (y.trans (I.trans (ab.trans ah)))))) BG cz O λht ev=>AB O (Ah A6 c.1 O ev Ag O λhu=>AB O (Af O (AB O (AA O (AB O (AA O (AB O ?_)))))))
    obtain⟨hv,c0,d⟩:=bd d
    refine A4 c (mt mh) O O BG c0 O λhx c1=>AB O ?_
    obtain⟨hy,c2,d⟩:=bd d
    have ew:=c.epAt (mt mh) c2 FM.id c1
    refine Ah A6 (λ_ x=>x) O ew Ag O λhz=>AB O (Ai O b0 Ii HR O λh0 ey=>AB O (An A6 c.1 O ey BP O λh1 ez=>AB O (AA O (AB O ?_))))
    obtain⟨h2,c3,d⟩:=bd d
    refine BD O O ez BG c3 O λh4 e0=>AB O (Ah A6 c.1 O e0 Ag O λh5=>AB O (Af O (AB O (AA O (AB O (Af O (AB O (Bc O (AJ O ?_)))))))))
    cases d
    exact AU O
   refine AN (kp [164,12,11,8,7,5,4,13,15,17] O) (AX O E (λe1 E=>?_) (λe1 E=>?_))
   ·refine AI (AL O (kp [6] O) (Ac (λX Y s t=>?_)))
    have c4:=c.sel [] 3 O
    cases E
    exact Dm s t O O (e5.trans (a6.trans (a7.trans (a1.trans (a3.trans (a8.trans (a4.trans (D.trans (A.trans (y.trans (I.trans (ab.trans ah)))))))))))) ⟨O,c4⟩
   refine AT (BK (BY (.inl O) (AA O (Af O (AL O (kp [17,12,11,8,7,5,4,13,15] O) (WF.nil (λX Y s t=>?_)))))))
   exact⟨(BC (Q+1)),_,_,s.sub (kp [12,11,8,7,5,4,13,15,17] O),t,c,ah,(BI _),E⟩
  refine A9 O (λX Y s t=>?_)
  exact⟨_,_,s.sub (kp [12,11,8,7,4,13,15] O),t,c,ah,E⟩
 rintro X Y ⟨h6,h7,s,t,an,bb,E⟩
 refine Ad ?_ s t
 clear s t Y X
 rw[Ce] at E
 refine AD (Bl (.inl O) an (AA O ?_))
 obtain⟨bm,c5,E⟩:=bd E
 refine CE O O O Of O (λh' o=>Do (St.all h') ((an.oslAll mh).mono (λb hb=>Nat.lt_of_lt_of_le hb o.siz) (λb hb=>o.same b hb)) c5) λe2=>?_
 have h8:=e2
 refine Ft O (AA O (AV 4 172 (.bool ((decide (bm≤1125899906842624))&&(decide (j≤M)))) ?_ ?_))
 ·cases h9:(decide (bm≤1125899906842624))
  ·exact Aa O O
  exact AB O (AA O (AB O (AA O (AB O (Ft O (AJ O (AU O)))))))
 refine AA O ?_
 obtain⟨bn,C,E⟩:=bd E
 refine AV 17 190 (.bool bn) ?_ ?_
 ·cases b2:((decide (bm≤1125899906842624))&&(decide (j≤M)))
  ·have C:=GB b2 C
   cases C
   exact Aa O O
  have C:=GA b2 C
  refine AB O (AA O (AB O (AA O (AB O (BH O (AB O (AA O ?_)))))))
  obtain⟨b3,U,C⟩:=bd C
  refine AV 6 183 (.bool b3) ?_ ?_
  ·cases b4:(decide (j=M))
   ·have U:=GB b4 U
    refine AB O (AA O (AB O ?_))
    obtain⟨ia,c6,U⟩:=bd U
    refine CE O O O Of O (λh' o=>Do (St.all h') ((an.oslAll (mt mh)).mono (λb hb=>Nat.lt_of_lt_of_le hb o.siz) (λb hb=>o.same b hb)) c6) λe3=>?_
    have ib:=e3
    refine AB O (AA O (AB O (Af O (AB O (BH O (AB O (AJ O ?_)))))))
    cases U
    exact AU O
   have U:=GA b4 U
   cases U
   exact Aa O O
  refine AB O (AA O ?_)
  obtain⟨e4,V,C⟩:=bd C
  refine AV 5 189 (.bool e4) ?_ ?_
  ·cases b5:b3
   ·have V:=GB b5 V
    refine AB O (AC Ic O (AB O (AS Bb an O (mt (mt mh)) O BP O (AB O ?_))))
    obtain⟨ic,c7,V⟩:=bd V
    refine CE O O O Of O (λh' o=>Do (St.all h') ((bf.mono' (D.trans (A.trans (y.trans (I.trans (ab.trans bb)))))).mono' (o.all an.1)) c7) λe6=>?_
    have ie:=e6
    refine AB O (BH O (AB O (AJ O ?_)))
    cases V
    exact AU O
   have V:=GA b5 V
   cases V
   exact Aa O O
  refine AJ O ?_
  cases C
  exact AU O
 refine AY O (BJ (kp [19,12,11,8,7,4,13] O) λig ac bo=>AD (Bl (.inr ⟨mo,by kernel_rfl⟩) ac (AA O (AA O (AV 2 194 (.bool (K&&bn)) ?_ ?_)))))
 ·cases ih:K
  ·exact Aa O O
  exact AB O (AA O (AJ O (AU O)))
 refine AA O ?_
 obtain⟨e7,i,E⟩:=bd E
 refine AV 16 211 (.bool e7) ?_ ?_
 ·cases b6:(K&&bn)
  ·have i:=GB b6 i
   cases i
   exact Aa O O
  have i:=GA b6 i
  refine AB O (AA O (AB O ?_))
  obtain⟨ii,c8,i⟩:=bd i
  refine CE O O O Of O (λh' o=>Do (St.all h') ((ac.oslAll mh).mono (λb hb=>Nat.lt_of_lt_of_le hb o.siz) (λb hb=>o.same b hb)) c8) λe8=>?_
  have ij:=e8
  refine AB O (AC HR O (AB O (AS Bb ac O (mt (mt mh)) O BP O (AB O ?_))))
  obtain⟨ik,c9,i⟩:=bd i
  refine CE O O O Of O (λh' o=>Do (St.all h') ((bg.mono' (D.trans (A.trans (y.trans (I.trans (ab.trans (bb.trans bo))))))).mono' (o.all ac.1)) c9) λe9=>?_
  have il:=e9
  refine AB O (Af O (AB O (AA O (AB O ?_))))
  obtain⟨im,da,i⟩:=bd i
  refine CE O O O Of O (λh' o=>Do (St.all h') ((ac.oslAll (mt mh)).mono (λb hb=>Nat.lt_of_lt_of_le hb o.siz) (λb hb=>o.same b hb)) da) λfb=>?_
  have io:=fb
  refine AB O (Ai O (b9.mono (A.trans (y.trans (I.trans (ab.trans (bb.trans bo)))))) Ii HR O λip fc=>AB O (An Bb ac.1 O fc BP O λir fd=>AB O ?_))
  obtain⟨it,db,i⟩:=bd i
  refine CE O O O Of O (λh' o=>Do (St.all h') (fd.mono' (o.all ac.1)) db) λfe=>?_
  have iu:=fe
  refine AB O (Af O (AB O (AA O (AB O (Af O (AB O (BH O (AJ O ?_))))))))
  cases i
  exact AU O
 refine AY O (BJ (kp [6] O) λiv dc ff=>Ac (λX Y s t=>?_))
 have dd:=dc.sel [] 3 O
 cases E
 exact Dm s t O O (e5.trans (a6.trans (a7.trans (a1.trans (a3.trans (a8.trans (a4.trans (D.trans (A.trans (y.trans (I.trans (ab.trans (bb.trans (bo.trans ff)))))))))))))) ⟨O,dd⟩
end Go.Proofs.YtblcgjadhemlbaaGreat
