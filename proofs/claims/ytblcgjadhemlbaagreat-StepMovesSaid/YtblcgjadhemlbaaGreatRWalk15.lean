import Derived.Test.YtblcgjadhemlbaaGreatRWalk14
namespace Go.Proofs.YtblcgjadhemlbaaGreat
open Go.RowKit
set_option linter.unusedVariables false
set_option linter.unusedSimpArgs false
set_option maxRecDepth 10000
set_option maxHeartbeats 2000000
variable {N:Nat}{S:Nat→Prop}{L:List HP}{h:Aw}
theorem NG (hs:St S L h) {g:Value}{b:AX}(n:Rd S h B1 g b) {i:Value}{j:Aj}(o:Rd S h CO i j) {d:Value}{a:Ek}(k:Rd S h Fm d a) {r:Bool}(E:IR N b j a=some r):
 CL Tryz.prog 28 #[g,i,d] S h (λv S' h'=>v= .bool r∧St S' (L) h'):=by
 refine BG (l:=[g,i,d]) 57 Tryz.func28 O Tryz.ntmps28 O λB=>?_
 rw[IR] at E
 refine WF.sl (B4 O n (λe=>by cases e) O hs λq1 S2 h3 x w k6=>B4 O (o.mono w) (λe=>by cases e) O x λq8 S9 ae u p y=>B4 O (k.mono (w.trans p)) (λe=>by cases e) O u λaf ag ah c s m=>AG 1 (AY O (AF (AZ (kp [5,4,3] O) (AC (AI ?_))))))
 have t:=k6.mono (p.trans s)
 refine Ae O t BP C1 O λai z=>Ao A9 c.1 O z F7 O λaj A=>An O A FA O λak=>Bf O (AA O (AV 5 16 (.bool ((decide (6<(↑b.Places.length:Int)))||(decide (6<(↑b.Links.length:Int))))) ?_ ?_))
 ·cases al:(decide (6<(↑b.Places.length:Int)))
  ·exact AB O (Ae O t D1 Gc O λam C=>AB O (Ao A9 c.1 O C JR O λan D=>AB O (An O D Hf O λao=>AB O (Bf O (AJ O (AU O))))))
  exact Aa O O
 refine AA O (AV 5 22 (.bool (((decide (6<(↑b.Places.length:Int)))||(decide (6<(↑b.Links.length:Int))))||(decide (4<(↑b.Owners.length:Int))))) ?_ ?_)
 ·cases ap:((decide (6<(↑b.Places.length:Int)))||(decide (6<(↑b.Links.length:Int))))
  ·exact AB O (Ae O t EQ H1 O λaq F=>AB O (Ao A9 c.1 O F Kj O λar G=>AB O (An O G KN O λau=>AB O (Bf O (AJ O (AU O))))))
  exact Aa O O
 refine AA O (AV 5 28 (.bool ((((decide (6<(↑b.Places.length:Int)))||(decide (6<(↑b.Links.length:Int))))||(decide (4<(↑b.Owners.length:Int))))||(decide (12<(↑j.Queue.length:Int))))) ?_ ?_)
 ·cases av:(((decide (6<(↑b.Places.length:Int)))||(decide (6<(↑b.Links.length:Int))))||(decide (4<(↑b.Owners.length:Int))))
  ·exact AB O (Ae O (y.mono s) D0 G2 O λaw H=>AB O (Ao A9 c.1 O H I3 O λax I=>AB O (An O I H9 O λay=>AB O (Bf O (AJ O (AU O))))))
  exact Aa O O
 refine AN (kp [28,5] O) (AW O E (λJ E=>?_) (λJ E=>?_))
 ·refine AI (AK O (kp [6] O) (Ad (λaa ww K M=>?_)))
  cases E
  exact Dx K M O O (w.trans (p.trans s)) ⟨O,c⟩
 refine AQ (AI (Ae O m Ek.f_Rain Rj O λaz Q=>Ao A9 c.1 O Q BW O λa0 U=>An O U BQ O λa1=>GQ O (AA O (AV 5 38 (.bool ((decide ((↑a.Rain.length:Int)≤8))&&(decide ((↑a.Faults.length:Int)≤8)))) ?_ ?_))))
 ·cases a2:(decide ((↑a.Rain.length:Int)≤8))
  ·exact Aa O O
  exact AB O (Ae O m O8 UW O λa3 V=>AB O (Ao A9 c.1 O V Yr O λa4 W=>AB O (An O W Vp O λa5=>AB O (GQ O (AJ O (AU O))))))
 refine AA O (AV 5 44 (.bool (((decide ((↑a.Rain.length:Int)≤8))&&(decide ((↑a.Faults.length:Int)≤8)))&&(decide ((↑a.Cmds.length:Int)≤8)))) ?_ ?_)
 ·cases a6:((decide ((↑a.Rain.length:Int)≤8))&&(decide ((↑a.Faults.length:Int)≤8)))
  ·exact Aa O O
  exact AB O (Ae O m QV UV O λa7 X=>AB O (Ao A9 c.1 O X Yq O λa8 Y=>AB O (An O Y Vo O λa9=>AB O (GQ O (AJ O (AU O))))))
 refine AA O (AV 5 50 (.bool ((((decide ((↑a.Rain.length:Int)≤8))&&(decide ((↑a.Faults.length:Int)≤8)))&&(decide ((↑a.Cmds.length:Int)≤8)))&&(decide ((↑a.Takes.length:Int)≤8)))) ?_ ?_)
 ·cases ba:(((decide ((↑a.Rain.length:Int)≤8))&&(decide ((↑a.Faults.length:Int)≤8)))&&(decide ((↑a.Cmds.length:Int)≤8)))
  ·exact Aa O O
  exact AB O (Ae O m QD UU O λbb Z=>AB O (Ao A9 c.1 O Z Yp O λbc ab=>AB O (An O ab Vn O λbe=>AB O (GQ O (AJ O (AU O))))))
 refine AA O (AV 5 56 (.bool (((((decide ((↑a.Rain.length:Int)≤8))&&(decide ((↑a.Faults.length:Int)≤8)))&&(decide ((↑a.Cmds.length:Int)≤8)))&&(decide ((↑a.Takes.length:Int)≤8)))&&(decide ((↑a.Swaps.length:Int)≤8)))) ?_ ?_)
 ·cases bf:((((decide ((↑a.Rain.length:Int)≤8))&&(decide ((↑a.Faults.length:Int)≤8)))&&(decide ((↑a.Cmds.length:Int)≤8)))&&(decide ((↑a.Takes.length:Int)≤8)))
  ·exact Aa O O
  exact AB O (Ae O m Mp Ri O λbg ac=>AB O (Ao A9 c.1 O ac VY O λbh ad=>AB O (An O ad T3 O λbi=>AB O (GQ O (AJ O (AU O))))))
 refine AK O (kp [6] O) (Ad (λaa ww K M=>?_))
 cases E
 exact Dx K M O O (w.trans (p.trans s)) ⟨O,c⟩
theorem Mc (hs:St S L h) {g:Value}{p:AX}(m:Rd S h B1 g p) {i:Value}{s:Aj}(n:Rd S h CO i s) {d:Value}{j:Ek}(k:Rd S h Fm d j) {r:Bool}(E:H4 N p s j=some r):
 CL Tryz.prog 10 #[g,i,d] S h (λv S' h'=>v= .bool r∧St S' (L) h'):=by
 refine BG (l:=[g,i,d]) 20 Tryz.func10 O Tryz.ntmps10 O λB=>?_
 rw[H4] at E
 refine WF.sl (B4 O m (λe=>by cases e) O hs λq1 S2 h3 I J k6=>B4 O (n.mono J) (λe=>by cases e) O I λq8 S9 ad x t K=>B4 O (k.mono (J.trans t)) (λe=>by cases e) O x λae af ag a u M=>AG 1 (AY O (AF (AZ (kp [5,4,3] O) (AC (Bq (.inl O) a ?_))))))
 have w:=k6.mono (t.trans u)
 refine B8 Bd a.1 O w G6 (λe=>by cases e) O λah Q=>?_
 have y:=K.mono u
 refine B8 Bd a.1 O y HI (λe=>by cases e) O λai U=>B8 Bd a.1 O M Tz (λe=>by cases e) O λaj V=>?_
 obtain⟨W,z,E⟩:=bd E
 refine A6 O O O fR O (λh' o=>NG (St.all h') (Q.mono (o.all a.1)) (U.mono (o.all a.1)) (V.mono (o.all a.1)) z) (AA O ?_)
 obtain⟨A,b,E⟩:=bd E
 refine AV 3 14 (.bool A) ?_ ?_
 ·cases C:W
  ·have b:=F5 C b
   cases b
   exact Aa O O
  have b:=Fy C b
  refine AB O (B8 Bd a.1 O w G6 (λe=>by cases e) O λak X=>AB O ?_)
  obtain⟨al,D,b⟩:=bd b
  refine A6 O O O ZI O (λh' o=>L4 (St.all h') (X.mono (o.all a.1)) D) (AJ O ?_)
  cases b
  exact AU O
 refine AA O ?_
 obtain⟨Y,c,E⟩:=bd E
 refine AV 4 19 (.bool Y) ?_ ?_
 ·cases F:A
  ·have c:=F5 F c
   cases c
   exact Aa O O
  have c:=Fy F c
  refine AB O (B8 Bd a.1 O w G6 (λe=>by cases e) O λam Z=>AB O (B8 Bd a.1 O y HI (λe=>by cases e) O λan ab=>AB O ?_))
  obtain⟨ao,G,c⟩:=bd c
  refine A6 O O O W7 O (λh' o=>Kk (St.all h') (Z.mono (o.all a.1)) (ab.mono (o.all a.1)) G) (AJ O ?_)
  cases c
  exact AU O
 refine AY O (BM (kp [6] O) λap H ac=>Ad (λaa ww hf hw=>?_))
 cases E
 exact Dx hf hw O O (J.trans (t.trans (u.trans ac))) ⟨O,H⟩
theorem KT (hs:St S L h) {b:Value}{i:(List Int)}(c:Sl S h AM.int b i) {r:Int}(E:GO N i=some r):
 CL Tryz.prog 13 #[b] S h (λv S' h'=>v=vI r∧AH r∧St S' (L) h'):=by
 refine BG (l:=[b]) 18 Tryz.func13 O Tryz.ntmps13 O λB=>?_
 rw[GO] at E
 refine AI (AK O (kp [0] O) (AI (AK O (kp [3,0] O) (AC (AI (AK O (kp [4,3,0] O) (Am (λa w=>∃(u:Int),IV B S h (18,[]) a w [(3,vI u)] (L) λ_ _=>AH u∧FP N u=some r) ?_ ?_)))))))
 ·refine A5 (λC=>λa w=>∃(p:Int) (q:Int),IV B S h (18,[]) a w [(0,b),(3,vI p),(4,vI q)] (L) λ_ _=>AH p∧AH q∧Dg N i (FP N) C p q=some r) N ?_ ?_ ?_
  ·intro m o d g
   exact⟨0,0,_,_,d.sub (kp [0,3,4] O),g,hs,(CA.refl S h),(iq (n:=0) O),(iq (n:=0) O),E⟩
  ·rintro m o ⟨_,_,_,_,_,_,_,_,_,_,E⟩
   rw[Dg] at E;cases E
  rintro C m o ⟨p,q,D,F,d,g,j,k,G,H,E⟩
  refine Ac ?_ d g
  clear d g o m
  rw[Dg] at E
  refine AC (AI (AA O (AA O (An O (c.mono' k) BQ O λI=>Ar O (AN (kp [8,0,3,4] O) (AW O E (λx E=>?_) (λx E=>?_)))))))
  ·refine AQ (AC (BB (BZ (.inl O) (AA O (AA O (AA O ?_))))))
   obtain⟨y,s,E⟩:=bd E
   refine BE O O (c.mono' k) BQ s O λJ z=>Af A9 j.1 O z Ag O λK=>Ai O (AK O (kp [3,0,4] O) (BO (BZ (.inl O) (AA O (Ai O (AK O (kp [4,3,0] O) (WF.nil (λm o d g=>?_))))))))
   exact⟨(BD (p+y)),(BD (q+1)),_,_,d.sub (kp [0,3,4] O),g,j,k,(BK _),(BK _),E⟩
  refine BC O (λm o d g=>?_)
  exact⟨p,_,_,d.sub (kp [3] O),g,j,k,G,E⟩
 rintro m o ⟨u,M,Q,d,g,t,A,U,E⟩
 refine Ac ?_ d g
 clear d g o m
 rw[FP] at E
 refine AI (AA O (AK O (kp [2] O) (Ad (λm o d g=>?_))))
 cases E
 exact Dx d g O O A ⟨O,U,t⟩
end Go.Proofs.YtblcgjadhemlbaaGreat
