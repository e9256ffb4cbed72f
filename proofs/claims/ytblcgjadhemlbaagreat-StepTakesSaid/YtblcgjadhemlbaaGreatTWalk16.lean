import Derived.Test.YtblcgjadhemlbaaGreatTWalk14
namespace Go.Proofs.YtblcgjadhemlbaaGreat
open Go.RowKit
set_option linter.unusedVariables false
set_option linter.unusedSimpArgs false
set_option maxRecDepth 10000
set_option maxHeartbeats 2000000
variable {N:Nat}{S:Nat→Prop}{L:List HP}{h:Aw}
theorem M9 (hs:St S L h) {g:Value}{b:AW}(n:Rd S h B8 g b) {i:Value}{j:Am}(o:Rd S h CP i j) {d:Value}{a:Cy}(k:Rd S h FY d a) {r:Bool}(E:qQ N b j a=some r):
 CL Tryz.prog 28 #[g,i,d] S h (λv S' h'=>v= .bool r∧St S' (L) h'):=by
 refine BF (l:=[g,i,d]) 57 Tryz.func28 O Tryz.ntmps28 O λB=>?_
 rw[qQ] at E
 refine WF.sl (B3 O n (λe=>by cases e) O hs λq1 S2 h3 x w k6=>B3 O (o.mono w) (λe=>by cases e) O x λq8 S9 ae u p y=>B3 O (k.mono (w.trans p)) (λe=>by cases e) O u λaf ag ah c s m=>AI 1 (AY O (AG (AZ (kp [5,4,3] O) (AC (AH ?_))))))
 have t:=k6.mono (p.trans s)
 refine Af O t BO C0 O λai z=>Al A6 c.1 O z Fq O λaj A=>Ak O A Ez O λak=>Bk O (AA O (AV 5 16 (.bool ((decide (6<(↑b.Places.length:Int)))||(decide (6<(↑b.Links.length:Int))))) ?_ ?_))
 ·cases al:(decide (6<(↑b.Places.length:Int)))
  ·exact AB O (Af O t Es HA O λam C=>AB O (Al A6 c.1 O C Jv O λan D=>AB O (Ak O D H6 O λao=>AB O (Bk O (AJ O (AU O))))))
  exact Aa O O
 refine AA O (AV 5 22 (.bool (((decide (6<(↑b.Places.length:Int)))||(decide (6<(↑b.Links.length:Int))))||(decide (4<(↑b.Owners.length:Int))))) ?_ ?_)
 ·cases ap:((decide (6<(↑b.Places.length:Int)))||(decide (6<(↑b.Links.length:Int))))
  ·exact AB O (Af O t Dq HT O λaq F=>AB O (Al A6 c.1 O F KI O λar G=>AB O (Ak O G Jx O λau=>AB O (Bk O (AJ O (AU O))))))
  exact Aa O O
 refine AA O (AV 5 28 (.bool ((((decide (6<(↑b.Places.length:Int)))||(decide (6<(↑b.Links.length:Int))))||(decide (4<(↑b.Owners.length:Int))))||(decide (12<(↑j.Queue.length:Int))))) ?_ ?_)
 ·cases av:(((decide (6<(↑b.Places.length:Int)))||(decide (6<(↑b.Links.length:Int))))||(decide (4<(↑b.Owners.length:Int))))
  ·exact AB O (Af O (y.mono s) FZ IL O λaw H=>AB O (Al A6 c.1 O H Ju O λax I=>AB O (Ak O I Im O λay=>AB O (Bk O (AJ O (AU O))))))
  exact Aa O O
 refine AM (kp [28,5] O) (AX O E (λJ E=>?_) (λJ E=>?_))
 ·refine AH (AL O (kp [6] O) (Ad (λaa ww K M=>?_)))
  cases E
  exact Dr K M O O (w.trans (p.trans s)) ⟨O,c⟩
 refine AO (AH (Af O m Cy.f_Rain Rq O λaz Q=>Al A6 c.1 O Q BX O λa0 U=>Ak O U BR O λa1=>Fv O (AA O (AV 5 38 (.bool ((decide ((↑a.Rain.length:Int)≤8))&&(decide ((↑a.Faults.length:Int)≤8)))) ?_ ?_))))
 ·cases a2:(decide ((↑a.Rain.length:Int)≤8))
  ·exact Aa O O
  exact AB O (Af O m O5 Ul O λa3 V=>AB O (Al A6 c.1 O V Y9 O λa4 W=>AB O (Ak O W V7 O λa5=>AB O (Fv O (AJ O (AU O))))))
 refine AA O (AV 5 44 (.bool (((decide ((↑a.Rain.length:Int)≤8))&&(decide ((↑a.Faults.length:Int)≤8)))&&(decide ((↑a.Cmds.length:Int)≤8)))) ?_ ?_)
 ·cases a6:((decide ((↑a.Rain.length:Int)≤8))&&(decide ((↑a.Faults.length:Int)≤8)))
  ·exact Aa O O
  exact AB O (Af O m QV Uk O λa7 X=>AB O (Al A6 c.1 O X Y8 O λa8 Y=>AB O (Ak O Y V6 O λa9=>AB O (Fv O (AJ O (AU O))))))
 refine AA O (AV 5 50 (.bool ((((decide ((↑a.Rain.length:Int)≤8))&&(decide ((↑a.Faults.length:Int)≤8)))&&(decide ((↑a.Cmds.length:Int)≤8)))&&(decide ((↑a.Takes.length:Int)≤8)))) ?_ ?_)
 ·cases ba:(((decide ((↑a.Rain.length:Int)≤8))&&(decide ((↑a.Faults.length:Int)≤8)))&&(decide ((↑a.Cmds.length:Int)≤8)))
  ·exact Aa O O
  exact AB O (Af O m Kt PO O λbb Z=>AB O (Al A6 c.1 O Z UC O λbc ab=>AB O (Ak O ab SY O λbe=>AB O (Fv O (AJ O (AU O))))))
 refine AA O (AV 5 56 (.bool (((((decide ((↑a.Rain.length:Int)≤8))&&(decide ((↑a.Faults.length:Int)≤8)))&&(decide ((↑a.Cmds.length:Int)≤8)))&&(decide ((↑a.Takes.length:Int)≤8)))&&(decide ((↑a.Swaps.length:Int)≤8)))) ?_ ?_)
 ·cases bf:((((decide ((↑a.Rain.length:Int)≤8))&&(decide ((↑a.Faults.length:Int)≤8)))&&(decide ((↑a.Cmds.length:Int)≤8)))&&(decide ((↑a.Takes.length:Int)≤8)))
  ·exact Aa O O
  exact AB O (Af O m Mh Rp O λbg ac=>AB O (Al A6 c.1 O ac Vr O λbh ad=>AB O (Ak O ad UH O λbi=>AB O (Fv O (AJ O (AU O))))))
 refine AL O (kp [6] O) (Ad (λaa ww K M=>?_))
 cases E
 exact Dr K M O O (w.trans (p.trans s)) ⟨O,c⟩
theorem MW (hs:St S L h) {g:Value}{p:AW}(m:Rd S h B8 g p) {i:Value}{s:Am}(n:Rd S h CP i s) {d:Value}{j:Cy}(k:Rd S h FY d j) {r:Bool}(E:Hz N p s j=some r):
 CL Tryz.prog 10 #[g,i,d] S h (λv S' h'=>v= .bool r∧St S' (L) h'):=by
 refine BF (l:=[g,i,d]) 20 Tryz.func10 O Tryz.ntmps10 O λB=>?_
 rw[Hz] at E
 refine WF.sl (B3 O m (λe=>by cases e) O hs λq1 S2 h3 I J k6=>B3 O (n.mono J) (λe=>by cases e) O I λq8 S9 ad x t K=>B3 O (k.mono (J.trans t)) (λe=>by cases e) O x λae af ag a u M=>AI 1 (AY O (AG (AZ (kp [5,4,3] O) (AC (Bt (.inl O) a ?_))))))
 have w:=k6.mono (t.trans u)
 refine B6 Bg a.1 O w G0 (λe=>by cases e) O λah Q=>?_
 have y:=K.mono u
 refine B6 Bg a.1 O y G8 (λe=>by cases e) O λai U=>B6 Bg a.1 O M SO (λe=>by cases e) O λaj V=>?_
 obtain⟨W,z,E⟩:=bd E
 refine A5 O O O gK O (λh' o=>M9 (St.all h') (Q.mono (o.all a.1)) (U.mono (o.all a.1)) (V.mono (o.all a.1)) z) (AA O ?_)
 obtain⟨A,b,E⟩:=bd E
 refine AV 3 14 (.bool A) ?_ ?_
 ·cases C:W
  ·have b:=GM C b
   cases b
   exact Aa O O
  have b:=GL C b
  refine AB O (B6 Bg a.1 O w G0 (λe=>by cases e) O λak X=>AB O ?_)
  obtain⟨al,D,b⟩:=bd b
  refine A5 O O O Zb O (λh' o=>Ly (St.all h') (X.mono (o.all a.1)) D) (AJ O ?_)
  cases b
  exact AU O
 refine AA O ?_
 obtain⟨Y,c,E⟩:=bd E
 refine AV 4 19 (.bool Y) ?_ ?_
 ·cases F:A
  ·have c:=GM F c
   cases c
   exact Aa O O
  have c:=GL F c
  refine AB O (B6 Bg a.1 O w G0 (λe=>by cases e) O λam Z=>AB O (B6 Bg a.1 O y G8 (λe=>by cases e) O λan ab=>AB O ?_))
  obtain⟨ao,G,c⟩:=bd c
  refine A5 O O O XS O (λh' o=>Kf (St.all h') (Z.mono (o.all a.1)) (ab.mono (o.all a.1)) G) (AJ O ?_)
  cases c
  exact AU O
 refine AY O (BQ (kp [6] O) λap H ac=>Ad (λaa ww hf hw=>?_))
 cases E
 exact Dr hf hw O O (J.trans (t.trans (u.trans ac))) ⟨O,H⟩
end Go.Proofs.YtblcgjadhemlbaaGreat
namespace Go.Proofs.YtblcgjadhemlbaaGreat
open Go.RowKit
set_option linter.unusedVariables false
set_option linter.unusedSimpArgs false
set_option maxRecDepth 10000
set_option maxHeartbeats 2000000
variable {N:Nat}{S:Nat→Prop}{L:List HP}{h:Aw}
end Go.Proofs.YtblcgjadhemlbaaGreat
