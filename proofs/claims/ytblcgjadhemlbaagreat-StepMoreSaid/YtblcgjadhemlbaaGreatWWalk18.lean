import Derived.Test.YtblcgjadhemlbaaGreatWWalk14
namespace Go.Proofs.YtblcgjadhemlbaaGreat
set_option linter.all false
open Go.RowKit
open Go.Proofs.Tryz
set_option maxRecDepth 10000
set_option maxHeartbeats 2000000
variable {N:Nat}{S:Nat→Prop}{L:List HP}{h:BM}
def N4 (hs:St S L h) {g:Value}{b:AU}(n:Rd S h C2 g b) {i:Value}{j:A7}(o:Rd S h DE i j) {d:Value}{a:DO}(k:Rd S h G0 d a) {r:Bool}(E:JH N b j a=some r):
 DK prog 28 #[g,i,d] S h (λv S' h'=>v= .bool r∧St S' (L) h'):=by
 refine B0 (l:=[g,i,d]) 57 func28 O ntmps28 O λB=>?_
 rw[JH] at E
 refine WF.sl (C3 O n (λe=>by cases e) O hs λq1 S2 h3 x w k6=>C3 O (o.mono w) (λe=>by cases e) O x λq8 S9 ai u p y=>C3 O (k.mono (w.trans p)) (λe=>by cases e) O u λaj ak al c s m=>AF 1 (A0 O (AD (AZ (kp [5,4,3] O) (AE (AI ?_))))))
 have t:=k6.mono (p.trans s)
 refine A8 O t B8 D1 O λam z=>BF Bu c.1 O z G7 O λan C=>BE O C GL O λao=>CV O (AA O (AW 5 16 (.bool ((decide (6<(↑b.A.length:Int)))||(decide (6<(↑b.E.length:Int))))) ?_ ?_))
 ·cases ap:(decide (6<(↑b.A.length:Int)))
  ·exact AB O (A8 O t Er Hn O λaq D=>AB O (BF Bu c.1 O D KF O λar F=>AB O (BE O F Ie O λau=>AB O (CV O (AL O (AV O))))))
  exact A4 O O
 refine AA O (AW 5 22 (.bool (((decide (6<(↑b.A.length:Int)))||(decide (6<(↑b.E.length:Int))))||(decide (4<(↑b.J.length:Int))))) ?_ ?_)
 ·cases av:((decide (6<(↑b.A.length:Int)))||(decide (6<(↑b.E.length:Int))))
  ·exact AB O (A8 O t Eq Ib O λaw G=>AB O (BF Bu c.1 O G LA O λax H=>AB O (BE O H Ku O λay=>AB O (CV O (AL O (AV O))))))
  exact A4 O O
 refine AA O (AW 5 28 (.bool ((((decide (6<(↑b.A.length:Int)))||(decide (6<(↑b.E.length:Int))))||(decide (4<(↑b.J.length:Int))))||(decide (12<(↑j.M.length:Int))))) ?_ ?_)
 ·cases az:(((decide (6<(↑b.A.length:Int)))||(decide (6<(↑b.E.length:Int))))||(decide (4<(↑b.J.length:Int))))
  ·exact AB O (A8 O (y.mono s) JZ Km O λa0 I=>AB O (BF Bu c.1 O I MD O λa1 K=>AB O (BE O K KZ O λa2=>AB O (CV O (AL O (AV O))))))
  exact A4 O O
 refine AN (kp [28,5] O) (AY O E (λQ E=>?_) (λQ E=>?_))
 ·refine AI (AM O (kp [6] O) (A5 (λaa ww U V=>?_)))
  cases E
  exact Em U V O O (w.trans (p.trans s)) ⟨O,c⟩
 refine AS (AI (A8 O m DO.f_Rain O1 O λa3 W=>BF Bu c.1 O W CH O λa4 Y=>BE O Y CA O λa5=>HX O (AA O (AW 5 38 (.bool ((decide ((↑a.X.length:Int)≤8))&&(decide ((↑a.Ap.length:Int)≤8)))) ?_ ?_))))
 ·cases a6:(decide ((↑a.X.length:Int)≤8))
  ·exact A4 O O
  exact AB O (A8 O m P8 WY O λa7 Z=>AB O (BF Bu c.1 O Z cS O λa8 ab=>AB O (BE O ab YG O λa9=>AB O (HX O (AL O (AV O))))))
 refine AA O (AW 5 44 (.bool (((decide ((↑a.X.length:Int)≤8))&&(decide ((↑a.Ap.length:Int)≤8)))&&(decide ((↑a.At.length:Int)≤8)))) ?_ ?_)
 ·cases ba:((decide ((↑a.X.length:Int)≤8))&&(decide ((↑a.Ap.length:Int)≤8)))
  ·exact A4 O O
  exact AB O (A8 O m Rh WX O λbb ac=>AB O (BF Bu c.1 O ac cR O λbc ad=>AB O (BE O ad YF O λbe=>AB O (HX O (AL O (AV O))))))
 refine AA O (AW 5 50 (.bool ((((decide ((↑a.X.length:Int)≤8))&&(decide ((↑a.Ap.length:Int)≤8)))&&(decide ((↑a.At.length:Int)≤8)))&&(decide ((↑a.Ad.length:Int)≤8)))) ?_ ?_)
 ·cases bf:(((decide ((↑a.X.length:Int)≤8))&&(decide ((↑a.Ap.length:Int)≤8)))&&(decide ((↑a.At.length:Int)≤8)))
  ·exact A4 O O
  exact AB O (A8 O m Lk QR O λbg ae=>AB O (BF Bu c.1 O ae Vq O λbh af=>AB O (BE O af T0 O λbi=>AB O (HX O (AL O (AV O))))))
 refine AA O (AW 5 56 (.bool (((((decide ((↑a.X.length:Int)≤8))&&(decide ((↑a.Ap.length:Int)≤8)))&&(decide ((↑a.At.length:Int)≤8)))&&(decide ((↑a.Ad.length:Int)≤8)))&&(decide ((↑a.Ba.length:Int)≤8)))) ?_ ?_)
 ·cases bj:((((decide ((↑a.X.length:Int)≤8))&&(decide ((↑a.Ap.length:Int)≤8)))&&(decide ((↑a.At.length:Int)≤8)))&&(decide ((↑a.Ad.length:Int)≤8)))
  ·exact A4 O O
  exact AB O (A8 O m RK WW O λbk ag=>AB O (BF Bu c.1 O ag cQ O λbl ah=>AB O (BE O ah YE O λbm=>AB O (HX O (AL O (AV O))))))
 refine AM O (kp [6] O) (A5 (λaa ww U V=>?_))
 cases E
 exact Em U V O O (w.trans (p.trans s)) ⟨O,c⟩
def NQ (hs:St S L h) {g:Value}{p:AU}(m:Rd S h C2 g p) {i:Value}{s:A7}(n:Rd S h DE i s) {d:Value}{j:DO}(k:Rd S h G0 d j) {r:Bool}(E:H6 N p s j=some r):
 DK prog 10 #[g,i,d] S h (λv S' h'=>v= .bool r∧St S' (L) h'):=by
 refine B0 (l:=[g,i,d]) 20 func10 O ntmps10 O λB=>?_
 rw[H6] at E
 refine WF.sl (C3 O m (λe=>by cases e) O hs λq1 S2 h3 I J k6=>C3 O (n.mono J) (λe=>by cases e) O I λq8 S9 ad x t K=>C3 O (k.mono (J.trans t)) (λe=>by cases e) O x λae af ag a u M=>AF 1 (A0 O (AD (AZ (kp [5,4,3] O) (AE (Cn (.inl O) a ?_))))))
 have w:=k6.mono (t.trans u)
 refine Cq CQ a.1 O w H2 (λe=>by cases e) O λah Q=>?_
 have y:=K.mono u
 refine Cq CQ a.1 O y G6 (λe=>by cases e) O λai U=>Cq CQ a.1 O M Tn (λe=>by cases e) O λaj V=>?_
 obtain⟨W,z,E⟩:=bd E
 refine BU O O O nL O (λh' o=>N4 (St.all h') (Q.mono (o.all a.1)) (U.mono (o.all a.1)) (V.mono (o.all a.1)) z) (AA O ?_)
 obtain⟨A,b,E⟩:=bd E
 refine AW 3 14 (.bool A) ?_ ?_
 ·cases C:W
  ·have b:=Hj C b
   cases b
   exact A4 O O
  have b:=Hi C b
  refine AB O (Cq CQ a.1 O w H2 (λe=>by cases e) O λak X=>AB O ?_)
  obtain⟨al,D,b⟩:=bd b
  refine BU O O O dX O (λh' o=>Mr (St.all h') (X.mono (o.all a.1)) D) (AL O ?_)
  cases b
  exact AV O
 refine AA O ?_
 obtain⟨Y,c,E⟩:=bd E
 refine AW 4 19 (.bool Y) ?_ ?_
 ·cases F:A
  ·have c:=Hj F c
   cases c
   exact A4 O O
  have c:=Hi F c
  refine AB O (Cq CQ a.1 O w H2 (λe=>by cases e) O λam Z=>AB O (Cq CQ a.1 O y G6 (λe=>by cases e) O λan ab=>AB O ?_))
  obtain⟨ao,G,c⟩:=bd c
  refine BU O O O Wj O (λh' o=>KG (St.all h') (Z.mono (o.all a.1)) (ab.mono (o.all a.1)) G) (AL O ?_)
  cases c
  exact AV O
 refine A0 O (B9 (kp [6] O) λap H ac=>A5 (λaa ww hf hw=>?_))
 cases E
 exact Em hf hw O O (J.trans (t.trans (u.trans ac))) ⟨O,H⟩
def Hk (D:St S L h) {b:Value}{i:(List Int)}(c:Sl S h AJ b i) {r:Int}(E:Fu N i=some r):
 DK prog 13 #[b] S h (λv S' h'=>v=vI r∧AH r∧St S' (L) h'):=by
 refine B0 (l:=[b]) 18 func13 O ntmps13 O λB=>?_
 rw[Fu] at E
 refine AI (AM O (kp [0] O) (AI (AM O (kp [3,0] O) (AE (AI (AM O (kp [4,3,0] O) (BH (λa w=>∃(u:Int),IV B S h (18,[]) a w [(3,vI u)] (L) λ_ _=>AH u∧Ga N u=some r) ?_ ?_)))))))
 ·refine BV (λC=>λa w=>∃(p:Int) (q:Int),IV B S h (18,[]) a w [(0,b),(3,vI p),(4,vI q)] (L) λ_ _=>AH p∧AH q∧EX N i (Ga N) C p q=some r) N ?_ ?_ ?_
  ·intro m o d g
   exact⟨0,0,_,_,d.sub (kp [0,3,4] O),g,D,(C9.refl S h),(iq (n:=0) O),(iq (n:=0) O),E⟩
  ·rintro m o ⟨_,_,_,_,_,_,_,_,_,_,E⟩
   rw[EX] at E;cases E
  rintro C m o ⟨p,q,F,G,d,g,j,k,H,I,E⟩
  refine A6 ?_ d g
  clear d g o m
  rw[EX] at E
  refine AE (AI (AA O (AA O (BE O (c.mono' k) CA O λJ=>BI O (AN (kp [8,0,3,4] O) (AY O E (λx E=>?_) (λx E=>?_)))))))
  ·refine AS (AE (BY (CL (.inl O) (AA O (AA O (AA O ?_))))))
   obtain⟨y,s,E⟩:=bd E
   refine B1 O O (c.mono' k) CA s O λK z=>BC Bu j.1 O z BA O λM=>A9 O (AM O (kp [3,0,4] O) (B7 (CL (.inl O) (AA O (A9 O (AM O (kp [4,3,0] O) (WF.nil (λm o d g=>?_))))))))
   exact⟨(Bw (p+y)),(Bw (q+1)),_,_,d.sub (kp [0,3,4] O),g,j,k,(B5 _),(B5 _),E⟩
  refine By O (λm o d g=>?_)
  exact⟨p,_,_,d.sub (kp [3] O),g,j,k,H,E⟩
 rintro m o ⟨u,Q,U,d,g,t,A,V,E⟩
 refine A6 ?_ d g
 clear d g o m
 rw[Ga] at E
 refine AI (AA O (AM O (kp [2] O) (A5 (λm o d g=>?_))))
 cases E
 exact Em d g O O A ⟨O,V,t⟩
end Go.Proofs.YtblcgjadhemlbaaGreat
namespace Go.Proofs.YtblcgjadhemlbaaGreat
set_option linter.all false
open Go.RowKit
set_option maxRecDepth 10000
set_option maxHeartbeats 2000000
variable {N:Nat}{S:Nat→Prop}{L:List HP}{h:BM}
end Go.Proofs.YtblcgjadhemlbaaGreat
namespace Go.Proofs.YtblcgjadhemlbaaGreat
set_option linter.all false
open Go.RowKit
set_option maxRecDepth 10000
set_option maxHeartbeats 2000000
variable {N:Nat}{S:Nat→Prop}{L:List HP}{h:BM}
end Go.Proofs.YtblcgjadhemlbaaGreat
namespace Go.Proofs.YtblcgjadhemlbaaGreat
set_option linter.all false
open Go.RowKit
set_option maxRecDepth 10000
set_option maxHeartbeats 2000000
variable {N:Nat}{S:Nat→Prop}{L:List HP}{h:BM}
end Go.Proofs.YtblcgjadhemlbaaGreat
