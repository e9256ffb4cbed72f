import Derived.Test.YtblcgjadhemlbaaGreatVWalk14
namespace Go.Proofs.YtblcgjadhemlbaaGreat
set_option linter.all false
open Go.RowKit
open Go.Proofs.Tryz
set_option maxRecDepth 10000
set_option maxHeartbeats 2000000
variable {N:Nat}{S:Nat→Prop}{L:List HP}{h:BL}
def Nc (hs:St S L h) {g:Value}{b:AU}(n:Rd S h CZ g b) {i:Value}{j:BD}(o:Rd S h C3 i j) {d:Value}{a:Eb}(k:Rd S h Gf d a) {r:Bool}(E:I2 N b j a=some r):
 C5 prog 28 #[g,i,d] S h (λv S' h'=>v= .bool r∧St S' (L) h'):=by
 refine Bv (l:=[g,i,d]) 57 func28 O ntmps28 O λB=>?_
 rw[I2] at E
 refine WF.sl (Cm O n (λe=>by cases e) O hs λq1 S2 h3 x w k6=>Cm O (o.mono w) (λe=>by cases e) O x λq8 S9 ah u p y=>Cm O (k.mono (w.trans p)) (λe=>by cases e) O u λai aj ak c s m=>AF 1 (AY O (AG (AZ (kp [5,4,3] O) (AE (AI ?_))))))
 have t:=k6.mono (p.trans s)
 refine A8 O t B6 Do O λal z=>BG BY c.1 O z Gu O λam C=>BC O C Fy O λan=>CP O (AA O (AW 5 16 (.bool ((decide (6<(↑b.A.length:Int)))||(decide (6<(↑b.E.length:Int))))) ?_ ?_))
 ·cases ao:(decide (6<(↑b.A.length:Int)))
  ·exact AB O (A8 O t Fo H1 O λap D=>AB O (BG BY c.1 O D KY O λaq F=>AB O (BC O F Io O λar=>AB O (CP O (AL O (AV O))))))
  exact A3 O O
 refine AA O (AW 5 22 (.bool (((decide (6<(↑b.A.length:Int)))||(decide (6<(↑b.E.length:Int))))||(decide (4<(↑b.H.length:Int))))) ?_ ?_)
 ·cases au:((decide (6<(↑b.A.length:Int)))||(decide (6<(↑b.E.length:Int))))
  ·exact AB O (A8 O t E6 If O λav G=>AB O (BG BY c.1 O G LA O λaw I=>AB O (BC O I Kt O λax=>AB O (CP O (AL O (AV O))))))
  exact A3 O O
 refine AA O (AW 5 28 (.bool ((((decide (6<(↑b.A.length:Int)))||(decide (6<(↑b.E.length:Int))))||(decide (4<(↑b.H.length:Int))))||(decide (12<(↑j.J.length:Int))))) ?_ ?_)
 ·cases ay:(((decide (6<(↑b.A.length:Int)))||(decide (6<(↑b.E.length:Int))))||(decide (4<(↑b.H.length:Int))))
  ·exact AB O (A8 O (y.mono s) JG KO O λaz K=>AB O (BG BY c.1 O K Lp O λa0 M=>AB O (BC O M KA O λa1=>AB O (CP O (AL O (AV O))))))
  exact A3 O O
 refine AN (kp [28,5] O) (AX O E (λQ E=>?_) (λQ E=>?_))
 ·refine AI (AM O (kp [6] O) (A5 (λaa ww U V=>?_)))
  cases E
  exact Ee U V O O (w.trans (p.trans s)) ⟨O,c⟩
 refine AT (AI (A8 O m Eb.f_Rain SL O λa2 W=>BG BY c.1 O W CG O λa3 X=>BC O X CA O λa4=>HO O (AA O (AW 5 38 (.bool ((decide ((↑a.Aa.length:Int)≤8))&&(decide ((↑a.Am.length:Int)≤8)))) ?_ ?_))))
 ·cases a5:(decide ((↑a.Aa.length:Int)≤8))
  ·exact A3 O O
  exact AB O (A8 O m PW VS O λa6 Y=>AB O (BG BY c.1 O Y Z3 O λa7 Z=>AB O (BC O Z W0 O λa8=>AB O (HO O (AL O (AV O))))))
 refine AA O (AW 5 44 (.bool (((decide ((↑a.Aa.length:Int)≤8))&&(decide ((↑a.Am.length:Int)≤8)))&&(decide ((↑a.Ar.length:Int)≤8)))) ?_ ?_)
 ·cases a9:((decide ((↑a.Aa.length:Int)≤8))&&(decide ((↑a.Am.length:Int)≤8)))
  ·exact A3 O O
  exact AB O (A8 O m Q3 VR O λba ab=>AB O (BG BY c.1 O ab Z2 O λbb ac=>AB O (BC O ac Wz O λbc=>AB O (HO O (AL O (AV O))))))
 refine AA O (AW 5 50 (.bool ((((decide ((↑a.Aa.length:Int)≤8))&&(decide ((↑a.Am.length:Int)≤8)))&&(decide ((↑a.Ar.length:Int)≤8)))&&(decide ((↑a.Ae.length:Int)≤8)))) ?_ ?_)
 ·cases be:(((decide ((↑a.Aa.length:Int)≤8))&&(decide ((↑a.Am.length:Int)≤8)))&&(decide ((↑a.Ar.length:Int)≤8)))
  ·exact A3 O O
  exact AB O (A8 O m Qe VQ O λbf ad=>AB O (BG BY c.1 O ad Z1 O λbg ae=>AB O (BC O ae Wy O λbh=>AB O (HO O (AL O (AV O))))))
 refine AA O (AW 5 56 (.bool (((((decide ((↑a.Aa.length:Int)≤8))&&(decide ((↑a.Am.length:Int)≤8)))&&(decide ((↑a.Ar.length:Int)≤8)))&&(decide ((↑a.Ae.length:Int)≤8)))&&(decide ((↑a.Az.length:Int)≤8)))) ?_ ?_)
 ·cases bi:((((decide ((↑a.Aa.length:Int)≤8))&&(decide ((↑a.Am.length:Int)≤8)))&&(decide ((↑a.Ar.length:Int)≤8)))&&(decide ((↑a.Ae.length:Int)≤8)))
  ·exact A3 O O
  exact AB O (A8 O m Qf VP O λbj af=>AB O (BG BY c.1 O af Z0 O λbk ag=>AB O (BC O ag Wx O λbl=>AB O (HO O (AL O (AV O))))))
 refine AM O (kp [6] O) (A5 (λaa ww U V=>?_))
 cases E
 exact Ee U V O O (w.trans (p.trans s)) ⟨O,c⟩
def M2 (hs:St S L h) {g:Value}{p:AU}(m:Rd S h CZ g p) {i:Value}{s:BD}(n:Rd S h C3 i s) {d:Value}{j:Eb}(k:Rd S h Gf d j) {r:Bool}(E:Ii N p s j=some r):
 C5 prog 10 #[g,i,d] S h (λv S' h'=>v= .bool r∧St S' (L) h'):=by
 refine Bv (l:=[g,i,d]) 20 func10 O ntmps10 O λB=>?_
 rw[Ii] at E
 refine WF.sl (Cm O m (λe=>by cases e) O hs λq1 S2 h3 I J k6=>Cm O (n.mono J) (λe=>by cases e) O I λq8 S9 ad x t K=>Cm O (k.mono (J.trans t)) (λe=>by cases e) O x λae af ag a u M=>AF 1 (AY O (AG (AZ (kp [5,4,3] O) (AE (CX (.inl O) a ?_))))))
 have w:=k6.mono (t.trans u)
 refine Ci CL a.1 O w HS (λe=>by cases e) O λah Q=>?_
 have y:=K.mono u
 refine Ci CL a.1 O y Hs (λe=>by cases e) O λai U=>Ci CL a.1 O M Us (λe=>by cases e) O λaj V=>?_
 obtain⟨W,z,E⟩:=bd E
 refine BR O O O jN O (λh' o=>Nc (St.all h') (Q.mono (o.all a.1)) (U.mono (o.all a.1)) (V.mono (o.all a.1)) z) (AA O ?_)
 obtain⟨A,b,E⟩:=bd E
 refine AW 3 14 (.bool A) ?_ ?_
 ·cases C:W
  ·have b:=HG C b
   cases b
   exact A3 O O
  have b:=HE C b
  refine AB O (Ci CL a.1 O w HS (λe=>by cases e) O λak X=>AB O ?_)
  obtain⟨al,D,b⟩:=bd b
  refine BR O O O aU O (λh' o=>MU (St.all h') (X.mono (o.all a.1)) D) (AL O ?_)
  cases b
  exact AV O
 refine AA O ?_
 obtain⟨Y,c,E⟩:=bd E
 refine AW 4 19 (.bool Y) ?_ ?_
 ·cases F:A
  ·have c:=HG F c
   cases c
   exact A3 O O
  have c:=HE F c
  refine AB O (Ci CL a.1 O w HS (λe=>by cases e) O λam Z=>AB O (Ci CL a.1 O y Hs (λe=>by cases e) O λan ab=>AB O ?_))
  obtain⟨ao,G,c⟩:=bd c
  refine BR O O O Ty O (λh' o=>I7 (St.all h') (Z.mono (o.all a.1)) (ab.mono (o.all a.1)) G) (AL O ?_)
  cases c
  exact AV O
 refine AY O (B3 (kp [6] O) λap H ac=>A5 (λaa ww hf hw=>?_))
 cases E
 exact Ee hf hw O O (J.trans (t.trans (u.trans ac))) ⟨O,H⟩
def Nb (D:St S L h) {b:Value}{i:(List Int)}(c:Sl S h AJ b i) {r:Int}(E:H7 N i=some r):
 C5 prog 13 #[b] S h (λv S' h'=>v=vI r∧AH r∧St S' (L) h'):=by
 refine Bv (l:=[b]) 18 func13 O ntmps13 O λB=>?_
 rw[H7] at E
 refine AI (AM O (kp [0] O) (AI (AM O (kp [3,0] O) (AE (AI (AM O (kp [4,3,0] O) (BF (λa w=>∃(u:Int),IV B S h (18,[]) a w [(3,vI u)] (L) λ_ _=>AH u∧GH N u=some r) ?_ ?_)))))))
 ·refine BT (λC=>λa w=>∃(p:Int) (q:Int),IV B S h (18,[]) a w [(0,b),(3,vI p),(4,vI q)] (L) λ_ _=>AH p∧AH q∧EK N i (GH N) C p q=some r) N ?_ ?_ ?_
  ·intro m o d g
   exact⟨0,0,_,_,d.sub (kp [0,3,4] O),g,D,(Cv.refl S h),(iq (n:=0) O),(iq (n:=0) O),E⟩
  ·rintro m o ⟨_,_,_,_,_,_,_,_,_,_,E⟩
   rw[EK] at E;cases E
  rintro C m o ⟨p,q,F,G,d,g,j,k,H,I,E⟩
  refine A6 ?_ d g
  clear d g o m
  rw[EK] at E
  refine AE (AI (AA O (AA O (BC O (c.mono' k) CA O λJ=>BK O (AN (kp [8,0,3,4] O) (AX O E (λx E=>?_) (λx E=>?_)))))))
  ·refine AT (AE (BV (CN (.inl O) (AA O (AA O (AA O ?_))))))
   obtain⟨y,s,E⟩:=bd E
   refine Bz O O (c.mono' k) CA s O λK z=>A9 BY j.1 O z A7 O λM=>BB O (AM O (kp [3,0,4] O) (B5 (CN (.inl O) (AA O (BB O (AM O (kp [4,3,0] O) (WF.nil (λm o d g=>?_))))))))
   exact⟨(B0 (p+y)),(B0 (q+1)),_,_,d.sub (kp [0,3,4] O),g,j,k,(B1 _),(B1 _),E⟩
  refine By O (λm o d g=>?_)
  exact⟨p,_,_,d.sub (kp [3] O),g,j,k,H,E⟩
 rintro m o ⟨u,Q,U,d,g,t,A,V,E⟩
 refine A6 ?_ d g
 clear d g o m
 rw[GH] at E
 refine AI (AA O (AM O (kp [2] O) (A5 (λm o d g=>?_))))
 cases E
 exact Ee d g O O A ⟨O,V,t⟩
end Go.Proofs.YtblcgjadhemlbaaGreat
namespace Go.Proofs.YtblcgjadhemlbaaGreat
set_option linter.all false
open Go.RowKit
set_option maxRecDepth 10000
set_option maxHeartbeats 2000000
variable {N:Nat}{S:Nat→Prop}{L:List HP}{h:BL}
end Go.Proofs.YtblcgjadhemlbaaGreat
namespace Go.Proofs.YtblcgjadhemlbaaGreat
set_option linter.all false
open Go.RowKit
set_option maxRecDepth 10000
set_option maxHeartbeats 2000000
variable {N:Nat}{S:Nat→Prop}{L:List HP}{h:BL}
end Go.Proofs.YtblcgjadhemlbaaGreat
namespace Go.Proofs.YtblcgjadhemlbaaGreat
set_option linter.all false
open Go.RowKit
open Go.Proofs.Tryz
set_option maxRecDepth 10000
set_option maxHeartbeats 2000000
variable {N:Nat}{S:Nat→Prop}{L:List HP}{h:BL}
def LT (hs:St S L h) {U:Value}{t:AU}(ax:Rd S h CZ U t) {V:Value}{s:BD}(ay:Rd S h C3 V s) {J:Value}{ak:Eb}(am:Rd S h Gf J ak) {r:Bool}(E:GI N t s ak=some r):
 C5 prog 4 #[U,V,J] S h (λv S' h'=>v= .bool r∧St S' (L) h'):=by
 refine Bv (l:=[U,V,J]) 91 func4 O ntmps4 O λB=>?_
 rw[GI] at E
 refine WF.sl (Cm O ax (λe=>by cases e) O hs λq1 S2 h3 eh e5 k6=>Cm O (ay.mono e5) (λe=>by cases e) O eh λq8 S9 gd bx ah ei=>Cm O (am.mono (e5.trans ah)) (λe=>by cases e) O bx λge gf gg bz ai ej=>AF 1 (AY O (AG (AZ (kp [5,4,3] O) (AE (CX (.inl O) bz ?_))))))
 obtain⟨K,b0,E⟩:=bd E
 refine BR O O O lQ O (λh' o=>Md (St.all h') b0) (AY O (B3 (kp [7,5,4,3] O) λgh D ac=>AE (AE (CX (.inl O) D ?_))))
 have b1:=k6.mono (ah.trans (ai.trans ac))
 refine Ci CL D.1 O b1 HS (λe=>by cases e) O λgi ek=>?_
 have bc:=ei.mono (ai.trans ac)
 refine Ci CL D.1 O bc Hs (λe=>by cases e) O λgj el=>?_
 have b2:=ej.mono ac
 refine Ci CL D.1 O b2 Us (λe=>by cases e) O λgl em=>?_
 obtain⟨b3,b4,E⟩:=bd E
 refine BR O O O jV O (λh' o=>M2 (St.all h') (ek.mono (o.all D.1)) (el.mono (o.all D.1)) (em.mono (o.all D.1)) b4) (CE O (AA O (AW 4 23 (.bool ((!b3)||(decide (16777216≤s.B)))) ?_ ?_)))
 ·cases gm:(!b3)
  ·exact AB O (A8 O bc BD.f_Hour H0 O λgn en=>AB O (A9 CL D.1 O en A7 O λgp=>AB O (HQ O (AL O (AV O)))))
  exact A3 O O
 refine B3 (kp [23,7,5,4,3] O) λgq W ad=>AX O E (λeo E=>?_) (λeo E=>?_)
 ·refine AI (AA O (AM O (kp [6] O) (A5 (λaa ww F G=>?_))))
  cases E
  exact Ee F G O O (e5.trans (ah.trans (ai.trans (ac.trans ad)))) ⟨O,W⟩
 refine AT (WF.sl (AF 3 ?_))
 have b5:=b1.mono ad
 refine Ci BY W.1 O b5 HS (λe=>by cases e) O λgr ep=>?_
 have be:=bc.mono ad
 refine Ci BY W.1 O be Hs (λe=>by cases e) O λgs eq=>Ci BY W.1 O (b2.mono ad) Us (λe=>by cases e) O λgt er=>AG ?_
 obtain⟨M,b6,E⟩:=bd E
 refine DU O O O YM O (Lg W ep eq er b6) λgu bf gv aj p=>?_
 obtain⟨gw,gx,b7,rfl,es,b8⟩:=p
 refine AF 4 (AA O (CS O (CS O (CS O (AG (Di O3 O b8 λb9 gy ca ae=>?_))))))
 obtain⟨az,a0,a1,a2,a3,a4,rfl,et,bg,cb,cc,cd,ce,cf⟩:=C3.ex (es.mono ae)
 refine IA (vs:=[vI M.1.B,az,a0,a1,a2,a3,a4]) (cs':=[vI M.1.B,az,a0,a1,a2,a3,a4]) O O O (AC O (AC bg.one (AC cb.one (AC cc.one (AC cd.one (AC ce.one (AC cf.one FA))))))) Hs O ca .head O O λgz g y=>AF 2 (AY O (AY O (AG (AZ (kp [10,8,7,4,3] O) (AE (AE (CX (.inl O) g ?_)))))))
 have an:=b5.mono (aj.trans (ae.trans y))
 refine Ci CL g.1 O an HS (λe=>by cases e) O λg0 eu=>EH (vs:=[vI M.1.B,az,a0,a1,a2,a3,a4]) CL g O mh O O Hs O O ?_
 obtain⟨a5,cg,E⟩:=bd E
 refine BR O O O Ty O (λh' o=>I7 (St.all h') (eu.mono (o.all g.1)) (C3.mk (x:=M.1) et ((bg.mono' y).mono' (o.all g.1)) ((cb.mono' y).mono' (o.all g.1)) ((cc.mono' y).mono' (o.all g.1)) ((cd.mono' y).mono' (o.all g.1)) ((ce.mono' y).mono' (o.all g.1)) ((cf.mono' y).mono' (o.all g.1))) cg) (CE O (AA O (AW 7 44 (.bool ((!a5)||(decide (M.1.B≠(B0 (s.B+1)))))) ?_ ?_)))
 ·cases ez:(!a5)
  ·exact AB O (AD H0 O (AB O (AS CL g O mh O A7 O (AB O (A8 O (be.mono (aj.trans (ae.trans y))) BD.f_Hour H0 O λe0 ch=>AB O (A9 CL g.1 O ch A7 O λe1=>AB O (BB O (AB O (CW O (AL O (AV O)))))))))))
  exact A3 O O
 refine AA O (AW 7 52 (.bool (((!a5)||(decide (M.1.B≠(B0 (s.B+1)))))||(decide ((↑M.2.2.length:Int)≠(↑t.A.length:Int))))) ?_ ?_)
 ·cases e2:((!a5)||(decide (M.1.B≠(B0 (s.B+1)))))
  ·exact AB O (AA O (AB O (MO g (mt (mt mh)) O CA O λe3=>AB O (A8 O an B6 Do O λe4 ci=>AB O (BG CL g.1 O ci Gu O λe6 cj=>AB O (BC O cj Fy O λe7=>AB O (CW O (AL O (AV O)))))))))
  exact A3 O O
 refine B3 (kp [52,10,8,7,4,3] O) λao ap H=>AX O E (λck E=>?_) (λck E=>?_)
 ·refine AI (AM O (kp [6] O) (A5 (λaa ww F G=>?_)))
  have bh:=ap.sel [] 3 O
  cases E
  exact Ee F G O O (e5.trans (ah.trans (ai.trans (ac.trans (ad.trans (aj.trans (ae.trans (y.trans H)))))))) ⟨O,bh⟩
 refine AT (AE (AI (AM O (kp [11,10,8,7,4,3] O) (BF (λa w=>IV B bf ao (91,[]) a w [(7,.bool K),(4,q8),(3,q1)] (L) λ_ _=>E2 N t s K=some r) ?_ ?_))))
 ·refine BT (λn1=>λa w=>∃(X:Int),IV B bf ao (91,[]) a w [(10,b7),(8,vP b9 0),(7,.bool K),(4,q8),(3,q1),(11,vI X)] (Bx b9 36 [vI M.1.B,az,a0,a1,a2,a3,a4]::OS AJ 3 b7 M.2.2::L) λ_ _=>AH X∧Cx N t M (E2 N t s K) n1 X=some r) N ?_ ?_ ?_
  ·intro aa ww F G
   have bi:=ap.sel [0,1] 1 O
   exact⟨0,_,_,F.sub (kp [10,8,7,4,3,11] O),G,bi,(Cv.refl bf ao),(iq (n:=0) O),E⟩
  ·rintro aa ww ⟨_,_,_,_,_,_,_,_,E⟩
   rw[Cx] at E;cases E
  rintro n1 aa ww ⟨X,e8,e9,F,G,z,Y,fb,E⟩
  refine A6 ?_ F G
  clear F G ww aa
  rw[Cx] at E
  refine AE (AI (AA O ?_))
  have a6:=an.mono (H.trans Y)
  refine A8 O a6 B6 Do O λfc cl=>BG BY z.1 O cl Gu O λfd cm=>BC O cm Fy O λfe=>BK O (AN (kp [57,10,8,7,4,3,11] O) (AX O E (λcn E=>?_) (λcn E=>?_)))
  ·refine AT (AE (BV (AE (CX (.inl O) z (AD Eo O (AS CL z O mh O Hz O (AA O ?_)))))))
   obtain⟨ff,bj,E⟩:=bd E
   refine Bz O O (bg.mono' (y.trans (H.trans Y))) Fx bj O λfg co=>BG CL z.1 O co CG O λfh cp=>?_
   obtain⟨cq,bk,E⟩:=bd E
   refine DF O O O jT O (λh' o=>Nb (St.all h') (cp.mono' (o.all z.1)) bk) λcr=>?_
   have fi:=cr
   refine AY O (B3 (kp [12,10,8,7,4,3,11] O) λfj C aq=>AI (AA O (A8 O (a6.mono aq) B6 Do O λfk cs=>BG BY C.1 O cs Gu O λfl ct=>AA O ?_)))
   obtain⟨cu,bl,E⟩:=bd E
   refine Bz O O ct Fy bl O λfm cv=>A8 O cv Sn SK O λfn cw=>A9 BY C.1 O cw A7 O λfo=>CP O (AA O ?_)
   obtain⟨cx,j,E⟩:=bd E
   refine AW 7 81 (.bool cx) ?_ ?_
   ·cases a7:(decide (cu.Aj<cq))
    ·have j:=HG a7 j
     refine AB O (AA O (AB O (AA O (AB O (AA O (AB O ?_))))))
     obtain⟨fp,bm,j⟩:=bd j
     refine BU C (mt mh) O O CA bm O λfq bn=>AB O ?_
     obtain⟨fr,bo,j⟩:=bd j
     have cy:=C.epAt (mt mh) bo GM.id bn
     refine A9 BY (λ_ x=>x) O cy A7 O λfs=>AB O (CP O (AL O ?_))
     cases j
     exact AV O
    have j:=HE a7 j
    cases j
    exact A3 O O
   refine AN (kp [81,10,8,7,4,3,11] O) (AX O E (λcz E=>?_) (λcz E=>?_))
   ·refine AI (AM O (kp [6] O) (A5 (λaa ww F G=>?_)))
    have bp:=C.sel [] 2 O
    cases E
    exact Ee F G O O (e5.trans (ah.trans (ai.trans (ac.trans (ad.trans (aj.trans (ae.trans (y.trans (H.trans (Y.trans aq)))))))))) ⟨O,bp⟩
   refine AT (B5 (CN (.inl O) (AA O (BB O (AM O (kp [11,10,8,7,4,3] O) (WF.nil (λaa ww F G=>?_)))))))
   exact⟨(B0 (X+1)),_,_,F.sub (kp [10,8,7,4,3,11] O),G,C,(Y.trans aq),(B1 _),E⟩
  refine By O (λaa ww F G=>?_)
  have bq:=z.sel [] 2 O
  exact⟨_,_,F.sub (kp [7,4,3] O),G,bq,Y,E⟩
 rintro aa ww ⟨Q,af,F,G,c,ag,E⟩
 refine A6 ?_ F G
 clear F G ww aa
 rw[E2] at E
 refine AE ?_
 obtain⟨c0,k,E⟩:=bd E
 refine HN (λa w=>IV B Q af (91,[]) a w [(6,.bool c0)] (L) λ_ _=>True) ?_ ?_
 ·rcases YP K with d|d
  ·have k:=HG d k
   have c1:=mZ k
   subst c1
   refine MV (m:=[(7,.bool K),(4,q8),(3,q1)]) 10 (λi v hh=>match i with|0=>v= .bool K|1=>v= .bool K|2=>v=undef|3=>v=undef|4=>v=undef|5=>v=undef|6=>v=undef|7=>v=undef|8=>v= .bool false|9=>v= .bool false|_=>False) [[],[(0,82)],[(1,83)],[(1,83)],[(1,83)],[(1,83)],[(1,83)],[(1,83)],[(1,83),(7,89)],[(8,90)]] [(9,6)] mo (by kernel_rfl) [7,4,3] O (by kernel_rfl) (by kernel_rfl) (by kernel_rfl) (kp [7,4,3] O) (λi v h1 h2 o1 o2 u=>?_) ?_ ?_
   ·match i,u with
     |0,u|1,u|2,u|3,u|4,u|5,u|6,u|7,u|8,u|9,u=>exact u
     |_+10,u=>exact u.elim
   ·exact BP.cons O (λ_ _ _=>AF 1 (AA O (AO O))) (BP.cons O (λ_ _ _ _ c2=>by cases c2;exact AF 1 (AA O (AO O))) (BP.cons O (λ_ _ _ c3 c4=>by obtain rfl:c3= .bool false:=pC c4 (nF Value.bool d);exact ⟨83,O,.inr ⟨_,O,(by simp [yb,undef]),O⟩⟩) (BP.cons O (λ_ _ _ c5 c6=>by obtain rfl:c5= .bool false:=pC c6 (nF Value.bool d);exact ⟨83,O,.inr ⟨_,O,(by simp [yb,undef]),O⟩⟩) (BP.cons O (λ_ _ _ c7 c8=>by obtain rfl:c7= .bool false:=pC c8 (nF Value.bool d);exact ⟨83,O,.inr ⟨_,O,(by simp [yb,undef]),O⟩⟩) (BP.cons O (λ_ _ _ c9 da=>by obtain rfl:c9= .bool false:=pC da (nF Value.bool d);exact ⟨83,O,.inr ⟨_,O,(by simp [yb,undef]),O⟩⟩) (BP.cons O (λ_ _ _ db dc=>by obtain rfl:db= .bool false:=pC dc (nF Value.bool d);exact ⟨83,O,.inr ⟨_,O,(by simp [yb,undef]),O⟩⟩) (BP.cons O (λ_ _ _ dd de=>by obtain rfl:dd= .bool false:=pC de (nF Value.bool d);exact ⟨83,O,.inr ⟨_,O,(by simp [yb,undef]),O⟩⟩) (BP.cons O (λ_ _ _=>by intro df dg ft dh;obtain rfl:df= .bool false:=pC dg (nF Value.bool d);cases dh;exact AF 1 (AL O (AO O))) (BP.cons O (λ_ _ _ _ di=>by cases di;exact AF 1 (AY O (AO O))) trivial)))))))))
   intro fu a8 fv dj
   have br:=SN.st c a8
   cases dj
   exact AZ (kp [6] O) (WF.nil (λaa ww F G=>⟨_,_,F.sub (kp [6] O),G,br,(SN.ext c.1 a8),trivial⟩))
  have k:=HE d k
  obtain⟨a9,bs,k⟩:=bd k
  obtain⟨ar,bt,k⟩:=bd k
  have dk:=mZ k
  subst dk
  refine MV (m:=[(7,.bool K),(4,q8),(3,q1)]) 10 (λi v hh=>match i with|0=>v= .bool K|1=>v= .bool K|2=>Rd Q hh CZ v t|3=>Rd Q hh CZ v t|4=>Pt Q hh AJ v s.B|5=>v=vI s.B∧AH s.B|6=>Rd (SN Q af hh) hh C3 v a9|7=>v= .bool ar|8=>v= .bool ar|9=>v= .bool ar|_=>False) [[],[(0,82)],[(1,83)],[(1,83)],[(1,83)],[(4,86),(1,83)],[(3,85),(5,87),(1,83)],[(2,84),(6,88),(1,83)],[(1,83),(7,89)],[(8,90)]] [(9,6)] mo (by kernel_rfl) [7,4,3] O (by kernel_rfl) (by kernel_rfl) (by kernel_rfl) (kp [7,4,3] O) (λi v h1 h2 o1 o2 u=>?_) ?_ ?_
  ·match i,u with
    |0,u|1,u|5,u|7,u|8,u|9,u=>exact u
    |2,u|3,u=>exact Rd.mono u (o2.ext λb hb=>nH (c.1 b hb) o1.siz)
    |4,u=>exact N3.mono u (o2.ext λb hb=>nH (c.1 b hb) o1.siz)
    |6,u=>exact Rd.mono u (SN.mono c.1 o1 o2)
    |_+10,u=>exact u.elim
  ·refine BP.cons O (λ_ _ _=>AF 1 (AA O (AO O))) (BP.cons O (λ_ _ _ _ dl=>by cases dl;exact AF 1 (AA O (AO O))) ?_)
   refine BP.cons O ?_ ?_
   ·intro mq hh o
    intro dm dn
    have I:=o.st c
    obtain rfl:dm= .bool true:=pC dn (nF Value.bool d)
    refine⟨83,O,.inl ⟨O,?_⟩⟩
    exact AF 1 (Ci BY I.1 O (an.mono (H.trans (ag.trans (o.ext c.1)))) HS (λe=>by cases e) O λfw dp=>AO dp)
   refine BP.cons O ?_ ?_
   ·intro mq hh o
    intro dq dr
    have I:=o.st c
    obtain rfl:dq= .bool true:=pC dr (nF Value.bool d)
    refine⟨83,O,.inl ⟨O,?_⟩⟩
    exact AF 1 (Ci BY I.1 O (an.mono (H.trans (ag.trans (o.ext c.1)))) HS (λe=>by cases e) O λfx ds=>AO ds)
   refine BP.cons O ?_ ?_
   ·intro mq hh o
    intro dt du
    have I:=o.st c
    obtain rfl:dt= .bool true:=pC du (nF Value.bool d)
    refine⟨83,O,.inl ⟨O,?_⟩⟩
    exact AF 1 (A8 O (be.mono (aj.trans (ae.trans (y.trans (H.trans (ag.trans (o.ext c.1))))))) BD.f_Hour H0 O λfy dv=>AO dv)
   refine BP.cons O ?_ ?_
   ·intro mq hh o
    intro dw au dx dy
    have I:=o.st c
    have au:Pt _ _ AJ dw s.B:=au
    obtain rfl:dx= .bool true:=pC dy (nF Value.bool d)
    refine⟨83,O,.inl ⟨O,?_⟩⟩
    exact AF 1 (A9 BY I.1 O au A7 O λdz=>AO ⟨O,dz⟩)
   refine BP.cons O ?_ ?_
   ·intro mq hh o
    intro d0 Z f0 d1 d2 d3
    have I:=SN.st c o
    have Z:=Rd.mono (S':=(SN Q af hh)) Z ⟨λb hb=> .inl hb,λ_ _=>rfl,nJ _⟩
    have Z:Rd _ _ CZ d0 t:=Z
    obtain⟨rfl,d4⟩:=d1
    obtain rfl:d2= .bool true:=pC d3 (nF Value.bool d)
    refine⟨83,O,.inl ⟨O,?_⟩⟩
    have ev:=I.fz
    refine DU O O O aW O (Mm ev Z d4 bs) λf1 f2 f3 d5 p=>?_
    obtain⟨d6,bu⟩:=p
    have av:=Fz.done o d5 bu
    exact DV av.1 (Rd.mono d6 av.2)
   refine BP.cons O ?_ ?_
   ·intro mq hh o
    intro d7 ab d8 aw d9 ea
    have I:=SN.st c o
    have ab:=Rd.mono (S':=(SN Q af hh)) ab ⟨λb hb=> .inl hb,λ_ _=>rfl,nJ _⟩
    have ab:Rd _ _ CZ d7 t:=ab
    have aw:Rd _ _ C3 d8 a9:=aw
    obtain rfl:d9= .bool true:=pC ea (nF Value.bool d)
    refine⟨83,O,.inl ⟨O,?_⟩⟩
    refine CJ O O O Ty O I (I7 (St.all _) (ab.mono ⟨λb hb=>I.1 b hb,λ_ _=>rfl,nJ _⟩) (aw.mono ⟨λb hb=>I.1 b hb,λ_ _=>rfl,nJ _⟩) bt) λf4 f5 f6 ew f7 ba p=>?_
    obtain⟨rfl,ey⟩:=p
    exact DV ⟨ba.siz,λb hb=>ba.same b hb⟩ O
   exact BP.cons O (λ_ _ _=>by intro eb ec f8 ed;obtain rfl:eb= .bool true:=pC ec (nF Value.bool d);cases ed;exact AF 1 (AL O (AO O))) (BP.cons O (λ_ _ _ _ ee=>by cases ee;exact AF 1 (AY O (AO O))) trivial)
  intro f9 bb ga ef
  have bv:=SN.st c bb
  cases ef
  exact AZ (kp [6] O) (WF.nil (λaa ww F G=>⟨_,_,F.sub (kp [6] O),G,bv,(SN.ext c.1 bb),trivial⟩))
 rintro aa ww ⟨gb,gc,F,G,bw,eg,_⟩
 refine A6 ?_ F G
 clear F G ww aa
 refine A5 (λaa ww F G=>?_)
 cases E
 exact Ee F G O O (e5.trans (ah.trans (ai.trans (ac.trans (ad.trans (aj.trans (ae.trans (y.trans (H.trans (ag.trans eg)))))))))) ⟨O,bw⟩
end Go.Proofs.YtblcgjadhemlbaaGreat
