import Derived.Test.YtblcgjadhemlbaaGreatVWalk6
namespace Go.Proofs.YtblcgjadhemlbaaGreat
set_option linter.all false
open Go.RowKit
open Go.Proofs.Tryz
set_option maxRecDepth 10000
set_option maxHeartbeats 2000000
variable {N:Nat}{S:Nat→Prop}{L:List HP}{h:BL}
def SB (hs:St S L h) {d:Value}{u:BQ}(m:Rd S h Ce d u) {g:Value}{b:BH}(o:Rd S h Bu g b) {c:Int}(i:AH c) {r:BH}(E:Ih N u b c=some r):
 C5 prog 22 #[d,g,vI c] S h (λv S' h'=>v= .agg #[vI r.V,vI r.W,.bool r.Aw,.bool r.Al]∧BH.ok r∧St S' (L) h'):=by
 refine Bv (l:=[d,g,vI c]) 16 func22 O ntmps22 O λB=>?_
 rw[Ih] at E
 refine WF.sl (Cm O m (λe=>by cases e) O hs λq1 S2 h3 Z e5 k6=>?_)
 obtain⟨rfl,⟨r9,ab⟩⟩:=Bu.ex (o.mono e5)
 refine QZ O O O Z λA ao C D=>Di Sv O C λF G j H=>AZ (kp [6,4,3,2] O) (AE (AI ?_))
 have I:=k6.mono (D.trans H)
 refine A8 O I Ep Jr O λap ac=>A9 BY j.1 O ac A7 O λaq=>CW O (AN (kp [9,6,4,3,2] O) (HN (λa w=>∃(k:Int),IV B S2 G (16,[]) a w [(6,vP F 0),(4,vP A 0)] (Bx F 69 [vI 0,vI 0,.bool false,.bool false]::Bx A 69 [vI b.V,vI k,.bool b.Aw,.bool b.Al]::L) λ_ _=>AH k∧KR N b k=some r) ?_ ?_))
 ·refine AX O E (λad E=>?_) (λad E=>?_)
  ·refine FO (AF 3 (AA O (A8 O I Ep Jr O λar ae=>A9 BY j.1 O ae A7 O λaf=>AG ?_)))
   obtain⟨z,J,E⟩:=bd E
   refine CJ O O O VY O j (Jd (St.all _) i (iq (n:=0) O) af J) λau av aw K ag ax p=>?_
   obtain⟨rfl,ah,an⟩:=p
   refine AF 1 (AD Pk O (AG (Il (vs:=[vI z]) (cs':=[vI b.V,vI z,.bool b.Aw,.bool b.Al]) O O O O A7 O K (.tail .head) O O λay M ai=>AZ (kp [6,4] O) (WF.nil (λX Y s t=>?_)))))
   exact⟨z,_,_,s.sub (kp [6,4] O),t,M,(ag.trans ai),ah,E⟩
  refine AT (WF.nil (λX Y s t=>?_))
  exact⟨b.W,_,_,s.sub (kp [6,4] O),t,j,(Cv.refl S2 G),ab,E⟩
 rintro X Y ⟨k,az,a0,s,t,x,aj,ak,E⟩
 refine A6 ?_ s t
 clear s t Y X
 rw[KR] at E
 refine WF.sl (AF 1 (EH (vs:=[vI b.V,vI k,.bool b.Aw,.bool b.Al]) BY x O (mt mh) O O He O O (AG (EW (vs:=[vI b.V,vI k,.bool b.Aw,.bool b.Al]) O O O O He O x .head O λa1 Q am=>AZ (kp [6] O) (A5 (λX Y s t=>?_))))))
 have y:=Q.drop (.tail .head)
 have U:=y.drop .head
 cases E
 exact Kn s O t (Ix (Yi s t y O mh He O) Km) O (e5.trans (D.trans (H.trans (aj.trans am)))) ⟨O,⟨r9,ak⟩,U⟩
def JV (j:St S L h) {b:Int}(g:AH b) {a:Int}(i:AH a) {r:Int}(E:Gb N b a=some r):
 C5 prog 46 #[vI b,vI a] S h (λv S' h'=>v=vI r∧AH r∧St S' (L) h'):=by
 refine Bv (l:=[vI b,vI a]) 24 func46 O ntmps46 O λB=>?_
 rw[Gb] at E
 refine AI (AM O (kp [0,1] O) (AE (AI (AA O (BK O (AA O (AW 5 12 (.bool ((decide (a<0))&&(decide ((B0 (9223372036854775807+a))<b)))) ?_ ?_)))))))
 ·cases q:(decide (a<0))
  ·exact A3 O O
  exact AB O (AA O (AB O (AA O (AB O (BB O (AB O (CP O (AL O (AV O)))))))))
 refine AN (kp [12,0,1] O) (AX O E (λo E=>?_) (λo E=>?_))
 ·refine AI (AM O (kp [4] O) (A5 (λk m c d=>?_)))
  cases E
  exact Ee c d O O (Cv.refl S h) ⟨O,(iq (n:=9223372036854775807) O),j⟩
 refine AT (AE (AI (AA O (CP O (AA O (AW 5 20 (.bool ((decide (0<a))&&(decide (b<(B0 ((-9223372036854775808)+a)))))) ?_ ?_))))))
 ·cases s:(decide (0<a))
  ·exact A3 O O
  exact AB O (AA O (AB O (AA O (AB O (BB O (AB O (BK O (AL O (AV O)))))))))
 refine AN (kp [20,0,1] O) (AX O E (λp E=>?_) (λp E=>?_))
 ·refine AI (AM O (kp [4] O) (A5 (λk m c d=>?_)))
  cases E
  exact Ee c d O O (Cv.refl S h) ⟨O,(iq (n:=(-9223372036854775808)) O),j⟩
 refine AT (AI (AA O (AA O (Dk O (AM O (kp [4] O) (A5 (λk m c d=>?_)))))))
 cases E
 exact Ee c d O O (Cv.refl S h) ⟨O,(B1 _),j⟩
def Qw (hs:St S L h) {c:Value}{k:BQ}(g:Rd S h Ce c k) {d:Value}{a:BH}(i:Rd S h Bu d a) {r:BH}(E:HV N k a=some r):
 C5 prog 24 #[c,d] S h (λv S' h'=>v= .agg #[vI r.V,vI r.W,.bool r.Aw,.bool r.Al]∧BH.ok r∧St S' (L) h'):=by
 refine Bv (l:=[c,d]) 26 func24 O ntmps24 O λB=>?_
 rw[HV] at E
 refine WF.sl (Cm O g (λe=>by cases e) O hs λq1 S2 h3 X Y k6=>?_)
 obtain⟨rfl,⟨Z,w⟩⟩:=Bu.ex (i.mono Y)
 refine QZ O O O X λaw ax z x=>Di Sv O z λay az b y=>AZ (kp [4,3,2] O) (AE (AI (AD SE O (AS BY b O (mt mh) O PH O (AN (kp [7,4,3,2] O) (AX O E (λab E=>?_) (λab E=>?_)))))))
 ·refine WF.sl (AF 1 (EH (vs:=[vI a.V,vI a.W,.bool a.Aw,.bool a.Al]) BY b O (mt mh) O O He O O (AG (EW (vs:=[vI a.V,vI a.W,.bool a.Aw,.bool a.Al]) O O O O He O b .head O λa0 A ac=>AZ (kp [4] O) (A5 (λaa ww C D=>?_))))))
  have m:=A.drop (.tail .head)
  have F:=m.drop .head
  cases E
  exact Kn C O D (Ix (Yi C D m O mh He O) Km) O (Y.trans (x.trans (y.trans ac))) ⟨O,⟨Z,w⟩,F⟩
 refine AT (AE (CX (.inr ⟨mo,by kernel_rfl⟩) b (AD Pk O (AS CL b O (mt mh) O A7 O (AD NM O (AS CL b O (mt mh) O A7 O ?_))))))
 obtain⟨a1,G,E⟩:=bd E
 refine DF O O O Tw O (λh' o=>JV (St.all h') w Z G) λad=>?_
 have ae:=ad
 have H:=k6.mono (x.trans y)
 refine A8 O H JX ON O λa2 af=>A9 CL b.1 O af A7 O λag=>?_
 obtain⟨a3,I,E⟩:=bd E
 refine DF O O O Tw O (λh' o=>JV (St.all h') (iq (n:=0) O) ag I) λah=>?_
 have ai:=ah
 refine A8 O H JX ON O λa4 aj=>A9 CL b.1 O aj A7 O λak=>?_
 obtain⟨a5,J,E⟩:=bd E
 refine DF O O O VY O (λh' o=>Jd (St.all h') ae ai ak J) λam=>?_
 have an:=am
 refine AY O (B3 (kp [5,4,3] O) λa6 s ao=>WF.sl (AF 3 (AD NM O (AS BY s O (mt mh) O A7 O (AA O (AG ?_))))))
 obtain⟨j,K,E⟩:=bd E
 refine CJ O O O Rb O s (Iy (St.all _) Z an K) λa7 a8 a9 M ap ba p=>?_
 obtain⟨rfl,aq,av⟩:=p
 refine AF 1 (AD NM O (AG (Il (vs:=[vI j]) (cs':=[vI j,vI a.W,.bool a.Aw,.bool a.Al]) O O O O A7 O M (.tail .head) O O λbb t ar=>AZ (kp [4,3] O) (WF.sl (AF 1 (EH (vs:=[vI j,vI a.W,.bool a.Aw,.bool a.Al]) BY t O (mt mh) O O He O O (AG (EW (vs:=[vI j,vI a.W,.bool a.Aw,.bool a.Al]) O O O O He O t .head O λbc Q au=>AZ (kp [4] O) (A5 (λaa ww C D=>?_))))))))))
 have u:=Q.drop (.tail .head)
 have U:=u.drop .head
 cases E
 exact Kn C O D (Ix (Yi C D u O mh He O) Km) O (Y.trans (x.trans (y.trans (ao.trans (ap.trans (ar.trans au)))))) ⟨O,⟨aq,w⟩,U⟩
def NW {V:Nat}{p0_w:A4}{ae:Value}{af:Value}{ad:Value}{ag:Value}{ah:Value}{ai:Value}{aj:Value}{ak:Value}{X:Value}{y:Value}{z:Value}{Y:Value}{ab:Value}{c:Value}{d:Value}{ac:Value}{u:Value}{g:Value}{j:Value}{k:Value}{m:Value}{p:Value}(hs:St S (Bx V 84 [.string p0_w.b.F,ae,vI p0_w.b.R,af,ad,ag,ah,ai,aj,ak,vI p0_w.b.U,X,y,z,Y,ab,vI p0_w.s.B,c,d,ac,u,g,j,k,m,p]::OO AJ 3 29 c p0_w.s.G::OS AJ 3 d p0_w.s.M::OS Bu 69 u p0_w.s.Q::OS AJ 3 g p0_w.s.O::OS AJ 3 j p0_w.s.P::OS CF 50 k p0_w.moves::OS AJ 3 m p0_w.peaks::OS BI 60 p p0_w.sent::L) h) (c1:p0_w.b.F.size≤maxLen) (c2:Sl S h BW.str ae p0_w.b.H) (c3:AH p0_w.b.R) (c4:Sl S h Cd af p0_w.b.A) (ap:Sl S h Ce ad p0_w.b.E) (c5:Sl S h HB ag p0_w.b.Ag) (c6:Sl S h FL ah p0_w.b.Aq) (c7:Sl S h G2 ai p0_w.b.At) (c8:Sl S h Dh aj p0_w.b.Av) (c9:Sl S h AJ ak p0_w.b.Au) (b0:AH p0_w.b.U) (b2:Sl S h AJ X p0_w.in_.Aa) (aq:Sl S h GL y p0_w.in_.Am) (aw:Sl S h JE z p0_w.in_.Ar) (b3:Sl S h GV Y p0_w.in_.Ae) (b4:Sl S h HC ab p0_w.in_.Az) (b5:AH p0_w.s.B) (b6:Sl S h BI ac p0_w.s.J) {r:(List BH)}(E:GR N p0_w=some r):
 C5 prog 30 #[vP V 0] S h (λv S' h'=>∃a1:Value,v= .tuple #[]∧St S' (Bx V 84 [.string p0_w.b.F,ae,vI p0_w.b.R,af,ad,ag,ah,ai,aj,ak,vI p0_w.b.U,X,y,z,Y,ab,vI p0_w.s.B,c,d,ac,a1,g,j,k,m,p]::OO AJ 3 29 c p0_w.s.G::OS AJ 3 d p0_w.s.M::OS Bu 69 a1 r::OS AJ 3 g p0_w.s.O::OS AJ 3 j p0_w.s.P::OS CF 50 k p0_w.moves::OS AJ 3 m p0_w.peaks::OS BI 60 p p0_w.sent::L) h'):=by
 refine Bv (l:=[vP V 0]) 135 func30 O ntmps30 O λB=>?_
 rw[GR] at E
 refine AE (AI (AA O (C7 O O (AD NL O (AD VS O (AS BY hs O mh O Z3 O (BC O aq W0 O λb1=>AA O (AN (kp [14,13,12,0] O) (BF (λa w=>∃(l2:List BH),IV B S h (135,[]) a w [(0,vP V 0)] (Bx V 84 [.string p0_w.b.F,ae,vI p0_w.b.R,af,ad,ag,ah,ai,aj,ak,vI p0_w.b.U,X,y,z,Y,ab,vI p0_w.s.B,c,d,ac,u,g,j,k,m,p]::OO AJ 3 29 c p0_w.s.G::OS AJ 3 d p0_w.s.M::OS Bu 69 u l2::OS AJ 3 g p0_w.s.O::OS AJ 3 j p0_w.s.P::OS CF 50 k p0_w.moves::OS AJ 3 m p0_w.peaks::OS BI 60 p p0_w.sent::L) λ_ _=>C9 N p0_w l2=some r) ?_ ?_)))))))))
 ·refine BT (λn1=>λa w=>∃(i6:Int) (l8:List BH),IV B S h (135,[]) a w [(13,vI (↑p0_w.in_.Am.length:Int)),(12,y),(0,vP V 0),(14,vI i6)] (Bx V 84 [.string p0_w.b.F,ae,vI p0_w.b.R,af,ad,ag,ah,ai,aj,ak,vI p0_w.b.U,X,y,z,Y,ab,vI p0_w.s.B,c,d,ac,u,g,j,k,m,p]::OO AJ 3 29 c p0_w.s.G::OS AJ 3 d p0_w.s.M::OS Bu 69 u l8::OS AJ 3 g p0_w.s.O::OS AJ 3 j p0_w.s.P::OS CF 50 k p0_w.moves::OS AJ 3 m p0_w.peaks::OS BI 60 p p0_w.sent::L) λ_ _=>AH i6∧Cp N p0_w (C9 N p0_w) n1 i6 l8=some r) N ?_ ?_ ?_
  ·intro aa ww hf hw
   exact⟨0,p0_w.s.Q,_,_,hf.sub (kp [13,12,0,14] O),hw,hs,(Cv.refl S h),(iq (n:=0) O),E⟩
  ·rintro aa ww ⟨_,_,_,_,_,_,_,_,_,E⟩
   rw[Cp] at E;cases E
  rintro n1 aa ww ⟨i6,l8,S9,e1,hf,hw,a4,a5,r7,E⟩
  refine A6 ?_ hf hw
  clear hf hw ww aa
  rw[Cp] at E
  refine AI (BK O (AN (kp [15,13,12,0,14] O) (AE (AX O E (λe2 E=>?_) (λe2 E=>?_)))))
  ·refine AT (AE (BF (λa w=>∃(bi:List BH),IV B S9 e1 (135,[]) a w [(13,vI (↑p0_w.in_.Am.length:Int)),(12,y),(0,vP V 0),(14,vI i6)] (Bx V 84 [.string p0_w.b.F,ae,vI p0_w.b.R,af,ad,ag,ah,ai,aj,ak,vI p0_w.b.U,X,y,z,Y,ab,vI p0_w.s.B,c,d,ac,u,g,j,k,m,p]::OO AJ 3 29 c p0_w.s.G::OS AJ 3 d p0_w.s.M::OS Bu 69 u bi::OS AJ 3 g p0_w.s.O::OS AJ 3 j p0_w.s.P::OS CF 50 k p0_w.moves::OS AJ 3 m p0_w.peaks::OS BI 60 p p0_w.sent::L) λ_ _=>F9 N i6 (Cp N p0_w (C9 N p0_w) n1) bi=some r) ?_ ?_))
   ·refine WF.sl (AF 2 ?_)
    obtain⟨bj,da,E⟩:=bd E
    refine Bz O O (aq.mono' a5) W0 da O λgq e3=>Ci BY a4.1 O e3 Zz (λe=>by cases e) O λgr e4=>AG (Di eN O a4 λgs gt db a6=>?_)
    obtain⟨rfl,⟨e5,e6⟩⟩:=GL.ex (e4.mono a6)
    refine EW (vs:=[vI bj.C,vI bj.Ay]) O O O O Zz O db .head O λgu a7 bk=>AZ (kp [3,13,12,0,14] O) (AE (CX (.inr ⟨mo,by kernel_rfl⟩) a7 (AD Pj O (AS CL a7 O mh O A7 O (AA O (C7 O O (AD G4 O (AD H1 O (AS CL a7 O (mt mh) O KY O (BC O (ap.mono' (a5.trans (a6.trans bk))) Io O λe7=>?_))))))))))
    obtain⟨gv,dc,E⟩:=bd E
    refine BR O O O PC O (λh' o=>Gv (St.all h') e6 (J9 e7) dc) (B3 (kp [26,3,13,12,0,14] O) λgw an b7=>AX O E (λe8 E=>?_) (λe8 E=>?_))
    ·refine Lk 29 mo (by kernel_rfl) O an (AA O (C7 O O (AD DI O (AD Ie O (AS CL an O (mt mh) O K9 O (AD Pj O (AS CL an O mh O A7 O (AA O (C7 O O (AD G4 O (AD H1 O (AS CL an O (mt mh) O KY O (AD Pj O (AS CL an O mh O A7 O ?_))))))))))))))
     obtain⟨gx,dd,E⟩:=bd E
     refine Bz O O (ap.mono' (a5.trans (a6.trans (bk.trans b7)))) Io dd O λgy e9=>Ci CL an.1 O e9 IJ (λe=>by cases e) O λgz fa=>AA O (C7 O O (AD DI O (AD Ie O (AS CL an O (mt mh) O K9 O (AD Pj O (AS CL an O mh O A7 O ?_))))))
     obtain⟨g0,de,E⟩:=bd E
     refine BU an (mt (mt (mt (mt mh)))) O O Ks de O λg1 df=>?_
     obtain⟨g2,dg,E⟩:=bd E
     have fb:=an.epAt (mt (mt (mt (mt mh)))) dg GM.id df
     refine Ci CL (λ_ x=>x) O fb He (λe=>by cases e) O λg3 fc=>AD ZJ O (AS CL an O mh O A7 O ?_)
     obtain⟨dh,di,E⟩:=bd E
     refine DF O O O jS O (λh' o=>QI (St.all h') (fa.mono (o.all an.1)) (fc.mono (o.all an.1)) e5 di) λfd=>?_
     obtain⟨fe,ff⟩:=fd
     obtain⟨g4,dj,E⟩:=bd E
     refine BU an (mt (mt (mt (mt mh)))) O O Ks dj O λg5 dk=>KT λg6 dl fg=>?_
     obtain⟨fh,dm,E⟩:=bd E
     refine Fm (r:=Bu) (l:=l8) (i:=bj.Ay) (x:=fh) O O (Bu.mk (x:=dh) ⟨fe,ff⟩) dk dm ML.id He (λe=>by cases e) dl (.tail (.tail (.tail (.tail .head)))) λg7 dn fi=>AZ (kp [13,12,0,14] O) (WF.nil (λaa ww hf hw=>?_))
     have dp:=dn.sel [1,1,1,1,1,1,1,1,1] 1 O
     exact⟨(upd l8 bj.Ay dh),_,_,hf.sub (kp [13,12,0,14] O),hw,dp,(a6.trans (bk.trans (b7.trans (fg.trans fi)))),E⟩
    refine AT (WF.nil (λaa ww hf hw=>?_))
    have dq:=an.sel [1,1,1,1,1,1,1,1,1] 1 O
    exact⟨l8,_,_,hf.sub (kp [13,12,0,14] O),hw,dq,(a6.trans (bk.trans b7)),E⟩
   rintro aa ww ⟨bi,g8,g9,hf,hw,dr,fj,E⟩
   refine A6 ?_ hf hw
   clear hf hw ww aa
   rw[F9] at E
   refine CN (.inl O) (BB O (AA O (AN (kp [14,13,12,0] O) (WF.nil (λaa ww hf hw=>?_)))))
   exact⟨(B0 (i6+1)),bi,_,_,hf.sub (kp [13,12,0,14] O),hw,dr,(a5.trans fj),(B1 _),E⟩
  refine By O (λaa ww hf hw=>?_)
  exact⟨l8,_,_,hf.sub (kp [0] O),hw,a4,a5,E⟩
 rintro aa ww ⟨l2,b8,b9,hf,hw,bo,a8,E⟩
 refine A6 ?_ hf hw
 clear hf hw ww aa
 rw[C9] at E
 refine AE (AI (AA O (C7 O O (AD NL O (AD VR O (AS BY bo O mh O Z2 O ?_))))))
 have ds:=aw.mono' a8
 refine BC O ds Wz O λha=>AA O (AN (kp [63,62,61,0] O) (BF (λa w=>∃(bl:List BH),IV B b8 b9 (135,[]) a w [(0,vP V 0)] (Bx V 84 [.string p0_w.b.F,ae,vI p0_w.b.R,af,ad,ag,ah,ai,aj,ak,vI p0_w.b.U,X,y,z,Y,ab,vI p0_w.s.B,c,d,ac,u,g,j,k,m,p]::OO AJ 3 29 c p0_w.s.G::OS AJ 3 d p0_w.s.M::OS Bu 69 u bl::OS AJ 3 g p0_w.s.O::OS AJ 3 j p0_w.s.P::OS CF 50 k p0_w.moves::OS AJ 3 m p0_w.peaks::OS BI 60 p p0_w.sent::L) λ_ _=>C8 N p0_w bl=some r) ?_ ?_))
 ·refine BT (λn4=>λa w=>∃(ax:Int) (ay:List BH),IV B b8 b9 (135,[]) a w [(62,vI (↑p0_w.in_.Ar.length:Int)),(61,z),(0,vP V 0),(63,vI ax)] (Bx V 84 [.string p0_w.b.F,ae,vI p0_w.b.R,af,ad,ag,ah,ai,aj,ak,vI p0_w.b.U,X,y,z,Y,ab,vI p0_w.s.B,c,d,ac,u,g,j,k,m,p]::OO AJ 3 29 c p0_w.s.G::OS AJ 3 d p0_w.s.M::OS Bu 69 u ay::OS AJ 3 g p0_w.s.O::OS AJ 3 j p0_w.s.P::OS CF 50 k p0_w.moves::OS AJ 3 m p0_w.peaks::OS BI 60 p p0_w.sent::L) λ_ _=>AH ax∧Co N p0_w (C8 N p0_w) n4 ax ay=some r) N ?_ ?_ ?_
  ·intro aa ww hf hw
   exact⟨0,l2,_,_,hf.sub (kp [62,61,0,63] O),hw,bo,(Cv.refl b8 b9),(iq (n:=0) O),E⟩
  ·rintro aa ww ⟨_,_,_,_,_,_,_,_,_,E⟩
   rw[Co] at E;cases E
  rintro n4 aa ww ⟨ax,ay,fk,fl,hf,hw,a9,ba,hb,E⟩
  refine A6 ?_ hf hw
  clear hf hw ww aa
  rw[Co] at E
  refine AI (BK O (AN (kp [64,62,61,0,63] O) (AE (AX O E (λfm E=>?_) (λfm E=>?_)))))
  ·refine AT (AE (BF (λa w=>∃(bm:List BH),IV B fk fl (135,[]) a w [(62,vI (↑p0_w.in_.Ar.length:Int)),(61,z),(0,vP V 0),(63,vI ax)] (Bx V 84 [.string p0_w.b.F,ae,vI p0_w.b.R,af,ad,ag,ah,ai,aj,ak,vI p0_w.b.U,X,y,z,Y,ab,vI p0_w.s.B,c,d,ac,u,g,j,k,m,p]::OO AJ 3 29 c p0_w.s.G::OS AJ 3 d p0_w.s.M::OS Bu 69 u bm::OS AJ 3 g p0_w.s.O::OS AJ 3 j p0_w.s.P::OS CF 50 k p0_w.moves::OS AJ 3 m p0_w.peaks::OS BI 60 p p0_w.sent::L) λ_ _=>F8 N ax (Co N p0_w (C8 N p0_w) n4) bm=some r) ?_ ?_))
   ·refine WF.sl (AF 2 ?_)
    obtain⟨bn,dt,E⟩:=bd E
    refine Bz O O (ds.mono' ba) Wz dt O λhc fn=>Ci BY a9.1 O fn Zy (λe=>by cases e) O λfo du=>AG (Di eM O a9 λfp fq ca au=>?_)
    obtain⟨rfl,⟨dv,dw⟩⟩:=JE.ex (du.mono au)
    refine EW (vs:=[vI bn.Ay,vI bn.W]) O O O O Zy O ca .head O λfr az a2=>AZ (kp [5,62,61,0,63] O) (AE (CX (.inr ⟨mo,by kernel_rfl⟩) az (AD Pi O (AS CL az O mh O A7 O (AA O (C7 O O (AD G4 O (AD H1 O (AS CL az O (mt mh) O KY O (BC O (ap.mono' (a8.trans (ba.trans (au.trans a2)))) Io O λdx=>?_))))))))))
    obtain⟨fs,cb,E⟩:=bd E
    refine BR O O O PC O (λh' o=>Gv (St.all h') dv (J9 dx) cb) (B3 (kp [75,5,62,61,0,63] O) λft am bb=>AX O E (λdy E=>?_) (λdy E=>?_))
    ·refine Lk 29 mo (by kernel_rfl) O am (AA O (C7 O O (AD DI O (AD Ie O (AS CL am O (mt mh) O K9 O (AD Pi O (AS CL am O mh O A7 O (AA O (C7 O O (AD G4 O (AD H1 O (AS CL am O (mt mh) O KY O (AD Pi O (AS CL am O mh O A7 O ?_))))))))))))))
     obtain⟨fu,cc,E⟩:=bd E
     refine Bz O O (ap.mono' (a8.trans (ba.trans (au.trans (a2.trans bb))))) Io cc O λfv dz=>Ci CL am.1 O dz IJ (λe=>by cases e) O λfw d0=>AA O (C7 O O (AD DI O (AD Ie O (AS CL am O (mt mh) O K9 O (AD Pi O (AS CL am O mh O A7 O ?_))))))
     obtain⟨fx,cd,E⟩:=bd E
     refine BU am (mt (mt (mt (mt mh)))) O O Ks cd O λfy ce=>?_
     obtain⟨fz,cf,E⟩:=bd E
     have d1:=am.epAt (mt (mt (mt (mt mh)))) cf GM.id ce
     refine Ci CL (λ_ x=>x) O d1 He (λe=>by cases e) O λf0 d2=>AD ZI O (AS CL am O mh O A7 O ?_)
     obtain⟨bp,cg,E⟩:=bd E
     refine DF O O O jR O (λh' o=>SB (St.all h') (d0.mono (o.all am.1)) (d2.mono (o.all am.1)) dw cg) λd3=>?_
     obtain⟨d4,d5⟩:=d3
     obtain⟨f1,ch,E⟩:=bd E
     refine BU am (mt (mt (mt (mt mh)))) O O Ks ch O λf2 ci=>KT λf3 cj d6=>?_
     obtain⟨d7,ck,E⟩:=bd E
     refine Fm (r:=Bu) (l:=ay) (i:=bn.Ay) (x:=d7) O O (Bu.mk (x:=bp) ⟨d4,d5⟩) ci ck ML.id He (λe=>by cases e) cj (.tail (.tail (.tail (.tail .head)))) λf4 cl d8=>AZ (kp [62,61,0,63] O) (WF.nil (λaa ww hf hw=>?_))
     have cm:=cl.sel [1,1,1,1,1,1,1,1,1] 1 O
     exact⟨(upd ay bn.Ay bp),_,_,hf.sub (kp [62,61,0,63] O),hw,cm,(au.trans (a2.trans (bb.trans (d6.trans d8)))),E⟩
    refine AT (WF.nil (λaa ww hf hw=>?_))
    have cn:=am.sel [1,1,1,1,1,1,1,1,1] 1 O
    exact⟨ay,_,_,hf.sub (kp [62,61,0,63] O),hw,cn,(au.trans (a2.trans bb)),E⟩
   rintro aa ww ⟨bm,f5,f6,hf,hw,co,d9,E⟩
   refine A6 ?_ hf hw
   clear hf hw ww aa
   rw[F8] at E
   refine CN (.inl O) (BB O (AA O (AN (kp [63,62,61,0] O) (WF.nil (λaa ww hf hw=>?_)))))
   exact⟨(B0 (ax+1)),bm,_,_,hf.sub (kp [62,61,0,63] O),hw,co,(ba.trans d9),(B1 _),E⟩
  refine By O (λaa ww hf hw=>?_)
  exact⟨ay,_,_,hf.sub (kp [0] O),hw,a9,ba,E⟩
 rintro aa ww ⟨bl,bq,br,hf,hw,bc,bs,E⟩
 refine A6 ?_ hf hw
 clear hf hw ww aa
 rw[C8] at E
 refine AI (AA O (C7 O O (AD G4 O (AD H1 O (AS BY bc O mh O KY O ?_)))))
 have bt:=ap.mono' (a8.trans bs)
 refine BC O bt Io O λf7=>AA O (AN (kp [112,111,110,0] O) (BV (BT (λn6=>λa w=>∃(ar:Int) (av:List BH),IV B bq br (135,[]) a w [(111,vI (↑p0_w.b.E.length:Int)),(110,ad),(0,vP V 0),(112,vI ar)] (Bx V 84 [.string p0_w.b.F,ae,vI p0_w.b.R,af,ad,ag,ah,ai,aj,ak,vI p0_w.b.U,X,y,z,Y,ab,vI p0_w.s.B,c,d,ac,u,g,j,k,m,p]::OO AJ 3 29 c p0_w.s.G::OS AJ 3 d p0_w.s.M::OS Bu 69 u av::OS AJ 3 g p0_w.s.O::OS AJ 3 j p0_w.s.P::OS CF 50 k p0_w.moves::OS AJ 3 m p0_w.peaks::OS BI 60 p p0_w.sent::L) λ_ _=>AH ar∧DM N p0_w n6 ar av=some r) N ?_ ?_ ?_)))
 ·intro aa ww hf hw
  exact⟨0,bl,_,_,hf.sub (kp [111,110,0,112] O),hw,bc,(Cv.refl bq br),(iq (n:=0) O),E⟩
 ·rintro aa ww ⟨_,_,_,_,_,_,_,_,_,E⟩
  rw[DM] at E;cases E
 rintro n6 aa ww ⟨ar,av,f8,f9,hf,hw,a0,be,ga,E⟩
 refine A6 ?_ hf hw
 clear hf hw ww aa
 rw[DM] at E
 refine AI (BK O (AN (kp [113,111,110,0,112] O) (AE (AX O E (λea E=>?_) (λea E=>?_)))))
 ·refine AT (AE (BV (WF.sl (AF 3 (AA O ?_)))))
  obtain⟨t,cp,E⟩:=bd E
  refine Bz O O (bt.mono' be) Io cp O λgb eb=>Ci BY a0.1 O eb IJ (λe=>by cases e) O λgc ec=>AG (Di O1 O a0 λgd ge cq bu=>AF 1 (AY O (AG ?_)))
  obtain⟨bf,bg,bh,rfl,ed,ee,ef,eg,bv,bw,bx,eh,ei,ej,ek,el,em,en,eo,ep,eq,er⟩:=Ce.ex (ec.mono bu)
  refine IA (vs:=[.string t.F,vI t.C,vI t.I,vI t.D,bf,bg,bh,vI t.T,vI t.Z,vI t.Ao,vI t.Ap,vI t.S,vI t.L,vI t.Ah,vI t.Ai,vI t.Ac,vI t.Ab,vI t.K]) (cs':=[.string t.F,vI t.C,vI t.I,vI t.D,bf,bg,bh,vI t.T,vI t.Z,vI t.Ao,vI t.Ap,vI t.S,vI t.L,vI t.Ah,vI t.Ai,vI t.Ac,vI t.Ab,vI t.K]) O O O (AC O (AC O (AC O (AC O (AC bv.one (AC bw.one (AC bx.one (AC O (AC O (AC O (AC O (AC O (AC O (AC O (AC O (AC O (AC O (AC O FA)))))))))))))))))) IJ O cq .head O O λgf ao a3=>AZ (kp [6,7,111,110,0,112] O) (Lk 17 mo (by kernel_rfl) O ao (AA O (C7 O O (AD DI O (AD Ie O (AS CL ao O (mt mh) O K9 O (AA O (EH (vs:=[.string t.F,vI t.C,vI t.I,vI t.D,bf,bg,bh,vI t.T,vI t.Z,vI t.Ao,vI t.Ap,vI t.S,vI t.L,vI t.Ah,vI t.Ai,vI t.Ac,vI t.Ab,vI t.K]) CL ao O mh O O IJ O O (AA O (C7 O O (AD DI O (AD Ie O (AS CL ao O (mt mh) O K9 O (AA O ?_))))))))))))))
  obtain⟨gg,cr,E⟩:=bd E
  refine BU ao (mt (mt (mt (mt mh)))) O O Ks cr O λgh cs=>?_
  obtain⟨gi,ct,E⟩:=bd E
  have es:=ao.epAt (mt (mt (mt (mt mh)))) ct GM.id cs
  refine Ci CL (λ_ x=>x) O es He (λe=>by cases e) O λgj et=>?_
  obtain⟨bz,cu,E⟩:=bd E
  refine DF O O O jP O (λh' o=>Qw (St.all h') (Ce.mk (x:=t) ed ee ef eg ((bv.mono' a3).mono' (o.all ao.1)) ((bw.mono' a3).mono' (o.all ao.1)) ((bx.mono' a3).mono' (o.all ao.1)) eh ei ej ek el em en eo ep eq er) (et.mono (o.all ao.1)) cu) λeu=>?_
  obtain⟨ev,ew⟩:=eu
  obtain⟨gl,cv,E⟩:=bd E
  refine BU ao (mt (mt (mt (mt mh)))) O O Ks cv O λgm cw=>KT λgn cx ey=>?_
  obtain⟨ez,cy,E⟩:=bd E
  refine Fm (r:=Bu) (l:=av) (i:=ar) (x:=ez) O O (Bu.mk (x:=bz) ⟨ev,ew⟩) cw cy ML.id He (λe=>by cases e) cx (.tail (.tail (.tail (.tail .head)))) λgp cz e0=>AZ (kp [111,110,0,112] O) (B5 (CN (.inl O) (BB O (AA O (AN (kp [112,111,110,0] O) (WF.nil (λaa ww hf hw=>?_)))))))
  have c0:=cz.sel [1,1,1,1,1,1,1,1,1] 1 O
  exact⟨(B0 (ar+1)),(upd av ar bz),_,_,hf.sub (kp [111,110,0,112] O),hw,c0,(be.trans (bu.trans (a3.trans (ey.trans e0)))),(B1 _),E⟩
 refine LN O (WF.nil (λaa ww hf hw=>?_))
 cases E
 exact Kn hf O hw Km O (a8.trans (bs.trans be)) ⟨_,O,a0⟩
def OC (j:St S L h) {b:Value}{g:(List Int)}(c:Sl S h AJ b g) {a:Int}(k:AH a) {r:Int}(E:Ji N g a=some r):
 C5 prog 81 #[b,vI a] S h (λv S' h'=>v=vI r∧AH r∧St S' (L) h'):=by
 refine Bv (l:=[b,vI a]) 24 func81 O ntmps81 O λB=>?_
 rw[Ji] at E
 refine AI (AM O (kp [0,1] O) (AE (AI (AA O (BK O (AA O (AW 5 12 (.bool ((decide (a<0))||(decide ((↑g.length:Int)≤a)))) ?_ ?_)))))))
 ·cases D:(decide (a<0))
  ·exact AB O (AA O (AB O (AA O (AB O (BC O c CA O λF=>AB O (HQ O (AL O (AV O))))))))
  exact A3 O O
 refine AA O ?_
 obtain⟨u,d,E⟩:=bd E
 refine AW 6 19 (.bool u) ?_ ?_
 ·cases t:((decide (a<0))||(decide ((↑g.length:Int)≤a)))
  ·have d:=HG t d
   refine AB O (AA O (AB O (AA O (AB O ?_))))
   obtain⟨G,m,d⟩:=bd d
   refine Bz O O c CA m O λH w=>AB O (A9 BY j.1 O w A7 O λI=>AB O (BK O (AL O ?_)))
   cases d
   exact AV O
  have d:=HE t d
  cases d
  exact A3 O O
 refine AN (kp [19,0,1] O) (AX O E (λx E=>?_) (λx E=>?_))
 ·refine AI (AM O (kp [4] O) (A5 (λy z o p=>?_)))
  cases E
  exact Ee o p O O (Cv.refl S h) ⟨O,(iq (n:=0) O),j⟩
 refine AT (AI (AA O (AA O ?_)))
 obtain⟨A,i,E⟩:=bd E
 refine Bz O O c CA i O λC q=>A9 BY j.1 O q A7 O λs=>AM O (kp [4] O) (A5 (λy z o p=>?_))
 cases E
 exact Ee o p O O (Cv.refl S h) ⟨O,s,j⟩
def Qp (hs:St S L h) {k:Value}{d:(List Int)}(j:Sl S h AJ k d) {c:Int}(s:AH c) {b:Int}(G:AH b) {g:Int}(u:AH g) {r:(List Int)}(E:Kd N d c b g=some r):
 C5 prog 58 #[k,vI c,vI b,vI g] S h (λv S' h'=>St S' (OS AJ 3 v r::L) h'):=by
 refine Bv (l:=[k,vI c,vI b,vI g]) 56 func58 O ntmps58 O λB=>?_
 rw[Kd] at E
 refine AI (AM O (kp [0,1,2,3] O) (WF.sl (AF 2 (AA O (BC O j CA O λb1=>AG ?_)))))
 obtain⟨aj,E⟩:=Mc E
 refine Jk (r:=AJ) (zx:=0) GK O ⟨O,by unfold AH;omega⟩ O O aj O O hs λv3 h4 ak e6=>AF 1 (AY O (AG (AZ (kp [9,0,1,2,3] O) (WF.sl (AF 2 (AA O (AA O (AG (Sm (r:=AJ) (l:=(List.replicate ((↑d.length:Int):Int).toNat (0:Int))) (xs:=d) O O CA (Sl.src (j.mono' e6)) O ak .head λh8 H C=>AZ (kp [9,0,1,2,3] O) (AE (CX (.inl O) H (AA O (AA O (AA O ?_))))))))))))))
 obtain⟨m,I,E⟩:=bd E
 refine DF O O O aO O (λh' o=>OC (St.all h') ((j.mono' (e6.trans C)).mono' (o.all H.1)) s I) λal=>?_
 have am:=al
 refine Sh O O O (AY O (B3 (kp [10,9,0,1,2] O) λJ n K=>AE (AI (AA O (CP O (AA O (AW 3 27 (.bool ((decide (0<(min g m)))&&(decide (0≤b)))) ?_ ?_)))))))
 ·cases a1:(decide (0<(min g m)))
  ·exact A3 O O
  exact AB O (AA O (AB O (HQ O (AL O (AV O)))))
 refine AA O (AW 5 33 (.bool (((decide (0<(min g m)))&&(decide (0≤b)))&&(decide (b<(↑d.length:Int))))) ?_ ?_)
 ·cases a2:((decide (0<(min g m)))&&(decide (0≤b)))
  ·exact A3 O O
  exact AB O (AA O (AB O (AA O (AB O (BC O (j.mono' (e6.trans (C.trans K))) CA O λa3=>AB O (BK O (AL O (AV O))))))))
 refine AA O (AW 4 38 (.bool ((((decide (0<(min g m)))&&(decide (0≤b)))&&(decide (b<(↑d.length:Int))))&&(decide (c≠b)))) ?_ ?_)
 ·cases a4:(((decide (0<(min g m)))&&(decide (0≤b)))&&(decide (b<(↑d.length:Int))))
  ·exact A3 O O
  exact AB O (AA O (AB O (AA O (AB O (CW O (AL O (AV O)))))))
 refine AN (kp [38,10,9,1,2] O) (HN (λa w=>∃(D:List Int),IV B S J (56,[]) a w [(9,v3)] (OS AJ 3 v3 D::L) λ_ _=>Jy N D=some r) ?_ ?_)
 ·refine AX O E (λan E=>?_) (λan E=>?_)
  ·refine WF.sl (AF 7 (AA O (AA O ?_)))
   obtain⟨a5,M,E⟩:=bd E
   refine BU n mh O O CA M O λa6 Q=>?_
   obtain⟨F,U,E⟩:=bd E
   have ao:=n.epAt mh U GM.id Q
   refine A9 BY (λ_ x=>x) O ao A7 O λa7=>AA O (Dk O ?_)
   obtain⟨a8,V,E⟩:=bd E
   refine BU n mh O O CA V O λa9 W=>AG ?_
   obtain⟨ap,X,E⟩:=bd E
   refine Fm (r:=AJ) (l:=(NO (List.replicate ((↑d.length:Int):Int).toNat (0:Int)) d)) (i:=c) (x:=ap) O O (⟨_,O,O,(B1 _)⟩:Rd _ _ AJ _ (B0 (F-(min g m)))) W X ML.id A7 (λ_=>rfl) n .head λba t aq=>AZ (kp [10,9,2] O) (FO (AF 7 (AA O (AA O (AA O (AA O ?_))))))
   obtain⟨bb,Y,E⟩:=bd E
   refine BU t mh O O CA Y O λbc Z=>?_
   obtain⟨be,ab,E⟩:=bd E
   have ar:=t.epAt mh ab GM.id Z
   refine A9 BY (λ_ x=>x) O ar A7 O λau=>AA O (AG ?_)
   obtain⟨ac,ad,E⟩:=bd E
   refine CJ O O O Rb O t (Iy (St.all _) au (Lx u am) ad) λbf bg bh y av bi p=>?_
   obtain⟨rfl,aw,a0⟩:=p
   refine AF 1 ?_
   obtain⟨bj,ae,E⟩:=bd E
   refine BU y mh O O CA ae O λbk af=>AG ?_
   obtain⟨ax,ag,E⟩:=bd E
   refine Fm (r:=AJ) (l:=(upd (NO (List.replicate ((↑d.length:Int):Int).toNat (0:Int)) d) c (B0 (F-(min g m))))) (i:=b) (x:=ax) O O (⟨_,O,O,aw⟩:Rd _ _ AJ _ ac) af ag ML.id A7 (λ_=>rfl) y .head λbl ah ay=>AZ (kp [9] O) (WF.nil (λaa ww z A=>?_))
   exact⟨(upd (upd (NO (List.replicate ((↑d.length:Int):Int).toNat (0:Int)) d) c (B0 (F-(min g m)))) b ac),_,_,z.sub (kp [9] O),A,ah,(aq.trans (av.trans ay)),E⟩
  refine AT (WF.nil (λaa ww z A=>?_))
  exact⟨(NO (List.replicate ((↑d.length:Int):Int).toNat (0:Int)) d),_,_,z.sub (kp [9] O),A,n,(Cv.refl S J),E⟩
 rintro aa ww ⟨D,bm,bn,z,A,ai,az,E⟩
 refine A6 ?_ z A
 clear z A ww aa
 rw[Jy] at E
 refine AI (AA O (AM O (kp [8] O) (A5 (λaa ww z A=>?_))))
 cases E
 exact Ee z A O O (e6.trans (C.trans (K.trans az))) ai
def NV {c:Nat}{p0_w:A4}{af:Value}{ag:Value}{ah:Value}{ai:Value}{aj:Value}{ak:Value}{am:Value}{an:Value}{Z:Value}{ab:Value}{ac:Value}{ad:Value}{t:Value}{g:Value}{u:Value}{ae:Value}{x:Value}{y:Value}{z:Value}{C:Value}{K:Value}{V:Value}(hs:St S (Bx c 84 [.string p0_w.b.F,af,vI p0_w.b.R,ag,ah,ai,aj,ak,am,an,vI p0_w.b.U,Z,ab,ac,ad,t,vI p0_w.s.B,g,u,ae,x,y,z,C,K,V]::OO AJ 3 29 g p0_w.s.G::OS AJ 3 u p0_w.s.M::OS Bu 69 x p0_w.s.Q::OS AJ 3 y p0_w.s.O::OS AJ 3 z p0_w.s.P::OS CF 50 C p0_w.moves::OS AJ 3 K p0_w.peaks::OS BI 60 V p0_w.sent::L) h) (ci:p0_w.b.F.size≤maxLen) (av:Sl S h BW.str af p0_w.b.H) (cj:AH p0_w.b.R) (ax:Sl S h Cd ag p0_w.b.A) (ck:Sl S h Ce ah p0_w.b.E) (cl:Sl S h HB ai p0_w.b.Ag) (cm:Sl S h FL aj p0_w.b.Aq) (cn:Sl S h G2 ak p0_w.b.At) (co:Sl S h Dh am p0_w.b.Av) (cp:Sl S h AJ an p0_w.b.Au) (bp:AH p0_w.b.U) (bq:Sl S h AJ Z p0_w.in_.Aa) (br:Sl S h GL ab p0_w.in_.Am) (bs:Sl S h JE ac p0_w.in_.Ar) (bt:Sl S h GV ad p0_w.in_.Ae) (ar:Sl S h HC t p0_w.in_.Az) (bu:AH p0_w.s.B) (bv:Sl S h BI ae p0_w.s.J) {r:(List (List Int))}(E:FY N p0_w=some r):
 C5 prog 31 #[vP c 0] S h (λv S' h'=>∃aw:Value,v= .tuple #[]∧St S' (Bx c 84 [.string p0_w.b.F,af,vI p0_w.b.R,ag,ah,ai,aj,ak,am,an,vI p0_w.b.U,Z,ab,ac,ad,t,vI p0_w.s.B,aw,u,ae,x,y,z,C,K,V]::OO AJ 3 29 aw r::OS AJ 3 u p0_w.s.M::OS Bu 69 x p0_w.s.Q::OS AJ 3 y p0_w.s.O::OS AJ 3 z p0_w.s.P::OS CF 50 C p0_w.moves::OS AJ 3 K p0_w.peaks::OS BI 60 V p0_w.sent::L) h'):=by
 refine Bv (l:=[vP c 0]) 70 func31 O ntmps31 O λB=>?_
 rw[FY] at E
 refine AI (AA O (C7 O O (AD NL O (AD VP O (AS BY hs O mh O Z0 O (BC O ar Wx O λb1=>AA O (AN (kp [10,9,8,0] O) (BV (BT (λn0=>λa w=>∃(i5:Int) (l7:List (List Int)),IV B S h (70,[]) a w [(9,vI (↑p0_w.in_.Az.length:Int)),(8,t),(0,vP c 0),(10,vI i5)] (Bx c 84 [.string p0_w.b.F,af,vI p0_w.b.R,ag,ah,ai,aj,ak,am,an,vI p0_w.b.U,Z,ab,ac,ad,t,vI p0_w.s.B,g,u,ae,x,y,z,C,K,V]::OO AJ 3 29 g l7::OS AJ 3 u p0_w.s.M::OS Bu 69 x p0_w.s.Q::OS AJ 3 y p0_w.s.O::OS AJ 3 z p0_w.s.P::OS CF 50 C p0_w.moves::OS AJ 3 K p0_w.peaks::OS BI 60 V p0_w.sent::L) λ_ _=>AH i5∧Cn N p0_w n0 i5 l7=some r) N ?_ ?_ ?_)))))))))
 ·intro aa ww hf hw
  exact⟨0,p0_w.s.G,_,_,hf.sub (kp [9,8,0,10] O),hw,hs,(Cv.refl S h),(iq (n:=0) O),E⟩
 ·rintro aa ww ⟨_,_,_,_,_,_,_,_,_,E⟩
  rw[Cn] at E;cases E
 rintro n0 aa ww ⟨i5,l7,S8,h9,hf,hw,a1,ay,r6,E⟩
 refine A6 ?_ hf hw
 clear hf hw ww aa
 rw[Cn] at E
 refine AI (BK O (AN (kp [11,9,8,0,10] O) (AE (AX O E (λdh E=>?_) (λdh E=>?_)))))
 ·refine AT (AE (BF (λa w=>∃(bn:List (List Int)),IV B S8 h9 (70,[]) a w [(9,vI (↑p0_w.in_.Az.length:Int)),(8,t),(0,vP c 0),(10,vI i5)] (Bx c 84 [.string p0_w.b.F,af,vI p0_w.b.R,ag,ah,ai,aj,ak,am,an,vI p0_w.b.U,Z,ab,ac,ad,t,vI p0_w.s.B,g,u,ae,x,y,z,C,K,V]::OO AJ 3 29 g bn::OS AJ 3 u p0_w.s.M::OS Bu 69 x p0_w.s.Q::OS AJ 3 y p0_w.s.O::OS AJ 3 z p0_w.s.P::OS CF 50 C p0_w.moves::OS AJ 3 K p0_w.peaks::OS BI 60 V p0_w.sent::L) λ_ _=>F7 N i5 (Cn N p0_w n0) bn=some r) ?_ ?_))
  ·refine WF.sl (AF 2 ?_)
   obtain⟨ao,cq,E⟩:=bd E
   refine Bz O O (ar.mono' ay) Wx cq O λfh di=>Ci BY a1.1 O di Wl (λe=>by cases e) O λfi dj=>AG (Di bG O a1 λaz fj cr a0=>?_)
   obtain⟨rfl,⟨bw,cs,ct,dk⟩⟩:=HC.ex (dj.mono a0)
   refine EW (vs:=[vI ao.Ax,vI ao.I,vI ao.D,vI ao.Be]) O O O O Wl O cr .head O λfk au a2=>AZ (kp [3,9,8,0,10] O) (AE (CX (.inr ⟨mo,by kernel_rfl⟩) au (AD QN O (AS CL au O mh O A7 O (AA O (C7 O O (AD G4 O (AD Do O (AS CL au O (mt mh) O Gu O (BC O (ax.mono' (ay.trans (a0.trans a2))) Fy O λdl=>?_))))))))))
   obtain⟨dm,cu,E⟩:=bd E
   refine BR O O O PC O (λh' o=>Gv (St.all h') bw (J9 dl) cu) (AA O ?_)
   obtain⟨cv,ap,E⟩:=bd E
   refine AW 10 33 (.bool cv) ?_ ?_
   ·cases cw:dm
    ·have ap:=HG cw ap
     cases ap
     exact A3 O O
    have ap:=HE cw ap
    refine AB O (AD Tp O (AB O (AS CL au O mh O A7 O (AB O (AA O (AB O (C7 O O (AB O (AD G4 O (AB O (AD If O (AB O (AS CL au O (mt mh) O LA O (AB O (BC O (av.mono' (ay.trans (a0.trans a2))) Kt O λdn=>AB O ?_)))))))))))))))
    obtain⟨fl,cx,ap⟩:=bd ap
    refine BR O O O PC O (λh' o=>Gv (St.all h') cs (J9 dn) cx) (AL O ?_)
    cases ap
    exact AV O
   refine AA O ?_
   obtain⟨dp,aq,E⟩:=bd E
   refine AW 10 44 (.bool dp) ?_ ?_
   ·cases cy:cv
    ·have aq:=HG cy aq
     cases aq
     exact A3 O O
    have aq:=HE cy aq
    refine AB O (AD To O (AB O (AS CL au O mh O A7 O (AB O (AA O (AB O (C7 O O (AB O (AD G4 O (AB O (AD If O (AB O (AS CL au O (mt mh) O LA O (AB O (BC O (av.mono' (ay.trans (a0.trans a2))) Kt O λdq=>AB O ?_)))))))))))))))
    obtain⟨fm,cz,aq⟩:=bd aq
    refine BR O O O PC O (λh' o=>Gv (St.all h') ct (J9 dq) cz) (AL O ?_)
    cases aq
    exact AV O
   refine B3 (kp [44,3,9,8,0,10] O) λdr d c0=>AX O E (λds E=>?_) (λds E=>?_)
   ·obtain ⟨fn,c1,E⟩:=bd E
    obtain⟨dt,c2,E⟩:=bd E
    obtain⟨c3,c4,E⟩:=bd E
    obtain⟨fo,c5,E⟩:=bd E
    refine Sb (m:=[(3,vP az 0),(9,vI (↑p0_w.in_.Az.length:Int)),(8,t),(0,vP c 0),(10,vI i5)]) [24] [] [] (by kernel_rfl) (λgv X F i v hh=>match i with|0=>v=vP c 0|1=>v=vP c 0|2=>v=vP c 16|3=>v=vP c 17|4=>v=g|5=>v=vP az 0|6=>v=vI ao.Ax∧AH ao.Ax|7=>v=vP c 0|8=>v=vP c 0|9=>v=vP c 16|10=>v=vP c 17|11=>v=g|12=>v=vP az 0|13=>v=vI ao.Ax∧AH ao.Ax|14=>EP g (ao.Ax.toNat*((BW.sl AJ)).sz+0) v|15=>Sl (λb=>b<hh.size) hh AJ v dt|16=>v=vP az 1|17=>v=vI ao.I∧AH ao.I|18=>v=vP az 2|19=>v=vI ao.D∧AH ao.D|20=>v=vP az 3|21=>v=vI ao.Be∧AH ao.Be|22=>OW S8 dr X F [OS AJ 3 v c3] hh|23=>EP g (ao.Ax.toNat*((BW.sl AJ)).sz+0) v|_=>False) [[],[(0,45)],[(1,46)],[(2,47)],[(3,48)],[],[(5,50)],[],[(7,52)],[(8,53)],[(9,54)],[(10,55)],[],[(12,57)],[(11,56),(13,58)],[(14,59)],[],[(16,61)],[],[(18,63)],[],[(20,65)],[(15,60),(17,62),(19,64),(21,66)],[(4,49),(6,51)],[]] [(22,67),(23,68)] mo (by kernel_rfl) [3,9,8,0,10] O (by kernel_rfl) (by kernel_rfl) (by kernel_rfl) O (kp [3,9,8,0,10] O) (λgv i v h1 h2 X X' F o1 o2 hF u1 u2 Y=>?_) (λgv fp X F i v h1 hz Y=>?_) ?_ ?_ ?_
    ·match i,Y with
      |0,Y|1,Y|2,Y|3,Y|4,Y|5,Y|6,Y|7,Y|8,Y|9,Y|10,Y|11,Y|12,Y|13,Y|14,Y|16,Y|17,Y|18,Y|19,Y|20,Y|21,Y|23,Y=>exact Y
      |15,Y=>exact Sl.mono Y (λb hb=>nH hb o2.siz) (λb hb=>o2.same b hb)
      |22,Y=>exact OW.mono d.1 o1 o2 hF u1 u2 Y
      |_+24,Y=>exact Y.elim
    ·match i,Y with
      |0,Y|1,Y|2,Y|3,Y|4,Y|5,Y|6,Y|7,Y|8,Y|9,Y|10,Y|11,Y|12,Y|13,Y|14,Y|15,Y|16,Y|17,Y|18,Y|19,Y|20,Y|21,Y|22,Y|23,Y=>exact Y
      |_+24,Y=>exact Y.elim
    ·exact trivial
    ·refine Cs.cons O O ?_ ?_
     ·intro gv X mq hh o hX
      have W:=o.st d
      exact AF 1 (AA O (AO O))
     refine Cs.cons O O ?_ ?_
     ·intro gv X mq hh o hX
      have W:=o.st d
      intro fq bx
      obtain⟨ef,_,_,bx⟩:=bx
      cases bx
      exact AF 1 (C7 O O (AO O))
     refine Cs.cons O O ?_ ?_
     ·intro gv X mq hh o hX
      have W:=o.st d
      intro fr bz
      obtain⟨eg,_,_,bz⟩:=bz
      cases bz
      exact AF 1 (AD DI O (AO O))
     refine Cs.cons O O ?_ ?_
     ·intro gv X mq hh o hX
      have W:=o.st d
      intro fs b0
      obtain⟨eh,_,_,b0⟩:=b0
      cases b0
      exact AF 1 (AD Eo O (AO O))
     refine Cs.cons O O ?_ ?_
     ·intro gv X mq hh o hX
      have W:=o.st d
      intro ft b2
      obtain⟨ei,_,_,b2⟩:=b2
      cases b2
      exact AF 1 (AS BY W O (mt mh) O Hz O (AO O))
     refine Cs.cons O O ?_ ?_
     ·intro gv X mq hh o hX
      have W:=o.st d
      exact AF 1 (AD QN O (AO O))
     refine Cs.cons O O ?_ ?_
     ·intro gv X mq hh o hX
      have W:=o.st d
      intro fu b3
      obtain⟨ej,_,_,b3⟩:=b3
      cases b3
      exact AF 1 (AS BY W O mh O A7 O (AO ⟨O,bw⟩))
     refine Cs.cons O O ?_ ?_
     ·intro gv X mq hh o hX
      have W:=o.st d
      exact AF 1 (AA O (AO O))
     refine Cs.cons O O ?_ ?_
     ·intro gv X mq hh o hX
      have W:=o.st d
      intro fv b4
      obtain⟨ek,_,_,b4⟩:=b4
      cases b4
      exact AF 1 (C7 O O (AO O))
     refine Cs.cons O O ?_ ?_
     ·intro gv X mq hh o hX
      have W:=o.st d
      intro fw b5
      obtain⟨el,_,_,b5⟩:=b5
      cases b5
      exact AF 1 (AD DI O (AO O))
     refine Cs.cons O O ?_ ?_
     ·intro gv X mq hh o hX
      have W:=o.st d
      intro fx b6
      obtain⟨em,_,_,b6⟩:=b6
      cases b6
      exact AF 1 (AD Eo O (AO O))
     refine Cs.cons O O ?_ ?_
     ·intro gv X mq hh o hX
      have W:=o.st d
      intro fy a3
      obtain⟨du,_,_,a3⟩:=a3
      cases a3
      exact AF 1 (AS BY W O (mt mh) O Hz O (AO O))
     refine Cs.cons O O ?_ ?_
     ·intro gv X mq hh o hX
      have W:=o.st d
      exact AF 1 (AD QN O (AO O))
     refine Cs.cons O O ?_ ?_
     ·intro gv X mq hh o hX
      have W:=o.st d
      intro en a4
      obtain⟨dv,_,_,a4⟩:=a4
      cases a4
      exact AF 1 (AS BY W O mh O A7 O (AO ⟨O,bw⟩))
     refine Cs.cons O O ?_ ?_
     ·intro gv X mq hh o hX
      have W:=o.st d
      intro eo a5 ep a6
      obtain⟨dw,_,_,a5⟩:=a5
      cases a5
      obtain⟨dx,_,_,a6⟩:=a6
      obtain⟨rfl,eq⟩:=a6
      exact AF 1 (Oc (r:=AJ) W (mt (mt mh)) O O Fx c1 O λer b7=>AO b7)
     refine Cs.cons O O ?_ ?_
     ·intro gv X mq hh o hX
      have W:=o.st d
      intro es a7
      obtain⟨dy,_,_,a7⟩:=a7
      exact AF 1 (Sj (r:=AJ) BY W (mt (mt mh)) O c2 a7 CG O λet dz c6=>AO c6)
     refine Cs.cons O O ?_ ?_
     ·intro gv X mq hh o hX
      have W:=o.st d
      exact AF 1 (AD Tp O (AO O))
     refine Cs.cons O O ?_ ?_
     ·intro gv X mq hh o hX
      have W:=o.st d
      intro eu a8
      obtain⟨d0,_,_,a8⟩:=a8
      cases a8
      exact AF 1 (AS BY W O mh O A7 O (AO ⟨O,cs⟩))
     refine Cs.cons O O ?_ ?_
     ·intro gv X mq hh o hX
      have W:=o.st d
      exact AF 1 (AD To O (AO O))
     refine Cs.cons O O ?_ ?_
     ·intro gv X mq hh o hX
      have W:=o.st d
      intro ev a9
      obtain⟨d1,_,_,a9⟩:=a9
      cases a9
      exact AF 1 (AS BY W O mh O A7 O (AO ⟨O,ct⟩))
     refine Cs.cons O O ?_ ?_
     ·intro gv X mq hh o hX
      have W:=o.st d
      exact AF 1 (AD X5 O (AO O))
     refine Cs.cons O O ?_ ?_
     ·intro gv X mq hh o hX
      have W:=o.st d
      intro ew ba
      obtain⟨d2,_,_,ba⟩:=ba
      cases ba
      exact AF 1 (AS BY W O mh O A7 O (AO ⟨O,dk⟩))
     refine M9 O O ?_ ?_
     ·intro gv X mq hh o hX
      have W:=SX.fz (X:=X) d o
      intro ey bb ez bc e0 be e1 bf
      obtain⟨d3,_,_,bb⟩:=bb
      obtain⟨d4,_,_,bc⟩:=bc
      obtain⟨rfl,c7⟩:=bc
      obtain⟨d5,_,_,be⟩:=be
      obtain⟨rfl,c8⟩:=be
      obtain⟨d6,_,_,bf⟩:=bf
      obtain⟨rfl,c9⟩:=bf
      refine CJ O O O iR O W (Qp (St.all _) bb c7 c8 c9 c4) λe2 e3 e4 d7 da db p=>?_
      have b8:=p
      have bg:=W.join db b8 ⟨OS.flat (λ{_ _ _ _ _ _} k=>k),trivial⟩
      simp only[oG,nX] at bg
      have d8:=bg.pick (.tail .head)
      obtain⟨dc,b9,dd,e5,de⟩:=OW.done d.1 o hX da d8
      exact DV dd ⟨dc,b9,de⟩
     refine Cs.cons O O ?_ ?_
     ·intro gv X mq hh o hX
      have W:=o.st d
      intro e6 bh e7 bi
      obtain⟨d9,_,_,bh⟩:=bh
      cases bh
      obtain⟨ea,_,_,bi⟩:=bi
      obtain⟨rfl,e8⟩:=bi
      exact AF 1 (Oc (r:=AJ) W (mt (mt mh)) O O Fx c5 O λe9 ca=>AO ca)
     exact Cs.skip (by kernel_rfl) (trivial)
    intro fa eb ec bo bj cb fb bk fc bl
    obtain⟨ed,bk⟩:=bk
    obtain⟨ee,bl⟩:=bl
    have bm:=(Uj.cons (Uj.nil d bo bj) cb (j:=22) O bk).st
    simp only[oG,nX] at bm
    obtain⟨fd,cc,E⟩:=bd E
    have cd:=bm.sel [0,2,0,0,0,0,0,0,0,0,0] 0 O
    refine Vm (r:=AJ) (i:=ao.Ax) O O bl cc CG cd λfe ce df=>AZ (kp [9,8,0,10] O) (WF.nil (λaa ww hf hw=>?_))
    have cf:=ce.sel [2,0,1,1,1,1,1,1,1] 1 O
    exact⟨(upd l7 ao.Ax c3),_,_,hf.sub (kp [9,8,0,10] O),hw,cf,(a0.trans (a2.trans (c0.trans ((SX.ext d.1 bo (Yn bj)).trans df)))),E⟩
   refine AT (WF.nil (λaa ww hf hw=>?_))
   have cg:=d.sel [1,1,1,1,1,1,1,1,1] 1 O
   exact⟨l7,_,_,hf.sub (kp [9,8,0,10] O),hw,cg,(a0.trans (a2.trans c0)),E⟩
  rintro aa ww ⟨bn,ff,fg,hf,hw,ch,dg,E⟩
  refine A6 ?_ hf hw
  clear hf hw ww aa
  rw[F7] at E
  refine CN (.inl O) (BB O (AA O (AN (kp [10,9,8,0] O) (WF.nil (λaa ww hf hw=>?_)))))
  exact⟨(B0 (i5+1)),bn,_,_,hf.sub (kp [9,8,0,10] O),hw,ch,(ay.trans dg),(B1 _),E⟩
 refine LN O (WF.nil (λaa ww hf hw=>?_))
 cases E
 exact Kn hf O hw Km O ay ⟨_,O,a1⟩
end Go.Proofs.YtblcgjadhemlbaaGreat
