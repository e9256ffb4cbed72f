import Derived.Test.YtblcgjadhemlbaaGreatWWalk6
namespace Go.Proofs.YtblcgjadhemlbaaGreat
set_option linter.all false
open Go.RowKit
open Go.Proofs.Tryz
set_option maxRecDepth 10000
set_option maxHeartbeats 2000000
variable {N:Nat}{S:Nat→Prop}{L:List HP}{h:BM}
def Sy (hs:St S L h) {d:Value}{u:BL}(m:Rd S h Ct d u) {g:Value}{b:BG}(o:Rd S h Bz g b) {c:Int}(i:AH c) {r:BG}(E:Ix N u b c=some r):
 DK prog 22 #[d,g,vI c] S h (λv S' h'=>v= .agg #[vI r.W,vI r.Z,.bool r.Az,.bool r.Ao]∧BG.ok r∧St S' (L) h'):=by
 refine B0 (l:=[d,g,vI c]) 16 func22 O ntmps22 O λB=>?_
 rw[Ix] at E
 refine WF.sl (C3 O m (λe=>by cases e) O hs λq1 S2 h3 Y e5 k6=>?_)
 obtain⟨rfl,⟨r9,ab⟩⟩:=Bz.ex (o.mono e5)
 refine RE O O O Y λA ao C D=>Di Tj O C λF G j H=>AZ (kp [6,4,3,2] O) (AE (AI ?_))
 have I:=k6.mono (D.trans H)
 refine A8 O I E7 KL O λap ac=>BC Bu j.1 O ac BA O λaq=>Cg O (AN (kp [9,6,4,3,2] O) (He (λa w=>∃(k:Int),IV B S2 G (16,[]) a w [(6,vP F 0),(4,vP A 0)] (Bx F 69 [vI 0,vI 0,.bool false,.bool false]::Bx A 69 [vI b.W,vI k,.bool b.Az,.bool b.Ao]::L) λ_ _=>AH k∧Kp N b k=some r) ?_ ?_))
 ·refine AY O E (λad E=>?_) (λad E=>?_)
  ·refine FG (AF 3 (AA O (A8 O I E7 KL O λar ae=>BC Bu j.1 O ae BA O λaf=>AD ?_)))
   obtain⟨z,J,E⟩:=bd E
   refine CG O O O Wh O j (J0 (St.all _) i (iq (n:=0) O) af J) λau av aw K ag ax p=>?_
   obtain⟨rfl,ah,an⟩:=p
   refine AF 1 (AG QN O (AD (Iq (vs:=[vI z]) (cs':=[vI b.W,vI z,.bool b.Az,.bool b.Ao]) O O O O BA O K (.tail .head) O O λay M ai=>AZ (kp [6,4] O) (WF.nil (λV X s t=>?_)))))
   exact⟨z,_,_,s.sub (kp [6,4] O),t,M,(ag.trans ai),ah,E⟩
  refine AS (WF.nil (λV X s t=>?_))
  exact⟨b.Z,_,_,s.sub (kp [6,4] O),t,j,(C9.refl S2 G),ab,E⟩
 rintro V X ⟨k,az,a0,s,t,x,aj,ak,E⟩
 refine A6 ?_ s t
 clear s t X V
 rw[Kp] at E
 refine WF.sl (AF 1 (ES (vs:=[vI b.W,vI k,.bool b.Az,.bool b.Ao]) Bu x O (mt mh) O O H1 O O (AD (Ek (vs:=[vI b.W,vI k,.bool b.Az,.bool b.Ao]) O O O O H1 O x .head O λa1 Q am=>AZ (kp [6] O) (A5 (λV X s t=>?_))))))
 have y:=Q.drop (.tail .head)
 have U:=y.drop .head
 cases E
 exact K5 s O t (JD (Zw s t y O mh H1 O) K4) O (e5.trans (D.trans (H.trans (aj.trans am)))) ⟨O,⟨r9,ak⟩,U⟩
def Jt (j:St S L h) {b:Int}(g:AH b) {a:Int}(i:AH a) {r:Int}(E:Gw N b a=some r):
 DK prog 46 #[vI b,vI a] S h (λv S' h'=>v=vI r∧AH r∧St S' (L) h'):=by
 refine B0 (l:=[vI b,vI a]) 24 func46 O ntmps46 O λB=>?_
 rw[Gw] at E
 refine AI (AM O (kp [0,1] O) (AE (AI (AA O (BI O (AA O (AW 5 12 (.bool ((decide (a<0))&&(decide ((Bw (9223372036854775807+a))<b)))) ?_ ?_)))))))
 ·cases q:(decide (a<0))
  ·exact A4 O O
  exact AB O (AA O (AB O (AA O (AB O (A9 O (AB O (CV O (AL O (AV O)))))))))
 refine AN (kp [12,0,1] O) (AY O E (λo E=>?_) (λo E=>?_))
 ·refine AI (AM O (kp [4] O) (A5 (λk m c d=>?_)))
  cases E
  exact Em c d O O (C9.refl S h) ⟨O,(iq (n:=9223372036854775807) O),j⟩
 refine AS (AE (AI (AA O (CV O (AA O (AW 5 20 (.bool ((decide (0<a))&&(decide (b<(Bw ((-9223372036854775808)+a)))))) ?_ ?_))))))
 ·cases s:(decide (0<a))
  ·exact A4 O O
  exact AB O (AA O (AB O (AA O (AB O (A9 O (AB O (BI O (AL O (AV O)))))))))
 refine AN (kp [20,0,1] O) (AY O E (λp E=>?_) (λp E=>?_))
 ·refine AI (AM O (kp [4] O) (A5 (λk m c d=>?_)))
  cases E
  exact Em c d O O (C9.refl S h) ⟨O,(iq (n:=(-9223372036854775808)) O),j⟩
 refine AS (AI (AA O (AA O (Dl O (AM O (kp [4] O) (A5 (λk m c d=>?_)))))))
 cases E
 exact Em c d O O (C9.refl S h) ⟨O,(B5 _),j⟩
def Rc (hs:St S L h) {c:Value}{k:BL}(g:Rd S h Ct c k) {d:Value}{a:BG}(i:Rd S h Bz d a) {r:BG}(E:Hr N k a=some r):
 DK prog 24 #[c,d] S h (λv S' h'=>v= .agg #[vI r.W,vI r.Z,.bool r.Az,.bool r.Ao]∧BG.ok r∧St S' (L) h'):=by
 refine B0 (l:=[c,d]) 26 func24 O ntmps24 O λB=>?_
 rw[Hr] at E
 refine WF.sl (C3 O g (λe=>by cases e) O hs λq1 S2 h3 V X k6=>?_)
 obtain⟨rfl,⟨Y,w⟩⟩:=Bz.ex (i.mono X)
 refine RE O O O V λaw ax z x=>Di Tj O z λay az b y=>AZ (kp [4,3,2] O) (AE (AI (AG TA O (AT Bu b O (mt mh) O Pr O (AN (kp [7,4,3,2] O) (AY O E (λab E=>?_) (λab E=>?_)))))))
 ·refine WF.sl (AF 1 (ES (vs:=[vI a.W,vI a.Z,.bool a.Az,.bool a.Ao]) Bu b O (mt mh) O O H1 O O (AD (Ek (vs:=[vI a.W,vI a.Z,.bool a.Az,.bool a.Ao]) O O O O H1 O b .head O λa0 A ac=>AZ (kp [4] O) (A5 (λaa ww C D=>?_))))))
  have m:=A.drop (.tail .head)
  have F:=m.drop .head
  cases E
  exact K5 C O D (JD (Zw C D m O mh H1 O) K4) O (X.trans (x.trans (y.trans ac))) ⟨O,⟨Y,w⟩,F⟩
 refine AS (AE (Cn (.inr ⟨mo,by kernel_rfl⟩) b (AG QN O (AT CQ b O (mt mh) O BA O (AG Nq O (AT CQ b O (mt mh) O BA O ?_))))))
 obtain⟨a1,G,E⟩:=bd E
 refine DW O O O Ul O (λh' o=>Jt (St.all h') w Y G) λad=>?_
 have ae:=ad
 have H:=k6.mono (x.trans y)
 refine A8 O H Jv Ow O λa2 af=>BC CQ b.1 O af BA O λag=>?_
 obtain⟨a3,I,E⟩:=bd E
 refine DW O O O Ul O (λh' o=>Jt (St.all h') (iq (n:=0) O) ag I) λah=>?_
 have ai:=ah
 refine A8 O H Jv Ow O λa4 aj=>BC CQ b.1 O aj BA O λak=>?_
 obtain⟨a5,J,E⟩:=bd E
 refine DW O O O Wh O (λh' o=>J0 (St.all h') ae ai ak J) λam=>?_
 have an:=am
 refine A0 O (B9 (kp [5,4,3] O) λa6 s ao=>WF.sl (AF 3 (AG Nq O (AT Bu s O (mt mh) O BA O (AA O (AD ?_))))))
 obtain⟨j,K,E⟩:=bd E
 refine CG O O O SK O s (JE (St.all _) Y an K) λa7 a8 a9 M ap ba p=>?_
 obtain⟨rfl,aq,av⟩:=p
 refine AF 1 (AG Nq O (AD (Iq (vs:=[vI j]) (cs':=[vI j,vI a.Z,.bool a.Az,.bool a.Ao]) O O O O BA O M (.tail .head) O O λbb t ar=>AZ (kp [4,3] O) (WF.sl (AF 1 (ES (vs:=[vI j,vI a.Z,.bool a.Az,.bool a.Ao]) Bu t O (mt mh) O O H1 O O (AD (Ek (vs:=[vI j,vI a.Z,.bool a.Az,.bool a.Ao]) O O O O H1 O t .head O λbc Q au=>AZ (kp [4] O) (A5 (λaa ww C D=>?_))))))))))
 have u:=Q.drop (.tail .head)
 have U:=u.drop .head
 cases E
 exact K5 C O D (JD (Zw C D u O mh H1 O) K4) O (X.trans (x.trans (y.trans (ao.trans (ap.trans (ar.trans au)))))) ⟨O,⟨aq,w⟩,U⟩
def Nz {K:Nat}{p0_w:AX}{ad:Value}{ae:Value}{ac:Value}{af:Value}{ag:Value}{ah:Value}{ai:Value}{aj:Value}{Q:Value}{y:Value}{z:Value}{W:Value}{Y:Value}{c:Value}{d:Value}{ab:Value}{u:Value}{g:Value}{j:Value}{k:Value}{m:Value}{p:Value}(hs:St S (Bx K 84 [.string p0_w.b.H,ad,vI p0_w.b.T,ae,ac,af,ag,ah,ai,aj,vI p0_w.b.V,Q,y,z,W,Y,vI p0_w.s.D,c,d,ab,u,g,j,k,m,p]::OO AJ 3 29 c p0_w.s.F::OS AJ 3 d p0_w.s.O::OS Bz 69 u p0_w.s.P::OS AJ 3 g p0_w.s.S::OS AJ 3 j p0_w.s.U::OS CJ 50 k p0_w.moves::OS AJ 3 m p0_w.peaks::OS BJ 60 p p0_w.sent::L) h) (c0:p0_w.b.H.size≤maxLen) (c1:Sl S h BZ.str ad p0_w.b.J) (c2:AH p0_w.b.T) (c3:Sl S h Cw ae p0_w.b.A) (ao:Sl S h Ct ac p0_w.b.E) (c4:Sl S h HL af p0_w.b.Am) (c5:Sl S h Fc ag p0_w.b.Au) (c6:Sl S h HN ah p0_w.b.Av) (c7:Sl S h Dy ai p0_w.b.Ay) (c8:Sl S h AJ aj p0_w.b.Ax) (bz:AH p0_w.b.V) (b0:Sl S h AJ Q p0_w.in_.X) (ap:Sl S h Gc y p0_w.in_.Ap) (av:Sl S h JX z p0_w.in_.At) (b2:Sl S h Gd W p0_w.in_.Ad) (b3:Sl S h HM Y p0_w.in_.Ba) (b4:AH p0_w.s.D) (b5:Sl S h BJ ab p0_w.s.M) {r:(List BG)}(E:E6 N p0_w=some r):
 DK prog 30 #[vP K 0] S h (λv S' h'=>∃a0:Value,v= .tuple #[]∧St S' (Bx K 84 [.string p0_w.b.H,ad,vI p0_w.b.T,ae,ac,af,ag,ah,ai,aj,vI p0_w.b.V,Q,y,z,W,Y,vI p0_w.s.D,c,d,ab,a0,g,j,k,m,p]::OO AJ 3 29 c p0_w.s.F::OS AJ 3 d p0_w.s.O::OS Bz 69 a0 r::OS AJ 3 g p0_w.s.S::OS AJ 3 j p0_w.s.U::OS CJ 50 k p0_w.moves::OS AJ 3 m p0_w.peaks::OS BJ 60 p p0_w.sent::L) h'):=by
 refine B0 (l:=[vP K 0]) 135 func30 O ntmps30 O λB=>?_
 rw[E6] at E
 refine AE (AI (AA O (DN O O (AG Np O (AG WY O (AT Bu hs O mh O cS O (BE O ap YG O λb1=>AA O (AN (kp [14,13,12,0] O) (BH (λa w=>∃(l2:List BG),IV B S h (135,[]) a w [(0,vP K 0)] (Bx K 84 [.string p0_w.b.H,ad,vI p0_w.b.T,ae,ac,af,ag,ah,ai,aj,vI p0_w.b.V,Q,y,z,W,Y,vI p0_w.s.D,c,d,ab,u,g,j,k,m,p]::OO AJ 3 29 c p0_w.s.F::OS AJ 3 d p0_w.s.O::OS Bz 69 u l2::OS AJ 3 g p0_w.s.S::OS AJ 3 j p0_w.s.U::OS CJ 50 k p0_w.moves::OS AJ 3 m p0_w.peaks::OS BJ 60 p p0_w.sent::L) λ_ _=>Cc N p0_w l2=some r) ?_ ?_)))))))))
 ·refine BV (λn1=>λa w=>∃(i6:Int) (l8:List BG),IV B S h (135,[]) a w [(13,vI (↑p0_w.in_.Ap.length:Int)),(12,y),(0,vP K 0),(14,vI i6)] (Bx K 84 [.string p0_w.b.H,ad,vI p0_w.b.T,ae,ac,af,ag,ah,ai,aj,vI p0_w.b.V,Q,y,z,W,Y,vI p0_w.s.D,c,d,ab,u,g,j,k,m,p]::OO AJ 3 29 c p0_w.s.F::OS AJ 3 d p0_w.s.O::OS Bz 69 u l8::OS AJ 3 g p0_w.s.S::OS AJ 3 j p0_w.s.U::OS CJ 50 k p0_w.moves::OS AJ 3 m p0_w.peaks::OS BJ 60 p p0_w.sent::L) λ_ _=>AH i6∧CT N p0_w (Cc N p0_w) n1 i6 l8=some r) N ?_ ?_ ?_
  ·intro aa ww hf hw
   exact⟨0,p0_w.s.P,_,_,hf.sub (kp [13,12,0,14] O),hw,hs,(C9.refl S h),(iq (n:=0) O),E⟩
  ·rintro aa ww ⟨_,_,_,_,_,_,_,_,_,E⟩
   rw[CT] at E;cases E
  rintro n1 aa ww ⟨i6,l8,S9,e0,hf,hw,a3,a4,r7,E⟩
  refine A6 ?_ hf hw
  clear hf hw ww aa
  rw[CT] at E
  refine AI (BI O (AN (kp [15,13,12,0,14] O) (AE (AY O E (λe1 E=>?_) (λe1 E=>?_)))))
  ·refine AS (AE (BH (λa w=>∃(bh:List BG),IV B S9 e0 (135,[]) a w [(13,vI (↑p0_w.in_.Ap.length:Int)),(12,y),(0,vP K 0),(14,vI i6)] (Bx K 84 [.string p0_w.b.H,ad,vI p0_w.b.T,ae,ac,af,ag,ah,ai,aj,vI p0_w.b.V,Q,y,z,W,Y,vI p0_w.s.D,c,d,ab,u,g,j,k,m,p]::OO AJ 3 29 c p0_w.s.F::OS AJ 3 d p0_w.s.O::OS Bz 69 u bh::OS AJ 3 g p0_w.s.S::OS AJ 3 j p0_w.s.U::OS CJ 50 k p0_w.moves::OS AJ 3 m p0_w.peaks::OS BJ 60 p p0_w.sent::L) λ_ _=>FB N i6 (CT N p0_w (Cc N p0_w) n1) bh=some r) ?_ ?_))
   ·refine WF.sl (AF 2 ?_)
    obtain⟨bi,c9,E⟩:=bd E
    refine B1 O O (ap.mono' a4) YG c9 O λgp e2=>Cq Bu a3.1 O e2 cP (λe=>by cases e) O λgq e3=>AD (Di jH O a3 λgr gs da a5=>?_)
    obtain⟨rfl,⟨e4,e5⟩⟩:=Gc.ex (e3.mono a5)
    refine Ek (vs:=[vI bi.B,vI bi.Bb]) O O O O cP O da .head O λgu a6 bj=>AZ (kp [3,13,12,0,14] O) (AE (Cn (.inr ⟨mo,by kernel_rfl⟩) a6 (AG QM O (AT CQ a6 O mh O BA O (AA O (DN O O (AG HQ O (AG Hn O (AT CQ a6 O (mt mh) O KF O (BE O (ao.mono' (a4.trans (a5.trans bj))) Ie O λe6=>?_))))))))))
    obtain⟨gv,db,E⟩:=bd E
    refine BU O O O Pn O (λh' o=>HE (St.all h') e5 (KY e6) db) (B9 (kp [26,3,13,12,0,14] O) λgw am b6=>AY O E (λe7 E=>?_) (λe7 E=>?_))
    ·refine L9 29 mo (by kernel_rfl) O am (AA O (DN O O (AG DZ O (AG Iv O (AT CQ am O (mt mh) O LW O (AG QM O (AT CQ am O mh O BA O (AA O (DN O O (AG HQ O (AG Hn O (AT CQ am O (mt mh) O KF O (AG QM O (AT CQ am O mh O BA O ?_))))))))))))))
     obtain⟨gx,dc,E⟩:=bd E
     refine B1 O O (ao.mono' (a4.trans (a5.trans (bj.trans b6)))) Ie dc O λgy e8=>Cq CQ am.1 O e8 IM (λe=>by cases e) O λgz e9=>AA O (DN O O (AG DZ O (AG Iv O (AT CQ am O (mt mh) O LW O (AG QM O (AT CQ am O mh O BA O ?_))))))
     obtain⟨g0,dd,E⟩:=bd E
     refine BX am (mt (mt (mt (mt mh)))) O O LB dd O λg1 de=>?_
     obtain⟨g2,df,E⟩:=bd E
     have fa:=am.epAt (mt (mt (mt (mt mh)))) df GO.id de
     refine Cq CQ (λ_ x=>x) O fa H1 (λe=>by cases e) O λg3 fb=>AG aZ O (AT CQ am O mh O BA O ?_)
     obtain⟨dg,dh,E⟩:=bd E
     refine DW O O O nQ O (λh' o=>Qu (St.all h') (e9.mono (o.all am.1)) (fb.mono (o.all am.1)) e4 dh) λfc=>?_
     obtain⟨fd,fe⟩:=fc
     obtain⟨g4,di,E⟩:=bd E
     refine BX am (mt (mt (mt (mt mh)))) O O LB di O λg5 dj=>Kq λg6 dk ff=>?_
     obtain⟨fg,dl,E⟩:=bd E
     refine Fd (r:=Bz) (l:=l8) (i:=bi.Bb) (x:=fg) O O (Bz.mk (x:=dg) ⟨fd,fe⟩) dj dl MS.id H1 (λe=>by cases e) dk (.tail (.tail (.tail (.tail .head)))) λg7 dm fh=>AZ (kp [13,12,0,14] O) (WF.nil (λaa ww hf hw=>?_))
     have dn:=dm.sel [1,1,1,1,1,1,1,1,1] 1 O
     exact⟨(upd l8 bi.Bb dg),_,_,hf.sub (kp [13,12,0,14] O),hw,dn,(a5.trans (bj.trans (b6.trans (ff.trans fh)))),E⟩
    refine AS (WF.nil (λaa ww hf hw=>?_))
    have dp:=am.sel [1,1,1,1,1,1,1,1,1] 1 O
    exact⟨l8,_,_,hf.sub (kp [13,12,0,14] O),hw,dp,(a5.trans (bj.trans b6)),E⟩
   rintro aa ww ⟨bh,g8,g9,hf,hw,dq,fi,E⟩
   refine A6 ?_ hf hw
   clear hf hw ww aa
   rw[FB] at E
   refine CL (.inl O) (A9 O (AA O (AN (kp [14,13,12,0] O) (WF.nil (λaa ww hf hw=>?_)))))
   exact⟨(Bw (i6+1)),bh,_,_,hf.sub (kp [13,12,0,14] O),hw,dq,(a4.trans fi),(B5 _),E⟩
  refine By O (λaa ww hf hw=>?_)
  exact⟨l8,_,_,hf.sub (kp [0] O),hw,a3,a4,E⟩
 rintro aa ww ⟨l2,b7,b8,hf,hw,bn,a7,E⟩
 refine A6 ?_ hf hw
 clear hf hw ww aa
 rw[Cc] at E
 refine AE (AI (AA O (DN O O (AG Np O (AG WX O (AT Bu bn O mh O cR O ?_))))))
 have dr:=av.mono' a7
 refine BE O dr YF O λha=>AA O (AN (kp [63,62,61,0] O) (BH (λa w=>∃(bk:List BG),IV B b7 b8 (135,[]) a w [(0,vP K 0)] (Bx K 84 [.string p0_w.b.H,ad,vI p0_w.b.T,ae,ac,af,ag,ah,ai,aj,vI p0_w.b.V,Q,y,z,W,Y,vI p0_w.s.D,c,d,ab,u,g,j,k,m,p]::OO AJ 3 29 c p0_w.s.F::OS AJ 3 d p0_w.s.O::OS Bz 69 u bk::OS AJ 3 g p0_w.s.S::OS AJ 3 j p0_w.s.U::OS CJ 50 k p0_w.moves::OS AJ 3 m p0_w.peaks::OS BJ 60 p p0_w.sent::L) λ_ _=>Cb N p0_w bk=some r) ?_ ?_))
 ·refine BV (λn4=>λa w=>∃(aw:Int) (ax:List BG),IV B b7 b8 (135,[]) a w [(62,vI (↑p0_w.in_.At.length:Int)),(61,z),(0,vP K 0),(63,vI aw)] (Bx K 84 [.string p0_w.b.H,ad,vI p0_w.b.T,ae,ac,af,ag,ah,ai,aj,vI p0_w.b.V,Q,y,z,W,Y,vI p0_w.s.D,c,d,ab,u,g,j,k,m,p]::OO AJ 3 29 c p0_w.s.F::OS AJ 3 d p0_w.s.O::OS Bz 69 u ax::OS AJ 3 g p0_w.s.S::OS AJ 3 j p0_w.s.U::OS CJ 50 k p0_w.moves::OS AJ 3 m p0_w.peaks::OS BJ 60 p p0_w.sent::L) λ_ _=>AH aw∧CS N p0_w (Cb N p0_w) n4 aw ax=some r) N ?_ ?_ ?_
  ·intro aa ww hf hw
   exact⟨0,l2,_,_,hf.sub (kp [62,61,0,63] O),hw,bn,(C9.refl b7 b8),(iq (n:=0) O),E⟩
  ·rintro aa ww ⟨_,_,_,_,_,_,_,_,_,E⟩
   rw[CS] at E;cases E
  rintro n4 aa ww ⟨aw,ax,fj,fk,hf,hw,a8,a9,hb,E⟩
  refine A6 ?_ hf hw
  clear hf hw ww aa
  rw[CS] at E
  refine AI (BI O (AN (kp [64,62,61,0,63] O) (AE (AY O E (λfl E=>?_) (λfl E=>?_)))))
  ·refine AS (AE (BH (λa w=>∃(bl:List BG),IV B fj fk (135,[]) a w [(62,vI (↑p0_w.in_.At.length:Int)),(61,z),(0,vP K 0),(63,vI aw)] (Bx K 84 [.string p0_w.b.H,ad,vI p0_w.b.T,ae,ac,af,ag,ah,ai,aj,vI p0_w.b.V,Q,y,z,W,Y,vI p0_w.s.D,c,d,ab,u,g,j,k,m,p]::OO AJ 3 29 c p0_w.s.F::OS AJ 3 d p0_w.s.O::OS Bz 69 u bl::OS AJ 3 g p0_w.s.S::OS AJ 3 j p0_w.s.U::OS CJ 50 k p0_w.moves::OS AJ 3 m p0_w.peaks::OS BJ 60 p p0_w.sent::L) λ_ _=>FA N aw (CS N p0_w (Cb N p0_w) n4) bl=some r) ?_ ?_))
   ·refine WF.sl (AF 2 ?_)
    obtain⟨bm,ds,E⟩:=bd E
    refine B1 O O (dr.mono' a9) YF ds O λhc fm=>Cq Bu a8.1 O fm cO (λe=>by cases e) O λfn dt=>AD (Di jG O a8 λfo fp b9 ar=>?_)
    obtain⟨rfl,⟨du,dv⟩⟩:=JX.ex (dt.mono ar)
    refine Ek (vs:=[vI bm.Bb,vI bm.Z]) O O O O cO O b9 .head O λfq ay a1=>AZ (kp [5,62,61,0,63] O) (AE (Cn (.inr ⟨mo,by kernel_rfl⟩) ay (AG QL O (AT CQ ay O mh O BA O (AA O (DN O O (AG HQ O (AG Hn O (AT CQ ay O (mt mh) O KF O (BE O (ao.mono' (a7.trans (a9.trans (ar.trans a1)))) Ie O λdw=>?_))))))))))
    obtain⟨fr,ca,E⟩:=bd E
    refine BU O O O Pn O (λh' o=>HE (St.all h') du (KY dw) ca) (B9 (kp [75,5,62,61,0,63] O) λfs ak ba=>AY O E (λdx E=>?_) (λdx E=>?_))
    ·refine L9 29 mo (by kernel_rfl) O ak (AA O (DN O O (AG DZ O (AG Iv O (AT CQ ak O (mt mh) O LW O (AG QL O (AT CQ ak O mh O BA O (AA O (DN O O (AG HQ O (AG Hn O (AT CQ ak O (mt mh) O KF O (AG QL O (AT CQ ak O mh O BA O ?_))))))))))))))
     obtain⟨ft,cb,E⟩:=bd E
     refine B1 O O (ao.mono' (a7.trans (a9.trans (ar.trans (a1.trans ba))))) Ie cb O λfu dy=>Cq CQ ak.1 O dy IM (λe=>by cases e) O λfv dz=>AA O (DN O O (AG DZ O (AG Iv O (AT CQ ak O (mt mh) O LW O (AG QL O (AT CQ ak O mh O BA O ?_))))))
     obtain⟨fw,cc,E⟩:=bd E
     refine BX ak (mt (mt (mt (mt mh)))) O O LB cc O λfx cd=>?_
     obtain⟨fy,ce,E⟩:=bd E
     have d0:=ak.epAt (mt (mt (mt (mt mh)))) ce GO.id cd
     refine Cq CQ (λ_ x=>x) O d0 H1 (λe=>by cases e) O λfz d1=>AG aY O (AT CQ ak O mh O BA O ?_)
     obtain⟨bo,cf,E⟩:=bd E
     refine DW O O O nP O (λh' o=>Sy (St.all h') (dz.mono (o.all ak.1)) (d1.mono (o.all ak.1)) dv cf) λd2=>?_
     obtain⟨d3,d4⟩:=d2
     obtain⟨f0,cg,E⟩:=bd E
     refine BX ak (mt (mt (mt (mt mh)))) O O LB cg O λf1 ch=>Kq λf2 ci d5=>?_
     obtain⟨d6,cj,E⟩:=bd E
     refine Fd (r:=Bz) (l:=ax) (i:=bm.Bb) (x:=d6) O O (Bz.mk (x:=bo) ⟨d3,d4⟩) ch cj MS.id H1 (λe=>by cases e) ci (.tail (.tail (.tail (.tail .head)))) λf3 ck d7=>AZ (kp [62,61,0,63] O) (WF.nil (λaa ww hf hw=>?_))
     have cl:=ck.sel [1,1,1,1,1,1,1,1,1] 1 O
     exact⟨(upd ax bm.Bb bo),_,_,hf.sub (kp [62,61,0,63] O),hw,cl,(ar.trans (a1.trans (ba.trans (d5.trans d7)))),E⟩
    refine AS (WF.nil (λaa ww hf hw=>?_))
    have cm:=ak.sel [1,1,1,1,1,1,1,1,1] 1 O
    exact⟨ax,_,_,hf.sub (kp [62,61,0,63] O),hw,cm,(ar.trans (a1.trans ba)),E⟩
   rintro aa ww ⟨bl,f4,f5,hf,hw,cn,d8,E⟩
   refine A6 ?_ hf hw
   clear hf hw ww aa
   rw[FA] at E
   refine CL (.inl O) (A9 O (AA O (AN (kp [63,62,61,0] O) (WF.nil (λaa ww hf hw=>?_)))))
   exact⟨(Bw (aw+1)),bl,_,_,hf.sub (kp [62,61,0,63] O),hw,cn,(a9.trans d8),(B5 _),E⟩
  refine By O (λaa ww hf hw=>?_)
  exact⟨ax,_,_,hf.sub (kp [0] O),hw,a8,a9,E⟩
 rintro aa ww ⟨bk,bp,bq,hf,hw,bb,br,E⟩
 refine A6 ?_ hf hw
 clear hf hw ww aa
 rw[Cb] at E
 refine AI (AA O (DN O O (AG HQ O (AG Hn O (AT Bu bb O mh O KF O ?_)))))
 have bs:=ao.mono' (a7.trans br)
 refine BE O bs Ie O λf6=>AA O (AN (kp [112,111,110,0] O) (BY (BV (λn6=>λa w=>∃(aq:Int) (au:List BG),IV B bp bq (135,[]) a w [(111,vI (↑p0_w.b.E.length:Int)),(110,ac),(0,vP K 0),(112,vI aq)] (Bx K 84 [.string p0_w.b.H,ad,vI p0_w.b.T,ae,ac,af,ag,ah,ai,aj,vI p0_w.b.V,Q,y,z,W,Y,vI p0_w.s.D,c,d,ab,u,g,j,k,m,p]::OO AJ 3 29 c p0_w.s.F::OS AJ 3 d p0_w.s.O::OS Bz 69 u au::OS AJ 3 g p0_w.s.S::OS AJ 3 j p0_w.s.U::OS CJ 50 k p0_w.moves::OS AJ 3 m p0_w.peaks::OS BJ 60 p p0_w.sent::L) λ_ _=>AH aq∧C6 N p0_w n6 aq au=some r) N ?_ ?_ ?_)))
 ·intro aa ww hf hw
  exact⟨0,bk,_,_,hf.sub (kp [111,110,0,112] O),hw,bb,(C9.refl bp bq),(iq (n:=0) O),E⟩
 ·rintro aa ww ⟨_,_,_,_,_,_,_,_,_,E⟩
  rw[C6] at E;cases E
 rintro n6 aa ww ⟨aq,au,f7,f8,hf,hw,az,bc,f9,E⟩
 refine A6 ?_ hf hw
 clear hf hw ww aa
 rw[C6] at E
 refine AI (BI O (AN (kp [113,111,110,0,112] O) (AE (AY O E (λd9 E=>?_) (λd9 E=>?_)))))
 ·refine AS (AE (BY (WF.sl (AF 3 (AA O ?_)))))
  obtain⟨t,co,E⟩:=bd E
  refine B1 O O (bs.mono' bc) Ie co O λga ea=>Cq Bu az.1 O ea IM (λe=>by cases e) O λgb eb=>AD (Di OX O az λgc gd cp bt=>AF 1 (A0 O (AD ?_)))
  obtain⟨be,bf,bg,rfl,ec,ed,ee,ef,bu,bv,bw,eg,eh,ei,ej,ek,el,em,en,eo,ep,eq⟩:=Ct.ex (eb.mono bt)
  refine Ht (vs:=[.string t.H,vI t.B,vI t.G,vI t.C,be,bf,bg,vI t.R,vI t.Ab,vI t.Aj,vI t.Al,vI t.L,vI t.I,vI t.Ah,vI t.Ai,vI t.Ac,vI t.Aa,vI t.N]) (cs':=[.string t.H,vI t.B,vI t.G,vI t.C,be,bf,bg,vI t.R,vI t.Ab,vI t.Aj,vI t.Al,vI t.L,vI t.I,vI t.Ah,vI t.Ai,vI t.Ac,vI t.Aa,vI t.N]) O O O (AC O (AC O (AC O (AC O (AC bu.one (AC bv.one (AC bw.one (AC O (AC O (AC O (AC O (AC O (AC O (AC O (AC O (AC O (AC O (AC O Es)))))))))))))))))) IM O cp .head O O λge an a2=>AZ (kp [6,7,111,110,0,112] O) (L9 17 mo (by kernel_rfl) O an (AA O (DN O O (AG DZ O (AG Iv O (AT CQ an O (mt mh) O LW O (AA O (ES (vs:=[.string t.H,vI t.B,vI t.G,vI t.C,be,bf,bg,vI t.R,vI t.Ab,vI t.Aj,vI t.Al,vI t.L,vI t.I,vI t.Ah,vI t.Ai,vI t.Ac,vI t.Aa,vI t.N]) CQ an O mh O O IM O O (AA O (DN O O (AG DZ O (AG Iv O (AT CQ an O (mt mh) O LW O (AA O ?_))))))))))))))
  obtain⟨gf,cq,E⟩:=bd E
  refine BX an (mt (mt (mt (mt mh)))) O O LB cq O λgg cr=>?_
  obtain⟨gh,cs,E⟩:=bd E
  have er:=an.epAt (mt (mt (mt (mt mh)))) cs GO.id cr
  refine Cq CQ (λ_ x=>x) O er H1 (λe=>by cases e) O λgi es=>?_
  obtain⟨bx,ct,E⟩:=bd E
  refine DW O O O nN O (λh' o=>Rc (St.all h') (Ct.mk (x:=t) ec ed ee ef ((bu.mono' a2).mono' (o.all an.1)) ((bv.mono' a2).mono' (o.all an.1)) ((bw.mono' a2).mono' (o.all an.1)) eg eh ei ej ek el em en eo ep eq) (es.mono (o.all an.1)) ct) λet=>?_
  obtain⟨eu,ev⟩:=et
  obtain⟨gj,cu,E⟩:=bd E
  refine BX an (mt (mt (mt (mt mh)))) O O LB cu O λgl cv=>Kq λgm cw ew=>?_
  obtain⟨ey,cx,E⟩:=bd E
  refine Fd (r:=Bz) (l:=au) (i:=aq) (x:=ey) O O (Bz.mk (x:=bx) ⟨eu,ev⟩) cv cx MS.id H1 (λe=>by cases e) cw (.tail (.tail (.tail (.tail .head)))) λgn cy ez=>AZ (kp [111,110,0,112] O) (B7 (CL (.inl O) (A9 O (AA O (AN (kp [112,111,110,0] O) (WF.nil (λaa ww hf hw=>?_)))))))
  have cz:=cy.sel [1,1,1,1,1,1,1,1,1] 1 O
  exact⟨(Bw (aq+1)),(upd au aq bx),_,_,hf.sub (kp [111,110,0,112] O),hw,cz,(bc.trans (bt.trans (a2.trans (ew.trans ez)))),(B5 _),E⟩
 refine Lh O (WF.nil (λaa ww hf hw=>?_))
 cases E
 exact K5 hf O hw K4 O (a7.trans (br.trans bc)) ⟨_,O,az⟩
def Oh (j:St S L h) {b:Value}{g:(List Int)}(c:Sl S h AJ b g) {a:Int}(k:AH a) {r:Int}(E:J8 N g a=some r):
 DK prog 81 #[b,vI a] S h (λv S' h'=>v=vI r∧AH r∧St S' (L) h'):=by
 refine B0 (l:=[b,vI a]) 24 func81 O ntmps81 O λB=>?_
 rw[J8] at E
 refine AI (AM O (kp [0,1] O) (AE (AI (AA O (BI O (AA O (AW 5 12 (.bool ((decide (a<0))||(decide ((↑g.length:Int)≤a)))) ?_ ?_)))))))
 ·cases D:(decide (a<0))
  ·exact AB O (AA O (AB O (AA O (AB O (BE O c CA O λF=>AB O (HY O (AL O (AV O))))))))
  exact A4 O O
 refine AA O ?_
 obtain⟨u,d,E⟩:=bd E
 refine AW 6 19 (.bool u) ?_ ?_
 ·cases t:((decide (a<0))||(decide ((↑g.length:Int)≤a)))
  ·have d:=Hj t d
   refine AB O (AA O (AB O (AA O (AB O ?_))))
   obtain⟨G,m,d⟩:=bd d
   refine B1 O O c CA m O λH w=>AB O (BC Bu j.1 O w BA O λI=>AB O (BI O (AL O ?_)))
   cases d
   exact AV O
  have d:=Hi t d
  cases d
  exact A4 O O
 refine AN (kp [19,0,1] O) (AY O E (λx E=>?_) (λx E=>?_))
 ·refine AI (AM O (kp [4] O) (A5 (λy z o p=>?_)))
  cases E
  exact Em o p O O (C9.refl S h) ⟨O,(iq (n:=0) O),j⟩
 refine AS (AI (AA O (AA O ?_)))
 obtain⟨A,i,E⟩:=bd E
 refine B1 O O c CA i O λC q=>BC Bu j.1 O q BA O λs=>AM O (kp [4] O) (A5 (λy z o p=>?_))
 cases E
 exact Em o p O O (C9.refl S h) ⟨O,s,j⟩
def RW (hs:St S L h) {k:Value}{d:(List Int)}(j:Sl S h AJ k d) {c:Int}(s:AH c) {b:Int}(G:AH b) {g:Int}(u:AH g) {r:(List Int)}(E:Kz N d c b g=some r):
 DK prog 58 #[k,vI c,vI b,vI g] S h (λv S' h'=>St S' (OS AJ 3 v r::L) h'):=by
 refine B0 (l:=[k,vI c,vI b,vI g]) 56 func58 O ntmps58 O λB=>?_
 rw[Kz] at E
 refine AI (AM O (kp [0,1,2,3] O) (WF.sl (AF 2 (AA O (BE O j CA O λb1=>AD ?_)))))
 obtain⟨aj,E⟩:=LO E
 refine Jl (r:=AJ) (zx:=0) GM O ⟨O,by unfold AH;omega⟩ O O aj O O hs λv3 h4 ak e6=>AF 1 (A0 O (AD (AZ (kp [9,0,1,2,3] O) (WF.sl (AF 2 (AA O (AA O (AD (Td (r:=AJ) (l:=(List.replicate ((↑d.length:Int):Int).toNat (0:Int))) (xs:=d) O O CA (Sl.src (j.mono' e6)) O ak .head λh8 H C=>AZ (kp [9,0,1,2,3] O) (AE (Cn (.inl O) H (AA O (AA O (AA O ?_))))))))))))))
 obtain⟨m,I,E⟩:=bd E
 refine DW O O O dR O (λh' o=>Oh (St.all h') ((j.mono' (e6.trans C)).mono' (o.all H.1)) s I) λal=>?_
 have am:=al
 refine RB O O O (A0 O (B9 (kp [10,9,0,1,2] O) λJ n K=>AE (AI (AA O (CV O (AA O (AW 3 27 (.bool ((decide (0<(min g m)))&&(decide (0≤b)))) ?_ ?_)))))))
 ·cases a1:(decide (0<(min g m)))
  ·exact A4 O O
  exact AB O (AA O (AB O (HY O (AL O (AV O)))))
 refine AA O (AW 5 33 (.bool (((decide (0<(min g m)))&&(decide (0≤b)))&&(decide (b<(↑d.length:Int))))) ?_ ?_)
 ·cases a2:((decide (0<(min g m)))&&(decide (0≤b)))
  ·exact A4 O O
  exact AB O (AA O (AB O (AA O (AB O (BE O (j.mono' (e6.trans (C.trans K))) CA O λa3=>AB O (BI O (AL O (AV O))))))))
 refine AA O (AW 4 38 (.bool ((((decide (0<(min g m)))&&(decide (0≤b)))&&(decide (b<(↑d.length:Int))))&&(decide (c≠b)))) ?_ ?_)
 ·cases a4:(((decide (0<(min g m)))&&(decide (0≤b)))&&(decide (b<(↑d.length:Int))))
  ·exact A4 O O
  exact AB O (AA O (AB O (AA O (AB O (Cg O (AL O (AV O)))))))
 refine AN (kp [38,10,9,1,2] O) (He (λa w=>∃(D:List Int),IV B S J (56,[]) a w [(9,v3)] (OS AJ 3 v3 D::L) λ_ _=>KQ N D=some r) ?_ ?_)
 ·refine AY O E (λan E=>?_) (λan E=>?_)
  ·refine WF.sl (AF 7 (AA O (AA O ?_)))
   obtain⟨a5,M,E⟩:=bd E
   refine BX n mh O O CA M O λa6 Q=>?_
   obtain⟨F,U,E⟩:=bd E
   have ao:=n.epAt mh U GO.id Q
   refine BC Bu (λ_ x=>x) O ao BA O λa7=>AA O (Dl O ?_)
   obtain⟨a8,V,E⟩:=bd E
   refine BX n mh O O CA V O λa9 W=>AD ?_
   obtain⟨ap,X,E⟩:=bd E
   refine Fd (r:=AJ) (l:=(Ns (List.replicate ((↑d.length:Int):Int).toNat (0:Int)) d)) (i:=c) (x:=ap) O O (⟨_,O,O,(B5 _)⟩:Rd _ _ AJ _ (Bw (F-(min g m)))) W X MS.id BA (λ_=>rfl) n .head λba t aq=>AZ (kp [10,9,2] O) (FG (AF 7 (AA O (AA O (AA O (AA O ?_))))))
   obtain⟨bb,Y,E⟩:=bd E
   refine BX t mh O O CA Y O λbc Z=>?_
   obtain⟨be,ab,E⟩:=bd E
   have ar:=t.epAt mh ab GO.id Z
   refine BC Bu (λ_ x=>x) O ar BA O λau=>AA O (AD ?_)
   obtain⟨ac,ad,E⟩:=bd E
   refine CG O O O SK O t (JE (St.all _) au (MM u am) ad) λbf bg bh y av bi p=>?_
   obtain⟨rfl,aw,a0⟩:=p
   refine AF 1 ?_
   obtain⟨bj,ae,E⟩:=bd E
   refine BX y mh O O CA ae O λbk af=>AD ?_
   obtain⟨ax,ag,E⟩:=bd E
   refine Fd (r:=AJ) (l:=(upd (Ns (List.replicate ((↑d.length:Int):Int).toNat (0:Int)) d) c (Bw (F-(min g m))))) (i:=b) (x:=ax) O O (⟨_,O,O,aw⟩:Rd _ _ AJ _ ac) af ag MS.id BA (λ_=>rfl) y .head λbl ah ay=>AZ (kp [9] O) (WF.nil (λaa ww z A=>?_))
   exact⟨(upd (upd (Ns (List.replicate ((↑d.length:Int):Int).toNat (0:Int)) d) c (Bw (F-(min g m)))) b ac),_,_,z.sub (kp [9] O),A,ah,(aq.trans (av.trans ay)),E⟩
  refine AS (WF.nil (λaa ww z A=>?_))
  exact⟨(Ns (List.replicate ((↑d.length:Int):Int).toNat (0:Int)) d),_,_,z.sub (kp [9] O),A,n,(C9.refl S J),E⟩
 rintro aa ww ⟨D,bm,bn,z,A,ai,az,E⟩
 refine A6 ?_ z A
 clear z A ww aa
 rw[KQ] at E
 refine AI (AA O (AM O (kp [8] O) (A5 (λaa ww z A=>?_))))
 cases E
 exact Em z A O O (e6.trans (C.trans (K.trans az))) ai
def Ny {c:Nat}{p0_w:AX}{af:Value}{ag:Value}{ah:Value}{ai:Value}{aj:Value}{ak:Value}{am:Value}{an:Value}{Z:Value}{ab:Value}{ac:Value}{ad:Value}{t:Value}{g:Value}{u:Value}{ae:Value}{x:Value}{y:Value}{z:Value}{I:Value}{K:Value}{Q:Value}(hs:St S (Bx c 84 [.string p0_w.b.H,af,vI p0_w.b.T,ag,ah,ai,aj,ak,am,an,vI p0_w.b.V,Z,ab,ac,ad,t,vI p0_w.s.D,g,u,ae,x,y,z,I,K,Q]::OO AJ 3 29 g p0_w.s.F::OS AJ 3 u p0_w.s.O::OS Bz 69 x p0_w.s.P::OS AJ 3 y p0_w.s.S::OS AJ 3 z p0_w.s.U::OS CJ 50 I p0_w.moves::OS AJ 3 K p0_w.peaks::OS BJ 60 Q p0_w.sent::L) h) (ci:p0_w.b.H.size≤maxLen) (av:Sl S h BZ.str af p0_w.b.J) (cj:AH p0_w.b.T) (ax:Sl S h Cw ag p0_w.b.A) (ck:Sl S h Ct ah p0_w.b.E) (cl:Sl S h HL ai p0_w.b.Am) (cm:Sl S h Fc aj p0_w.b.Au) (cn:Sl S h HN ak p0_w.b.Av) (co:Sl S h Dy am p0_w.b.Ay) (cp:Sl S h AJ an p0_w.b.Ax) (bp:AH p0_w.b.V) (bq:Sl S h AJ Z p0_w.in_.X) (br:Sl S h Gc ab p0_w.in_.Ap) (bs:Sl S h JX ac p0_w.in_.At) (bt:Sl S h Gd ad p0_w.in_.Ad) (ar:Sl S h HM t p0_w.in_.Ba) (bu:AH p0_w.s.D) (bv:Sl S h BJ ae p0_w.s.M) {r:(List (List Int))}(E:Fo N p0_w=some r):
 DK prog 31 #[vP c 0] S h (λv S' h'=>∃aw:Value,v= .tuple #[]∧St S' (Bx c 84 [.string p0_w.b.H,af,vI p0_w.b.T,ag,ah,ai,aj,ak,am,an,vI p0_w.b.V,Z,ab,ac,ad,t,vI p0_w.s.D,aw,u,ae,x,y,z,I,K,Q]::OO AJ 3 29 aw r::OS AJ 3 u p0_w.s.O::OS Bz 69 x p0_w.s.P::OS AJ 3 y p0_w.s.S::OS AJ 3 z p0_w.s.U::OS CJ 50 I p0_w.moves::OS AJ 3 K p0_w.peaks::OS BJ 60 Q p0_w.sent::L) h'):=by
 refine B0 (l:=[vP c 0]) 70 func31 O ntmps31 O λB=>?_
 rw[Fo] at E
 refine AI (AA O (DN O O (AG Np O (AG WW O (AT Bu hs O mh O cQ O (BE O ar YE O λb1=>AA O (AN (kp [10,9,8,0] O) (BY (BV (λn0=>λa w=>∃(i5:Int) (l7:List (List Int)),IV B S h (70,[]) a w [(9,vI (↑p0_w.in_.Ba.length:Int)),(8,t),(0,vP c 0),(10,vI i5)] (Bx c 84 [.string p0_w.b.H,af,vI p0_w.b.T,ag,ah,ai,aj,ak,am,an,vI p0_w.b.V,Z,ab,ac,ad,t,vI p0_w.s.D,g,u,ae,x,y,z,I,K,Q]::OO AJ 3 29 g l7::OS AJ 3 u p0_w.s.O::OS Bz 69 x p0_w.s.P::OS AJ 3 y p0_w.s.S::OS AJ 3 z p0_w.s.U::OS CJ 50 I p0_w.moves::OS AJ 3 K p0_w.peaks::OS BJ 60 Q p0_w.sent::L) λ_ _=>AH i5∧C5 N p0_w n0 i5 l7=some r) N ?_ ?_ ?_)))))))))
 ·intro aa ww hf hw
  exact⟨0,p0_w.s.F,_,_,hf.sub (kp [9,8,0,10] O),hw,hs,(C9.refl S h),(iq (n:=0) O),E⟩
 ·rintro aa ww ⟨_,_,_,_,_,_,_,_,_,E⟩
  rw[C5] at E;cases E
 rintro n0 aa ww ⟨i5,l7,S8,h9,hf,hw,a1,ay,r6,E⟩
 refine A6 ?_ hf hw
 clear hf hw ww aa
 rw[C5] at E
 refine AI (BI O (AN (kp [11,9,8,0,10] O) (AE (AY O E (λdh E=>?_) (λdh E=>?_)))))
 ·refine AS (AE (BH (λa w=>∃(bn:List (List Int)),IV B S8 h9 (70,[]) a w [(9,vI (↑p0_w.in_.Ba.length:Int)),(8,t),(0,vP c 0),(10,vI i5)] (Bx c 84 [.string p0_w.b.H,af,vI p0_w.b.T,ag,ah,ai,aj,ak,am,an,vI p0_w.b.V,Z,ab,ac,ad,t,vI p0_w.s.D,g,u,ae,x,y,z,I,K,Q]::OO AJ 3 29 g bn::OS AJ 3 u p0_w.s.O::OS Bz 69 x p0_w.s.P::OS AJ 3 y p0_w.s.S::OS AJ 3 z p0_w.s.U::OS CJ 50 I p0_w.moves::OS AJ 3 K p0_w.peaks::OS BJ 60 Q p0_w.sent::L) λ_ _=>GR N i5 (C5 N p0_w n0) bn=some r) ?_ ?_))
  ·refine WF.sl (AF 2 ?_)
   obtain⟨ao,cq,E⟩:=bd E
   refine B1 O O (ar.mono' ay) YE cq O λfh di=>Cq Bu a1.1 O di X3 (λe=>by cases e) O λfi dj=>AD (Di eM O a1 λaz fj cr a0=>?_)
   obtain⟨rfl,⟨bw,cs,ct,dk⟩⟩:=HM.ex (dj.mono a0)
   refine Ek (vs:=[vI ao.An,vI ao.G,vI ao.C,vI ao.Bd]) O O O O X3 O cr .head O λfk au a2=>AZ (kp [3,9,8,0,10] O) (AE (Cn (.inr ⟨mo,by kernel_rfl⟩) au (AG Q3 O (AT CQ au O mh O BA O (AA O (DN O O (AG HQ O (AG D1 O (AT CQ au O (mt mh) O G7 O (BE O (ax.mono' (ay.trans (a0.trans a2))) GL O λdl=>?_))))))))))
   obtain⟨dm,cu,E⟩:=bd E
   refine BU O O O Pn O (λh' o=>HE (St.all h') bw (KY dl) cu) (AA O ?_)
   obtain⟨cv,ap,E⟩:=bd E
   refine AW 10 33 (.bool cv) ?_ ?_
   ·cases cw:dm
    ·have ap:=Hj cw ap
     cases ap
     exact A4 O O
    have ap:=Hi cw ap
    refine AB O (AG Ua O (AB O (AT CQ au O mh O BA O (AB O (AA O (AB O (DN O O (AB O (AG HQ O (AB O (AG Ib O (AB O (AT CQ au O (mt mh) O LA O (AB O (BE O (av.mono' (ay.trans (a0.trans a2))) Ku O λdn=>AB O ?_)))))))))))))))
    obtain⟨fl,cx,ap⟩:=bd ap
    refine BU O O O Pn O (λh' o=>HE (St.all h') cs (KY dn) cx) (AL O ?_)
    cases ap
    exact AV O
   refine AA O ?_
   obtain⟨dp,aq,E⟩:=bd E
   refine AW 10 44 (.bool dp) ?_ ?_
   ·cases cy:cv
    ·have aq:=Hj cy aq
     cases aq
     exact A4 O O
    have aq:=Hi cy aq
    refine AB O (AG UZ O (AB O (AT CQ au O mh O BA O (AB O (AA O (AB O (DN O O (AB O (AG HQ O (AB O (AG Ib O (AB O (AT CQ au O (mt mh) O LA O (AB O (BE O (av.mono' (ay.trans (a0.trans a2))) Ku O λdq=>AB O ?_)))))))))))))))
    obtain⟨fm,cz,aq⟩:=bd aq
    refine BU O O O Pn O (λh' o=>HE (St.all h') ct (KY dq) cz) (AL O ?_)
    cases aq
    exact AV O
   refine B9 (kp [44,3,9,8,0,10] O) λdr d c0=>AY O E (λds E=>?_) (λds E=>?_)
   ·obtain ⟨fn,c1,E⟩:=bd E
    obtain⟨dt,c2,E⟩:=bd E
    obtain⟨c3,c4,E⟩:=bd E
    obtain⟨fo,c5,E⟩:=bd E
    refine TT (m:=[(3,vP az 0),(9,vI (↑p0_w.in_.Ba.length:Int)),(8,t),(0,vP c 0),(10,vI i5)]) [24] [] [] (by kernel_rfl) (λgv X F i v hh=>match i with|0=>v=vP c 0|1=>v=vP c 0|2=>v=vP c 16|3=>v=vP c 17|4=>v=g|5=>v=vP az 0|6=>v=vI ao.An∧AH ao.An|7=>v=vP c 0|8=>v=vP c 0|9=>v=vP c 16|10=>v=vP c 17|11=>v=g|12=>v=vP az 0|13=>v=vI ao.An∧AH ao.An|14=>EP g (ao.An.toNat*((BZ.sl AJ)).sz+0) v|15=>Sl (λb=>b<hh.size) hh AJ v dt|16=>v=vP az 1|17=>v=vI ao.G∧AH ao.G|18=>v=vP az 2|19=>v=vI ao.C∧AH ao.C|20=>v=vP az 3|21=>v=vI ao.Bd∧AH ao.Bd|22=>OW S8 dr X F [OS AJ 3 v c3] hh|23=>EP g (ao.An.toNat*((BZ.sl AJ)).sz+0) v|_=>False) [[],[(0,45)],[(1,46)],[(2,47)],[(3,48)],[],[(5,50)],[],[(7,52)],[(8,53)],[(9,54)],[(10,55)],[],[(12,57)],[(11,56),(13,58)],[(14,59)],[],[(16,61)],[],[(18,63)],[],[(20,65)],[(15,60),(17,62),(19,64),(21,66)],[(4,49),(6,51)],[]] [(22,67),(23,68)] mo (by kernel_rfl) [3,9,8,0,10] O (by kernel_rfl) (by kernel_rfl) (by kernel_rfl) O (kp [3,9,8,0,10] O) (λgv i v h1 h2 X X' F o1 o2 hF u1 u2 Y=>?_) (λgv fp X F i v h1 hz Y=>?_) ?_ ?_ ?_
    ·match i,Y with
      |0,Y|1,Y|2,Y|3,Y|4,Y|5,Y|6,Y|7,Y|8,Y|9,Y|10,Y|11,Y|12,Y|13,Y|14,Y|16,Y|17,Y|18,Y|19,Y|20,Y|21,Y|23,Y=>exact Y
      |15,Y=>exact Sl.mono Y (λb hb=>qZ hb o2.siz) (λb hb=>o2.same b hb)
      |22,Y=>exact OW.mono d.1 o1 o2 hF u1 u2 Y
      |_+24,Y=>exact Y.elim
    ·match i,Y with
      |0,Y|1,Y|2,Y|3,Y|4,Y|5,Y|6,Y|7,Y|8,Y|9,Y|10,Y|11,Y|12,Y|13,Y|14,Y|15,Y|16,Y|17,Y|18,Y|19,Y|20,Y|21,Y|22,Y|23,Y=>exact Y
      |_+24,Y=>exact Y.elim
    ·exact trivial
    ·refine DA.cons O O ?_ ?_
     ·intro gv X mq hh o hX
      have W:=o.st d
      exact AF 1 (AA O (AO O))
     refine DA.cons O O ?_ ?_
     ·intro gv X mq hh o hX
      have W:=o.st d
      intro fq bx
      obtain⟨ef,_,_,bx⟩:=bx
      cases bx
      exact AF 1 (DN O O (AO O))
     refine DA.cons O O ?_ ?_
     ·intro gv X mq hh o hX
      have W:=o.st d
      intro fr bz
      obtain⟨eg,_,_,bz⟩:=bz
      cases bz
      exact AF 1 (AG DZ O (AO O))
     refine DA.cons O O ?_ ?_
     ·intro gv X mq hh o hX
      have W:=o.st d
      intro fs b0
      obtain⟨eh,_,_,b0⟩:=b0
      cases b0
      exact AF 1 (AG EF O (AO O))
     refine DA.cons O O ?_ ?_
     ·intro gv X mq hh o hX
      have W:=o.st d
      intro ft b2
      obtain⟨ei,_,_,b2⟩:=b2
      cases b2
      exact AF 1 (AT Bu W O (mt mh) O HO O (AO O))
     refine DA.cons O O ?_ ?_
     ·intro gv X mq hh o hX
      have W:=o.st d
      exact AF 1 (AG Q3 O (AO O))
     refine DA.cons O O ?_ ?_
     ·intro gv X mq hh o hX
      have W:=o.st d
      intro fu b3
      obtain⟨ej,_,_,b3⟩:=b3
      cases b3
      exact AF 1 (AT Bu W O mh O BA O (AO ⟨O,bw⟩))
     refine DA.cons O O ?_ ?_
     ·intro gv X mq hh o hX
      have W:=o.st d
      exact AF 1 (AA O (AO O))
     refine DA.cons O O ?_ ?_
     ·intro gv X mq hh o hX
      have W:=o.st d
      intro fv b4
      obtain⟨ek,_,_,b4⟩:=b4
      cases b4
      exact AF 1 (DN O O (AO O))
     refine DA.cons O O ?_ ?_
     ·intro gv X mq hh o hX
      have W:=o.st d
      intro fw b5
      obtain⟨el,_,_,b5⟩:=b5
      cases b5
      exact AF 1 (AG DZ O (AO O))
     refine DA.cons O O ?_ ?_
     ·intro gv X mq hh o hX
      have W:=o.st d
      intro fx b6
      obtain⟨em,_,_,b6⟩:=b6
      cases b6
      exact AF 1 (AG EF O (AO O))
     refine DA.cons O O ?_ ?_
     ·intro gv X mq hh o hX
      have W:=o.st d
      intro fy a3
      obtain⟨du,_,_,a3⟩:=a3
      cases a3
      exact AF 1 (AT Bu W O (mt mh) O HO O (AO O))
     refine DA.cons O O ?_ ?_
     ·intro gv X mq hh o hX
      have W:=o.st d
      exact AF 1 (AG Q3 O (AO O))
     refine DA.cons O O ?_ ?_
     ·intro gv X mq hh o hX
      have W:=o.st d
      intro en a4
      obtain⟨dv,_,_,a4⟩:=a4
      cases a4
      exact AF 1 (AT Bu W O mh O BA O (AO ⟨O,bw⟩))
     refine DA.cons O O ?_ ?_
     ·intro gv X mq hh o hX
      have W:=o.st d
      intro eo a5 ep a6
      obtain⟨dw,_,_,a5⟩:=a5
      cases a5
      obtain⟨dx,_,_,a6⟩:=a6
      obtain⟨rfl,eq⟩:=a6
      exact AF 1 (O9 (r:=AJ) W (mt (mt mh)) O O Fl c1 O λer b7=>AO b7)
     refine DA.cons O O ?_ ?_
     ·intro gv X mq hh o hX
      have W:=o.st d
      intro es a7
      obtain⟨dy,_,_,a7⟩:=a7
      exact AF 1 (Ta (r:=AJ) Bu W (mt (mt mh)) O c2 a7 CH O λet dz c6=>AO c6)
     refine DA.cons O O ?_ ?_
     ·intro gv X mq hh o hX
      have W:=o.st d
      exact AF 1 (AG Ua O (AO O))
     refine DA.cons O O ?_ ?_
     ·intro gv X mq hh o hX
      have W:=o.st d
      intro eu a8
      obtain⟨d0,_,_,a8⟩:=a8
      cases a8
      exact AF 1 (AT Bu W O mh O BA O (AO ⟨O,cs⟩))
     refine DA.cons O O ?_ ?_
     ·intro gv X mq hh o hX
      have W:=o.st d
      exact AF 1 (AG UZ O (AO O))
     refine DA.cons O O ?_ ?_
     ·intro gv X mq hh o hX
      have W:=o.st d
      intro ev a9
      obtain⟨d1,_,_,a9⟩:=a9
      cases a9
      exact AF 1 (AT Bu W O mh O BA O (AO ⟨O,ct⟩))
     refine DA.cons O O ?_ ?_
     ·intro gv X mq hh o hX
      have W:=o.st d
      exact AF 1 (AG ZN O (AO O))
     refine DA.cons O O ?_ ?_
     ·intro gv X mq hh o hX
      have W:=o.st d
      intro ew ba
      obtain⟨d2,_,_,ba⟩:=ba
      cases ba
      exact AF 1 (AT Bu W O mh O BA O (AO ⟨O,dk⟩))
     refine NY O O ?_ ?_
     ·intro gv X mq hh o hX
      have W:=SX.fz (X:=X) d o
      intro ey bb ez bc e0 be e1 bf
      obtain⟨d3,_,_,bb⟩:=bb
      obtain⟨d4,_,_,bc⟩:=bc
      obtain⟨rfl,c7⟩:=bc
      obtain⟨d5,_,_,be⟩:=be
      obtain⟨rfl,c8⟩:=be
      obtain⟨d6,_,_,bf⟩:=bf
      obtain⟨rfl,c9⟩:=bf
      refine CG O O O mP O W (RW (St.all _) bb c7 c8 c9 c4) λe2 e3 e4 d7 da db p=>?_
      have b8:=p
      have bg:=W.join db b8 ⟨OS.flat (λ{_ _ _ _ _ _} k=>k),trivial⟩
      simp only[rW,rQ] at bg
      have d8:=bg.pick (.tail .head)
      obtain⟨dc,b9,dd,e5,de⟩:=OW.done d.1 o hX da d8
      exact Dt dd ⟨dc,b9,de⟩
     refine DA.cons O O ?_ ?_
     ·intro gv X mq hh o hX
      have W:=o.st d
      intro e6 bh e7 bi
      obtain⟨d9,_,_,bh⟩:=bh
      cases bh
      obtain⟨ea,_,_,bi⟩:=bi
      obtain⟨rfl,e8⟩:=bi
      exact AF 1 (O9 (r:=AJ) W (mt (mt mh)) O O Fl c5 O λe9 ca=>AO ca)
     exact DA.skip (by kernel_rfl) (trivial)
    intro fa eb ec bo bj cb fb bk fc bl
    obtain⟨ed,bk⟩:=bk
    obtain⟨ee,bl⟩:=bl
    have bm:=(Vh.cons (Vh.nil d bo bj) cb (j:=22) O bk).st
    simp only[rW,rQ] at bm
    obtain⟨fd,cc,E⟩:=bd E
    have cd:=bm.sel [0,2,0,0,0,0,0,0,0,0,0] 0 O
    refine Wx (r:=AJ) (i:=ao.An) O O bl cc CH cd λfe ce df=>AZ (kp [9,8,0,10] O) (WF.nil (λaa ww hf hw=>?_))
    have cf:=ce.sel [2,0,1,1,1,1,1,1,1] 1 O
    exact⟨(upd l7 ao.An c3),_,_,hf.sub (kp [9,8,0,10] O),hw,cf,(a0.trans (a2.trans (c0.trans ((SX.ext d.1 bo (Z2 bj)).trans df)))),E⟩
   refine AS (WF.nil (λaa ww hf hw=>?_))
   have cg:=d.sel [1,1,1,1,1,1,1,1,1] 1 O
   exact⟨l7,_,_,hf.sub (kp [9,8,0,10] O),hw,cg,(a0.trans (a2.trans c0)),E⟩
  rintro aa ww ⟨bn,ff,fg,hf,hw,ch,dg,E⟩
  refine A6 ?_ hf hw
  clear hf hw ww aa
  rw[GR] at E
  refine CL (.inl O) (A9 O (AA O (AN (kp [10,9,8,0] O) (WF.nil (λaa ww hf hw=>?_)))))
  exact⟨(Bw (i5+1)),bn,_,_,hf.sub (kp [9,8,0,10] O),hw,ch,(ay.trans dg),(B5 _),E⟩
 refine Lh O (WF.nil (λaa ww hf hw=>?_))
 cases E
 exact K5 hf O hw K4 O ay ⟨_,O,a1⟩
end Go.Proofs.YtblcgjadhemlbaaGreat
