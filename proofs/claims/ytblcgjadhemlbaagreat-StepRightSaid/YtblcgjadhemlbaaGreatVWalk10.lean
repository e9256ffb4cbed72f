import Derived.Test.YtblcgjadhemlbaaGreatVWalk9
import Derived.Test.YtblcgjadhemlbaaGreatVSort5
namespace Go.Proofs.YtblcgjadhemlbaaGreat
set_option linter.all false
open Go.RowKit
open Go.Proofs.Tryz
set_option maxRecDepth 10000
set_option maxHeartbeats 2000000
variable {N:Nat}{S:Nat→Prop}{L:List HP}{h:BL}
def Ma (m:St S L h) {a:Value}{c:(List Int)}(d:Sl S h AJ a c) {g:Value}{c1_:Gh}(i:Pt S h GV g c1_) {r:(List Int)×(List Int)}(E:Dj N c1_ c=some r):
 C5 prog 83 #[a,g] S h (λv S' h'=>∃n o:Value,v= .tuple #[n,o]∧St S' (OS AJ 3 n r.1::OS AJ 3 o r.2::L) h'):=by
 refine Bv (l:=[a,g]) 13 func83 O ntmps83 O λB=>?_
 rw[Dj] at E
 refine AI (AY O (AM O (kp [0,1] O) (WF.sl (AF 5 (AA O (A8 O i Q0 VO O λK z=>A9 BY m.1 O z A7 O λA=>A8 O i Gh.f_Litres VN O λM C=>A9 BY m.1 O C A7 O λD=>AG ?_))))))
 obtain⟨Q,t,E⟩:=bd E
 refine CJ O O O iF O m (Qq (St.all _) (d.mono (λb F=>m.1 b F) (λ_ _=>rfl)) A D t) λU V G y u w p=>?_
 obtain⟨H,I,rfl,s⟩:=p
 have j:=m.join w s ⟨OS.flat (λ{_ _ _ _ _ _} k=>k),⟨OS.flat (λ{_ _ _ _ _ _} k=>k),trivial⟩⟩
 simp only[oG,nX] at j
 refine AF 4 (CS O (CS O (AY O (AY O (AG (AZ (kp [4,3] O) (A5 (λW X x J=>?_))))))))
 cases E
 exact Kn x O J (Ix (JP x (v:=_) O) (Ix (JP x (v:=_) O) Km)) O u ⟨_,_,O,j⟩
def NU {V:Nat}{p0_w:A4}{W:Value}{X:Value}{Y:Value}{Z:Value}{ab:Value}{ac:Value}{ad:Value}{ae:Value}{z:Value}{C:Value}{I:Value}{u:Value}{K:Value}{c:Value}{d:Value}{g:Value}{i:Value}{j:Value}{k:Value}{m:Value}{p:Value}{t:Value}(hs:St S (Bx V 84 [.string p0_w.b.F,W,vI p0_w.b.R,X,Y,Z,ab,ac,ad,ae,vI p0_w.b.U,z,C,I,u,K,vI p0_w.s.B,c,d,g,i,j,k,m,p,t]::OS (BW.sl AJ) 29 c p0_w.s.G::OS AJ 3 d p0_w.s.M::OS BI 60 g p0_w.s.J::OS Bu 69 i p0_w.s.Q::OS AJ 3 j p0_w.s.O::OS AJ 3 k p0_w.s.P::OS CF 50 m p0_w.moves::OS AJ 3 p p0_w.peaks::OS BI 60 t p0_w.sent::L) h) (bf:p0_w.b.F.size≤maxLen) (ar:Sl S h BW.str W p0_w.b.H) (bg:AH p0_w.b.R) (ak:Sl S h Cd X p0_w.b.A) (bh:Sl S h Ce Y p0_w.b.E) (bi:Sl S h HB Z p0_w.b.Ag) (bj:Sl S h FL ab p0_w.b.Aq) (bk:Sl S h G2 ac p0_w.b.At) (bl:Sl S h Dh ad p0_w.b.Av) (bm:Sl S h AJ ae p0_w.b.Au) (a4:AH p0_w.b.U) (a5:Sl S h AJ z p0_w.in_.Aa) (a6:Sl S h GL C p0_w.in_.Am) (a7:Sl S h JE I p0_w.in_.Ar) (an:Sl S h GV u p0_w.in_.Ae) (a8:Sl S h HC K p0_w.in_.Az) (a9:AH p0_w.s.B) {aj:Int}(cc:AH aj) {r:(List AK)}(E:H2 N p0_w aj=some r):
 C5 prog 62 #[vP V 0,vI aj] S h (λv S' h'=>St S' (OS BJ 111 v r::Bx V 84 [.string p0_w.b.F,W,vI p0_w.b.R,X,Y,Z,ab,ac,ad,ae,vI p0_w.b.U,z,C,I,u,K,vI p0_w.s.B,c,d,g,i,j,k,m,p,t]::OS (BW.sl AJ) 29 c p0_w.s.G::OS AJ 3 d p0_w.s.M::OS BI 60 g p0_w.s.J::OS Bu 69 i p0_w.s.Q::OS AJ 3 j p0_w.s.O::OS AJ 3 k p0_w.s.P::OS CF 50 m p0_w.moves::OS AJ 3 p p0_w.peaks::OS BI 60 t p0_w.sent::L) h'):=by
 refine Bv (l:=[vP V 0,vI aj]) 85 func62 O ntmps62 O λB=>?_
 rw[H2] at E
 refine AI (AM O (kp [0,1] O) (AI (AM O (kp [5,0,1] O) (AE (AI (AA O (C7 O O (AD NL O (AD VQ O (AS BY hs O mh O Z1 O (BC O an Wy O λb1=>AA O (AN (kp [14,13,12,5,0,1] O) (BF (λa w=>∃(v2:Value) (l3:List AK),IV B S h (85,[]) a w [(5,v2)] (OS BJ 111 v2 l3::Bx V 84 [.string p0_w.b.F,W,vI p0_w.b.R,X,Y,Z,ab,ac,ad,ae,vI p0_w.b.U,z,C,I,u,K,vI p0_w.s.B,c,d,g,i,j,k,m,p,t]::OS (BW.sl AJ) 29 c p0_w.s.G::OS AJ 3 d p0_w.s.M::OS BI 60 g p0_w.s.J::OS Bu 69 i p0_w.s.Q::OS AJ 3 j p0_w.s.O::OS AJ 3 k p0_w.s.P::OS CF 50 m p0_w.moves::OS AJ 3 p p0_w.peaks::OS BI 60 t p0_w.sent::L) λ_ _=>DL N l3=some r) ?_ ?_)))))))))))))
 ·refine BT (λn1=>λa w=>∃(v8:Value) (l9:List AK) (ap:Int),IV B S h (85,[]) a w [(13,vI (↑p0_w.in_.Ae.length:Int)),(12,u),(0,vP V 0),(1,vI aj),(5,v8),(14,vI ap)] (OS BJ 111 v8 l9::Bx V 84 [.string p0_w.b.F,W,vI p0_w.b.R,X,Y,Z,ab,ac,ad,ae,vI p0_w.b.U,z,C,I,u,K,vI p0_w.s.B,c,d,g,i,j,k,m,p,t]::OS (BW.sl AJ) 29 c p0_w.s.G::OS AJ 3 d p0_w.s.M::OS BI 60 g p0_w.s.J::OS Bu 69 i p0_w.s.Q::OS AJ 3 j p0_w.s.O::OS AJ 3 k p0_w.s.P::OS CF 50 m p0_w.moves::OS AJ 3 p p0_w.peaks::OS BI 60 t p0_w.sent::L) λ_ _=>AH ap∧Cb N p0_w aj (DL N) n1 l9 ap=some r) N ?_ ?_ ?_
  ·intro aa ww hf hw
   have bn:=hs.nil BJ 111
   exact⟨(vN),([]:List AK),0,_,_,hf.sub (kp [13,12,0,1,5,14] O),hw,bn,(Cv.refl S h),(iq (n:=0) O),E⟩
  ·rintro aa ww ⟨_,_,_,_,_,_,_,_,_,_,E⟩
   rw[Cb] at E;cases E
  rintro n1 aa ww ⟨v8,l9,ap,cd,ce,hf,hw,aw,au,c6,E⟩
  refine A6 ?_ hf hw
  clear hf hw ww aa
  rw[Cb] at E
  refine AI (BK O (AN (kp [15,13,12,0,1,5,14] O) (AE (AX O E (λcf E=>?_) (λcf E=>?_)))))
  ·refine AT (AE (BF (λa w=>∃(az:Value) (a1:List AK),IV B cd ce (85,[]) a w [(13,vI (↑p0_w.in_.Ae.length:Int)),(12,u),(0,vP V 0),(1,vI aj),(14,vI ap),(5,az)] (OS BJ 111 az a1::Bx V 84 [.string p0_w.b.F,W,vI p0_w.b.R,X,Y,Z,ab,ac,ad,ae,vI p0_w.b.U,z,C,I,u,K,vI p0_w.s.B,c,d,g,i,j,k,m,p,t]::OS (BW.sl AJ) 29 c p0_w.s.G::OS AJ 3 d p0_w.s.M::OS BI 60 g p0_w.s.J::OS Bu 69 i p0_w.s.Q::OS AJ 3 j p0_w.s.O::OS AJ 3 k p0_w.s.P::OS CF 50 m p0_w.moves::OS AJ 3 p p0_w.peaks::OS BI 60 t p0_w.sent::L) λ_ _=>F6 N ap (Cb N p0_w aj (DL N) n1) a1=some r) ?_ ?_))
   ·refine WF.sl (AF 2 ?_)
    obtain⟨ai,bo,E⟩:=bd E
    refine Bz O O (an.mono' au) Wy bo O λc7 cg=>Ci BY aw.1 O cg Zx (λe=>by cases e) O λc8 ch=>AG (Di eL O aw λa2 c9 bp aq=>?_)
    obtain⟨rfl,⟨ci,bq,cj,ba⟩⟩:=GV.ex (ch.mono aq)
    refine EW (vs:=[vI ai.Ax,vI ai.Bi,vI ai.Be,vI ai.D]) O O O O Zx O bp .head O λda ao av=>AZ (kp [7,13,12,0,1,5,14] O) (AE (AE (CX (.inr ⟨mo,by kernel_rfl⟩) ao (AD ZH O (AS CL ao O mh O A7 O (AA O (CW O (AA O ?_))))))))
    obtain⟨bb,am,E⟩:=bd E
    refine AW 11 33 (.bool bb) ?_ ?_
    ·cases br:(decide (ai.Ax≠aj))
     ·have am:=HG br am
      refine AB O (AD VO O (AB O (AS CL ao O mh O A7 O (AB O (AA O (AB O (C7 O O (AB O (AD G4 O (AB O (AD If O (AB O (AS CL ao O (mt (mt mh)) O LA O (AB O (BC O (ar.mono' (au.trans (aq.trans av))) Kt O λck=>AB O ?_)))))))))))))))
      obtain⟨db,bs,am⟩:=bd am
      refine BR O O O PC O (λh' o=>Gv (St.all h') bq (J9 ck) bs) (AB O (CE O (AL O ?_)))
      cases am
      exact AV O
     have am:=HE br am
     cases am
     exact A3 O O
    refine AA O (AW 4 38 (.bool (bb||(decide (ai.Be≤0)))) ?_ ?_)
    ·cases dc:bb
     ·exact AB O (AD VN O (AB O (AS CL ao O mh O A7 O (AB O (HO O (AL O (AV O)))))))
     exact A3 O O
    refine B3 (kp [38,7,13,12,0,1,5,14] O) λdd af ax=>AX O E (λcl E=>?_) (λcl E=>?_)
    ·refine By O (λaa ww hf hw=>?_)
     have bt:=af.sel [1,1,1,1,1,1,1,1,1,1,1] 1 O
     exact⟨v8,l9,_,_,hf.sub (kp [13,12,0,1,14,5] O),hw,bt,(aq.trans (av.trans ax)),E⟩
    refine AT (AE (AE (CX (.inr ⟨mo,by kernel_rfl⟩) af (AD Ph O (AS CL af O mh O A7 O (CW O (AA O ?_)))))))
    obtain⟨cm,ag,E⟩:=bd E
    refine AW 33 75 (.bool cm) ?_ ?_
    ·cases bu:(decide (ai.D≠(-1)))
     ·have ag:=HG bu ag
      cases ag
      exact A3 O O
     have ag:=HE bu ag
     refine AB O (AD Ph O (AB O (AS CL af O mh O A7 O (AB O (AA O (AB O (C7 O O (AB O (AD G4 O (AB O (AD Do O (AB O (AS CL af O (mt (mt mh)) O Gu O (AB O (BC O (ak.mono' (au.trans (aq.trans (av.trans ax)))) Fy O λcn=>AB O ?_)))))))))))))))
     obtain⟨co,bv,ag⟩:=bd ag
     refine BR O O O PC O (λh' o=>Gv (St.all h') ba (J9 cn) bv) (AB O (CE O (AB O (AA O ?_))))
     obtain⟨cp,ah,ag⟩:=bd ag
     refine AW 21 74 (.bool cp) ?_ ?_
     ·cases bw:(!co)
      ·have ah:=HG bw ah
       refine AB O (AA O (AB O (C7 O O (AB O (AD G4 O (AB O (AD Do O (AB O (AS CL af O (mt (mt mh)) O Gu O (AB O (AD Ph O (AB O (AS CL af O mh O A7 O (AB O ?_))))))))))))))
       have a3:=au.trans (aq.trans (av.trans ax))
       obtain⟨de,bx,ah⟩:=bd ah
       refine Bz O O (ak.mono' a3) Fy bx O λdf cq=>AB O (A8 O cq Iv MG O λdg cr=>AB O (A9 CL af.1 O cr A7 O λdh=>AB O (AA O (AB O (C7 O O (AB O (AD G4 O (AB O (AD Do O (AB O (AS CL af O (mt (mt mh)) O Gu O (AB O (AA O (AB O ?_))))))))))))))
       obtain⟨di,bz,ah⟩:=bd ah
       refine Bz O O (ak.mono' a3) Fy bz O λdj ct=>AB O (A8 O ct Iv MG O λdk cu=>AB O (A9 CL af.1 O cu A7 O λdl=>AB O (CW O (AB O (AL O ?_)))))
       cases ah
       exact AV O
      have ah:=HE bw ah
      cases ah
      exact A3 O O
     refine AL O ?_
     cases ag
     exact AV O
    refine B3 (kp [75,7,13,12,0,1,5,14] O) λcv ay b0=>AX O E (λcw E=>?_) (λcw E=>?_)
    ·refine By O (λaa ww hf hw=>?_)
     have b2:=ay.sel [1,1,1,1,1,1,1,1,1,1,1] 1 O
     exact⟨v8,l9,_,_,hf.sub (kp [13,12,0,1,14,5] O),hw,b2,(aq.trans (av.trans (ax.trans b0))),E⟩
    refine AT (FO (AF 5 (AA O (AD Ph O (AS BY ay O mh O A7 O (Oz O O O (Ik (cs:=[vI ai.D,vI 0,vI (-3),.func (.func 83) #[] #[vP a2 0]]) Ol O O O (AG ?_))))))))
    obtain⟨cx,b3,cy,cz⟩:=ay.pubb (r:=GV) (x:=ai) .head ⟨O,⟨ci,bq,cj,ba⟩⟩
    have b4:Rd cx cv (BW.fnr prog (λS h vs (x:(List Int))=>∃w0:Value,vs=[w0]∧Sl S h AJ w0 x) (λS h v (y:((List Int)×(List Int)))=>∃w0 w1:Value,v= .tuple #[w0,w1]∧Sl S h AJ w0 y.1∧Sl S h AJ w1 y.2)) (.func (.func 83) #[] #[(vP a2 0)]) (λx=>Dj N ai x):=Ki 83 #[(vP a2 0)] iG λS' h' s' e' L hs x y vs h1 h2=>by obtain⟨w0,rfl,a0⟩:=h1;exact NE (Ma hs a0 (cz.mono'' s' e') h2)
    refine Em (cs:=[vI ai.D,vI 0,vI (-3),(.func (.func 83) #[] #[(vP a2 0)])]) Lj O O O O O O O b3 λdm dn b5 b6=>?_
    obtain⟨b7,E⟩:=Mc E
    refine Vn (r:=BJ) (l:=l9) (xs:=([(⟨ai.D,0,(-3),(λx=>Dj N ai x)⟩:AK)]:List AK)) O O Lj O mh ⟨_,_,O,⟨_,O,ba,(iq (n:=0) O),(iq (n:=(-3)) O),(b4.mono b6)⟩,O⟩ O O b7 O b5 (λ_=>(.tail .head)) λc0 dp b8 c1=>?_
    have b9:=b8.drop .head
    refine AF 1 (AY O (AG (AZ (kp [5,13,12,0,1,14] O) (WF.nil (λaa ww hf hw=>?_)))))
    exact⟨c0,(l9++([(⟨ai.D,0,(-3),(λx=>Dj N ai x)⟩:AK)]:List AK)),_,_,hf.sub (kp [13,12,0,1,14,5] O),hw,b9,(aq.trans (av.trans (ax.trans (b0.trans (cy.trans (b6.trans c1)))))),E⟩
   rintro aa ww ⟨az,a1,c2,c3,hf,hw,bc,ca,E⟩
   refine A6 ?_ hf hw
   clear hf hw ww aa
   rw[F6] at E
   refine CN (.inl O) (BB O (AA O (AN (kp [14,13,12,0,1,5] O) (WF.nil (λaa ww hf hw=>?_)))))
   exact⟨az,a1,(B0 (ap+1)),_,_,hf.sub (kp [13,12,0,1,5,14] O),hw,bc,(au.trans ca),(B1 _),E⟩
  refine By O (λaa ww hf hw=>?_)
  exact⟨v8,l9,_,_,hf.sub (kp [5] O),hw,aw,au,E⟩
 rintro aa ww ⟨v2,l3,c4,c5,hf,hw,be,cb,E⟩
 refine A6 ?_ hf hw
 clear hf hw ww aa
 rw[DL] at E
 refine AI (AA O (AM O (kp [4] O) (A5 (λaa ww hf hw=>?_))))
 cases E
 exact Ee hf hw O O cb be
def JR (u:St S L h) {c:Int}(i:AH c) {a:Int}(d:AH a) {b:Int}(g:AH b) {r:Int}(E:HU N c a b=some r):
 C5 prog 104 #[vI c,vI a,vI b] S h (λv S' h'=>v=vI r∧AH r∧St S' (L) h'):=by
 refine Bv (l:=[vI c,vI a,vI b]) 21 func104 O ntmps104 O λB=>?_
 rw[HU] at E
 refine AI (AM O (kp [0,1,2] O) (AE (CX (.inl O) u (AA O (AA O (AA O ?_))))))
 obtain⟨j,m,E⟩:=bd E
 refine It (v:= .tuple #[vI j.1,vI j.2.1,.bool j.2.2]) (Ψ:=AH j.1∧AH j.2.1) O O O Tu O (λh' o=>(Is (St.all h') i d g m).mono λ_ _ _ _ p=>⟨p.1,⟨p.2.1,p.2.2.1⟩⟩) λw=>?_
 obtain⟨x,C⟩:=w
 refine AA O (CS O (CS O (CS O (AY O (AY O (AY O (B3 (kp [9,7] O) λD k t=>AE (AI (AA O (CE O (AN (kp [19,7] O) (AX O E (λy E=>?_) (λy E=>?_)))))))))))))
 ·refine AI (AM O (kp [6] O) (A5 (λz A q s=>?_)))
  cases E
  exact Ee q s O O t ⟨O,(iq (n:=0) O),k⟩
 refine AT (AI (AA O (AM O (kp [6] O) (A5 (λz A q s=>?_)))))
 cases E
 exact Ee q s O O t ⟨O,x,k⟩
def Qu (K:St S L h) {c:Value}{k:BQ}(j:Rd S h Ce c k) {a:Int}(b:AH a) {d:Int}(g:AH d) {r:Int}(E:Kf N k a d=some r):
 C5 prog 106 #[c,vI a,vI d] S h (λv S' h'=>v=vI r∧AH r∧St S' (L) h'):=by
 refine Bv (l:=[c,vI a,vI d]) 20 func106 O ntmps106 O λB=>?_
 rw[Kf] at E
 refine WF.sl (Cm O j (λe=>by cases e) O K λq1 S2 h3 i J t=>AF 1 (AY O (AG (AZ (kp [3,1,2] O) (AE (AI (A8 O t BQ.f_To Id O λq7 M=>A9 BY i.1 O M A7 O λr9=>B9 O (AN (kp [9,3,1,2] O) (AX O E (λu E=>?_) (λu E=>?_))))))))))
 ·refine AI (AA O (AM O (kp [6] O) (A5 (λQ U w x=>?_))))
  cases E
  exact Ee w x O O J ⟨O,b,i⟩
 refine AT (AE (CX (.inl O) i (AA O (AA O (A8 O t Iw LI O λV y=>A9 CL i.1 O y A7 O λz=>A8 O t Hy Ka O λW A=>A9 CL i.1 O A A7 O λC=>?_)))))
 obtain⟨X,m,E⟩:=bd E
 refine DF O O O QT O (λh' o=>JR (St.all h') g z C m) λD=>?_
 have F:=D
 obtain⟨Y,p,E⟩:=bd E
 refine DF O O O Tw O (λh' o=>JV (St.all h') b F p) λG=>?_
 have H:=G
 refine QU O O O (AY O (B3 (kp [6] O) λZ s I=>A5 (λQ U w x=>?_)))
 cases E
 exact Ee w x O O (J.trans I) ⟨O,(Ow (iq (n:=0) O) H),s⟩
def ST (w:St S L h) {a:Value}{g:(List B4)}(b:Sl S h CY a g) {c:Int}(d:AH c) {r:Int}(E:LK N g c=some r):
 C5 prog 105 #[a,vI c] S h (λv S' h'=>v=vI r∧AH r∧St S' (L) h'):=by
 refine Bv (l:=[a,vI c]) 17 func105 O ntmps105 O λB=>?_
 rw[LK] at E
 refine AI (AM O (kp [0,1] O) (AE (AE (CX (.inl O) w (AA O ?_)))))
 obtain⟨D,k,E⟩:=bd E
 refine BR O O O QQ O (λh' o=>G9 (St.all h') (b.mono' (o.all w.1)) k) (CE O (B3 (kp [9,0,1] O) λF i m=>AX O E (λx E=>?_) (λx E=>?_)))
 ·refine AI (AM O (kp [4] O) (A5 (λy z p q=>?_)))
  cases E
  exact Ee p q O O m ⟨O,(iq (n:=0) O),i⟩
 refine AT (AE (CX (.inl O) i (AA O (AA O ?_))))
 obtain⟨G,s,E⟩:=bd E
 refine DF O O O Ua O (λh' o=>Kp (St.all h') ((b.mono' m).mono' (o.all i.1)) d s) λA=>?_
 have t:=A
 refine AA O (CS O (CS O (AY O (AY O (B3 (kp [5] O) λC j u=>AI (AA O (AM O (kp [4] O) (A5 (λy z p q=>?_)))))))))
 cases E
 exact Ee p q O O (m.trans u) ⟨O,t,j⟩
def Qv (hs:St S L h) {y:Value}{t:BQ}(I:Rd S h Ce y t) {i:Int}(u:AH i) {c:Bool}{s:Value}{F:(List B4)}(J:Sl S h CY s F) {b:Int}(j:AH b) {k:Int}(G:AH k) {r:Int}(E:Kg N t i c F b k=some r):
 C5 prog 97 #[y,vI i,.bool c,s,vI b,vI k] S h (λv S' h'=>v=vI r∧AH r∧St S' (L) h'):=by
 refine Bv (l:=[y,vI i,.bool c,s,vI b,vI k]) 63 func97 O ntmps97 O λB=>?_
 rw[Kg] at E
 refine WF.sl (Cm O I (λe=>by cases e) O hs λq1 S2 D z M k6=>AF 1 (AY O (AG (AZ (kp [6,1,2,3,4,5] O) (AE (AI (A8 O k6 BQ.f_Kind G5 O λq7 k8=>A9 BY z.1 O k8 A7 O λr9=>AN (kp [14,6,1,2,3,4,5] O) (BF (λa w=>IV B S2 D (63,[]) a w [] (L) λ_ _=>IW N=some r) ?_ ?_))))))))
 ·refine AE (BF (λa w=>IV B S2 D (63,[]) a w [(6,q1),(4,vI b)] (L) λ_ _=>IU N t b=some r) ?_ ?_)
  ·refine AE (BF (λa w=>IV B S2 D (63,[]) a w [(6,q1),(2,.bool c),(4,vI b)] (L) λ_ _=>J2 N c (IU N t b)=some r) ?_ ?_)
   ·refine AE (BF (λa w=>IV B S2 D (63,[]) a w [(6,q1),(2,.bool c),(4,vI b)] (L) λ_ _=>J1 N t c b (IW N)=some r) ?_ ?_)
    ·refine AE (BF (λa w=>IV B S2 D (63,[]) a w [(6,q1),(1,vI i)] (L) λ_ _=>J0 N t i=some r) ?_ ?_)
     ·refine AE (BF (λa w=>IV B S2 D (63,[]) a w [(6,q1),(1,vI i),(3,s),(4,vI b),(5,vI k)] (L) λ_ _=>Jz N t i F b k=some r) ?_ ?_)
      ·refine AE (AE (AI (B9 O (AM O (kp [15,14,6,1,2,3,4,5] O) (AX O E (λaz E=>?_) (λaz E=>?_))))))
       ·refine By O (λm p d g=>?_)
        exact⟨_,_,d.sub (kp [6,1,3,4,5] O),g,z,(Cv.refl S2 D),E⟩
       refine AT (AE (AI (B9 O (AM O (kp [17,14,6,1,2,4] O) (AX O E (λa0 E=>?_) (λa0 E=>?_))))))
       ·refine By O (λm p d g=>?_)
        exact⟨_,_,d.sub (kp [6,1] O),g,z,(Cv.refl S2 D),E⟩
       refine AT (AE (AI (B9 O (AM O (kp [19,14,6,2,4] O) (AX O E (λa1 E=>?_) (λa1 E=>?_))))))
       ·refine By O (λm p d g=>?_)
        exact⟨_,_,d.sub (kp [6,2,4] O),g,z,(Cv.refl S2 D),E⟩
       refine AT (AE (AI (B9 O (AM O (kp [21,14,6,2,4] O) (AX O E (λa2 E=>?_) (λa2 E=>?_))))))
       ·refine By O (λm p d g=>?_)
        exact⟨_,_,d.sub (kp [6,2,4] O),g,z,(Cv.refl S2 D),E⟩
       refine AT (AI (B9 O (AM O (kp [23,6,4] O) (AX O E (λa3 E=>?_) (λa3 E=>?_)))))
       ·refine By O (λm p d g=>?_)
        exact⟨_,_,d.sub (kp [6,4] O),g,z,(Cv.refl S2 D),E⟩
       refine AT (By O (λm p d g=>?_))
       exact⟨_,_,d.sub PO,g,z,(Cv.refl S2 D),E⟩
      rintro m p ⟨ca,cb,d,g,x,Q,E⟩
      refine A6 ?_ d g
      clear d g p m
      rw[Jz] at E
      refine AE (AE (CX (.inr ⟨mo,by kernel_rfl⟩) x (AA O ?_)))
      have U:=k6.mono Q
      refine Ci CL x.1 O U IJ (λe=>by cases e) O λcc a4=>AA O (AA O ?_)
      obtain⟨cd,ab,E⟩:=bd E
      refine DF O O O cY O (λh' o=>Qu (St.all h') (a4.mono (o.all x.1)) j G ab) λa5=>?_
      have a6:=a5
      obtain⟨ce,ac,E⟩:=bd E
      refine DF O O O cZ O (λh' o=>ST (St.all h') ((J.mono' (M.trans Q)).mono' (o.all x.1)) a6 ac) λa7=>?_
      have a8:=a7
      refine AA O (A8 O U Ep Jr O λcf a9=>A9 CL x.1 O a9 A7 O λba=>?_)
      obtain⟨cg,ad,E⟩:=bd E
      refine DF O O O QT O (λh' o=>JR (St.all h') a8 u ba ad) λbb=>?_
      have bc:=bb
      refine A8 O U MR SG O λch be=>A9 CL x.1 O be A7 O λbf=>?_
      obtain⟨ci,ae,E⟩:=bd E
      refine DF O O O Rb O (λh' o=>Iy (St.all h') bc bf ae) λbg=>?_
      have bh:=bg
      refine AY O (B3 (kp [12] O) λcj af bi=>A5 (λm p d g=>?_))
      cases E
      exact Ee d g O O (M.trans (Q.trans bi)) ⟨O,bh,af⟩
     rintro m p ⟨ck,cl,d,g,H,ag,E⟩
     refine A6 ?_ d g
     clear d g p m
     rw[J0] at E
     refine AE (AE (CX (.inl O) H ?_))
     have ah:=k6.mono ag
     refine A8 O ah BQ.f_Num I8 O λcm bj=>A9 CL H.1 O bj A7 O λbk=>AA O (A8 O ah Ep Jr O λcn bl=>A9 CL H.1 O bl A7 O λbm=>?_)
     obtain⟨co,ai,E⟩:=bd E
     refine DF O O O QT O (λh' o=>JR (St.all h') bk u bm ai) λbn=>?_
     have bo:=bn
     refine AY O (B3 (kp [12] O) λcp aj bp=>A5 (λm p d g=>?_))
     cases E
     exact Ee d g O O (M.trans (ag.trans bp)) ⟨O,bo,aj⟩
    rintro m p ⟨cq,cr,d,g,A,V,E⟩
    refine A6 ?_ d g
    clear d g p m
    rw[J1] at E
    refine AE (AI (AA O (AN (kp [44,6,4] O) (AX O E (λbq E=>?_) (λbq E=>?_)))))
    ·refine AE (CX (.inl O) A (AA O ?_))
     have ak:=k6.mono V
     refine A8 O ak BQ.f_Num I8 O λcs br=>A9 CL A.1 O br A7 O λbs=>A8 O ak BQ.f_Den Jt O λct bt=>A9 CL A.1 O bt A7 O λbu=>?_
     obtain⟨cu,al,E⟩:=bd E
     refine DF O O O QT O (λh' o=>JR (St.all h') j bs bu al) λbv=>?_
     have bw:=bv
     refine AY O (B3 (kp [12] O) λcv am bx=>A5 (λm p d g=>?_))
     cases E
     exact Ee d g O O (M.trans (V.trans bx)) ⟨O,bw,am⟩
    refine AT (By O (λm p d g=>?_))
    exact⟨_,_,d.sub PO,g,A,V,E⟩
   rintro m p ⟨cw,cx,d,g,K,an,E⟩
   refine A6 ?_ d g
   clear d g p m
   rw[J2] at E
   refine AI (AA O (CE O (AN (kp [52,6,4] O) (AX O E (λbz E=>?_) (λbz E=>?_)))))
   ·refine AI (AM O (kp [12] O) (A5 (λm p d g=>?_)))
    cases E
    exact Ee d g O O (M.trans an) ⟨O,(iq (n:=0) O),K⟩
   refine AT (WF.nil (λm p d g=>?_))
   exact⟨_,_,d.sub (kp [6,4] O),g,K,an,E⟩
  rintro m p ⟨cy,cz,d,g,C,ao,E⟩
  refine A6 ?_ d g
  clear d g p m
  rw[IU] at E
  refine AE (AE (CX (.inr ⟨mo,by kernel_rfl⟩) C (AA O ?_)))
  have W:=k6.mono ao
  refine A8 O W Lm SF O λc0 b0=>A9 CL C.1 O b0 A7 O λb1=>?_
  obtain⟨c1,ap,E⟩:=bd E
  refine DF O O O Tw O (λh' o=>JV (St.all h') j b1 ap) λb2=>?_
  have b3:=b2
  refine QU O O O (A8 O W BQ.f_Num I8 O λc2 b4=>A9 CL C.1 O b4 A7 O λaq=>A8 O W BQ.f_Den Jt O λb5 ar=>A9 CL C.1 O ar A7 O λau=>?_)
  obtain⟨b6,X,E⟩:=bd E
  refine DF O O O QT O (λh' o=>JR (St.all h') (Ow (iq (n:=0) O) b3) aq au X) λav=>?_
  have aw:=av
  refine AY O (B3 (kp [12] O) λb7 Y ax=>A5 (λm p d g=>?_))
  cases E
  exact Ee d g O O (M.trans (ao.trans ax)) ⟨O,aw,Y⟩
 rintro m p ⟨b8,b9,d,g,Z,ay,E⟩
 refine A6 ?_ d g
 clear d g p m
 rw[IW] at E
 refine AI (AM O (kp [12] O) (A5 (λm p d g=>?_)))
 cases E
 exact Ee d g O O (M.trans ay) ⟨O,(iq (n:=0) O),Z⟩
def SA (M:St S L h) {c:Value}{n:BQ}(k:Rd S h Ce c n) {d:Value}{p:BH}(m:Rd S h Bu d p) {a:Int}(i:AH a) {g:Int}(j:AH g) {r:Int}(E:LJ N n p a g=some r):
 C5 prog 85 #[c,d,vI a,vI g] S h (λv S' h'=>v=vI r∧AH r∧St S' (L) h'):=by
 refine Bv (l:=[c,d,vI a,vI g]) 19 func85 O ntmps85 O λB=>?_
 rw[LJ] at E
 refine WF.sl (Cm O k (λe=>by cases e) O M λq1 S2 h3 y K Q=>Cm O (m.mono K) (λe=>by cases e) O y λq8 S9 U b s t=>AF 1 (AY O (AG (AZ (kp [5,4,2,3] O) (AE (CX (.inl O) b ?_))))))
 have u:=Q.mono s
 refine Ci CL b.1 O u IJ (λe=>by cases e) O λV z=>A8 O t T4 NM O λW A=>A9 CL b.1 O A A7 O λC=>A8 O t So OM O λX D=>dR CL b.1 O D PH O (A8 O u J7 NN O λY F=>BG CL b.1 O F I4 O λZ G=>AA O (AA O ?_))
 obtain⟨ab,w,E⟩:=bd E
 refine DF O O O iA O (λh' o=>Qv (St.all h') (z.mono (o.all b.1)) C (G.mono' (o.all b.1)) i j w) λH=>?_
 have I:=H
 refine AY O (B3 (kp [8] O) λac x J=>A5 (λaa ww hf hw=>?_))
 cases E
 exact Ee hf hw O O (K.trans (s.trans J)) ⟨O,I,x⟩
def I6 (g:St S L h) {a:Int}(b:AH a) {r:Int}(E:Gq N a=some r):
 C5 prog 66 #[vI a] S h (λv S' h'=>∃c:Value,v= .func (.func 89) #[] #[c]∧Pt S' h' AJ c r∧St S' (L) h'):=by
 refine Bv (l:=[vI a]) 4 func66 O ntmps66 O λB=>?_
 rw[Gq] at E
 refine WF.sl (Cm O (⟨_,O,O,b⟩:Rd _ _ AJ _ a) (λ_=>rfl) O g λn S2 o d i j=>AF 1 (AY O (AG (AZ (kp [1] O) (AI (Oz O O O (AM O (kp [2] O) (A5 (λp s k m=>?_)))))))))
 cases E
 exact Ee k m O O i ⟨_,O,j,d⟩
def PS (hs:St S L h) {c:Int}(G:AH c) {j:Value}{b:(List Int)}(k:Sl S h AJ j b) {r:(List Int)×Bool}(E:JT N c b=some r):
 C5 prog 101 #[vI c,j] S h (λv S' h'=>∃bx:Value,v= .tuple #[bx,.bool r.2]∧St S' (OS AJ 3 bx r.1::L) h'):=by
 refine Bv (l:=[vI c,j]) 112 func101 O ntmps101 O λB=>?_
 rw[JT] at E
 refine AI (AY O (AM O (kp [0,1] O) (AE (AI (AA O (BC O k CA O λb1=>CP O (AN (kp [22,0,1] O) (AX O E (λc2 E=>?_) (λc2 E=>?_)))))))))
 ·refine AI (AY O (AM O (kp [5,4] O) (A5 (λy z m d=>?_))))
  have c7:=hs.nil AJ 3
  cases E
  exact Kn m O d (Ix (JP m (v:=_) O) (Ix (JP m (v:=_) O) Km)) O (Cv.refl S h) ⟨_,O,c7⟩
 refine AT (AI (AM O (kp [6,0,1] O) (AE (AI (AA O (BC O k CA O λb4=>AA O (AN (kp [25,24,23,6,0,1] O) (BF (λa w=>∃(i5:Int),IV B S h (112,[]) a w [(0,vI c),(1,j),(6,vI i5)] (L) λ_ _=>AH i5∧FI N c b i5=some r) ?_ ?_))))))))
 ·refine BT (λn1=>λa w=>∃(Q:Int) (ad:Int),IV B S h (112,[]) a w [(24,vI (↑b.length:Int)),(23,j),(0,vI c),(1,j),(6,vI Q),(25,vI ad)] (L) λ_ _=>AH Q∧AH ad∧FG N b (FI N c b) n1 Q ad=some r) N ?_ ?_ ?_
  ·intro y z m d
   exact⟨0,0,_,_,m.sub (kp [24,23,0,1,6,25] O),d,hs,(Cv.refl S h),(iq (n:=0) O),(iq (n:=0) O),E⟩
  ·rintro y z ⟨_,_,_,_,_,_,_,_,_,_,E⟩
   rw[FG] at E;cases E
  rintro n1 y z ⟨Q,ad,ee,ef,m,d,Z,ao,c8,eg,E⟩
  refine A6 ?_ m d
  clear m d z y
  rw[FG] at E
  refine AI (BK O (AN (kp [26,24,23,0,1,6,25] O) (AE (AX O E (λc9 E=>?_) (λc9 E=>?_)))))
  ·refine AT (AE (BV (AI ?_)))
   obtain⟨ap,bz,E⟩:=bd E
   refine Bz O O (k.mono' ao) CA bz O λeh da=>A9 BY Z.1 O da A7 O λei=>AM O (kp [8,24,23,0,1,6,25] O) (AE (AI (AA O (BK O (AA O (AW 5 36 (.bool ((decide (ap<0))||(decide ((B0 (1125899906842624-Q))<ap)))) ?_ ?_))))))
   ·cases ej:(decide (ap<0))
    ·exact AB O (AA O (AB O (AA O (AB O (Dk O (AB O (CP O (AL O (AV O)))))))))
    exact A3 O O
   refine AN (kp [36,8,24,23,0,1,6,25] O) (AX O E (λdb E=>?_) (λdb E=>?_))
   ·refine AI (AY O (AM O (kp [5,4] O) (A5 (λy z m d=>?_))))
    have b0:=Z.nil AJ 3
    cases E
    exact Kn m O d (Ix (JP m (v:=_) O) (Ix (JP m (v:=_) O) Km)) O ao ⟨_,O,b0⟩
   refine AT (CN (.inl O) (AA O (AA O (BB O (AM O (kp [6,24,23,0,1,25] O) (B5 (CN (.inl O) (BB O (AA O (AN (kp [25,6,24,23,0,1] O) (WF.nil (λy z m d=>?_))))))))))))
   exact⟨(B0 (Q+ap)),(B0 (ad+1)),_,_,m.sub (kp [24,23,0,1,6,25] O),d,Z,ao,(B1 _),(B1 _),E⟩
  refine By O (λy z m d=>?_)
  exact⟨Q,_,_,m.sub (kp [0,1,6] O),d,Z,ao,c8,E⟩
 rintro y z ⟨i5,a4,ek,m,d,av,ab,r6,E⟩
 refine A6 ?_ m d
 clear m d z y
 rw[FI] at E
 refine AE (AI (AA O (BK O (AA O (AW 4 47 (.bool ((decide (c<0))||(decide (i5<c)))) ?_ ?_)))))
 ·cases el:(decide (c<0))
  ·exact AB O (AA O (AB O (AA O (AB O (CP O (AL O (AV O)))))))
  exact A3 O O
 refine AN (kp [47,0,1,6] O) (AX O E (λdc E=>?_) (λdc E=>?_))
 ·refine AI (AY O (AM O (kp [5,4] O) (A5 (λy z m d=>?_))))
  have b2:=av.nil AJ 3
  cases E
  exact Kn m O d (Ix (JP m (v:=_) O) (Ix (JP m (v:=_) O) Km)) O ab ⟨_,O,b2⟩
 refine AT (WF.sl (AF 2 (AA O (BC O (k.mono' ab) CA O λem=>AG ?_))))
 obtain⟨b3,E⟩:=Mc E
 refine Jk (r:=AJ) (zx:=0) GK O ⟨O,by unfold AH;omega⟩ O O b3 O O av λK en aw aq=>AF 1 (AY O (AG (AZ (kp [9,0,1,6] O) (AE (AI (AA O (B9 O (AN (kp [52,9,0,1,6] O) (AX O E (λdd E=>?_) (λdd E=>?_))))))))))
 ·refine AI (AA O (AY O (AM O (kp [5,4] O) (A5 (λy z m d=>?_)))))
  cases E
  exact Kn m O d (Ix (JP m (v:=_) O) (Ix (JP m (v:=_) O) Km)) O (ab.trans aq) ⟨_,O,aw⟩
 refine AT (WF.sl (AF 2 (AA O (BC O (k.mono' (ab.trans aq)) CA O λeo=>AG ?_))))
 obtain⟨b5,E⟩:=Mc E
 refine Jk (r:=AJ) (zx:=0) GK O ⟨O,by unfold AH;omega⟩ O O b5 O O aw λep eq b6 b7=>Di WU O b6 λae er ax b8=>?_
 obtain⟨H,t,rfl,es⟩:=ax.oslen (mt mh)
 refine EW (vs:=[(.slice H (List.replicate ((↑b.length:Int):Int).toNat (0:Int)).length t)]) O O O O CG O ax .head O λet b9 ca=>AZ (kp [10,9,0,1,6] O) (WF.sl (AF 2 (AA O ?_)))
 have ay:=ab.trans (aq.trans (b7.trans (b8.trans ca)))
 refine BC O (k.mono' ay) CA O λeu=>AG ?_
 obtain⟨cb,E⟩:=Mc E
 refine Jk (r:=AJ) (zx:=0) GK O ⟨O,by unfold AH;omega⟩ O O cb O O b9 λev ew cc cd=>Di WU O cc λaf ex az ce=>?_
 obtain⟨I,u,rfl,ey⟩:=az.oslen (mt mh)
 refine EW (vs:=[(.slice I (List.replicate ((↑b.length:Int):Int).toNat (0:Int)).length u)]) O O O O CG O az .head O λa5 cf cg=>AZ (kp [11,10,9,0,1,6] O) (AI (AA O (AM O (kp [12,11,10,9,0,1,6] O) (AE (AI (AA O ?_))))))
 have ch:=k.mono' (ay.trans (cd.trans (ce.trans cg)))
 refine BC O ch CA O λez=>AA O (AN (kp [63,62,61,12,11,10,9,0,6] O) (BF (λa w=>∃(ar:Int) (a6:List Int) (a7:List Int) (au:List Int),IV B a4 a5 (112,[]) a w [(11,vP af 0),(10,vP ae 0),(9,K),(12,vI ar)] (Bx af 29 [(.slice I (List.replicate ((↑b.length:Int):Int).toNat (0:Int)).length u)]::OS AJ 3 (.slice I (List.replicate ((↑b.length:Int):Int).toNat (0:Int)).length u) a6::Bx ae 29 [(.slice H (List.replicate ((↑b.length:Int):Int).toNat (0:Int)).length t)]::OS AJ 3 (.slice H (List.replicate ((↑b.length:Int):Int).toNat (0:Int)).length t) a7::OS AJ 3 K au::L) λ_ _=>AH ar∧FH N ar a6 a7 au=some r) ?_ ?_))
 ·refine BT (λn3=>λa w=>∃(ac:Int) (A:Int) (U:List Int) (V:List Int) (W:List Int),IV B a4 a5 (112,[]) a w [(62,vI (↑b.length:Int)),(61,j),(11,vP af 0),(10,vP ae 0),(9,K),(0,vI c),(6,vI i5),(12,vI ac),(63,vI A)] (Bx af 29 [(.slice I (List.replicate ((↑b.length:Int):Int).toNat (0:Int)).length u)]::OS AJ 3 (.slice I (List.replicate ((↑b.length:Int):Int).toNat (0:Int)).length u) U::Bx ae 29 [(.slice H (List.replicate ((↑b.length:Int):Int).toNat (0:Int)).length t)]::OS AJ 3 (.slice H (List.replicate ((↑b.length:Int):Int).toNat (0:Int)).length t) V::OS AJ 3 K W::L) λ_ _=>AH ac∧AH A∧FE N c b i5 (FH N) n3 ac A U V W=some r) N ?_ ?_ ?_
  ·intro y z m d
   exact⟨c,0,(List.replicate ((↑b.length:Int):Int).toNat (0:Int)),(List.replicate ((↑b.length:Int):Int).toNat (0:Int)),(List.replicate ((↑b.length:Int):Int).toNat (0:Int)),_,_,m.sub (kp [62,61,11,10,9,0,6,12,63] O),d,cf,(Cv.refl a4 a5),G,(iq (n:=0) O),E⟩
  ·rintro y z ⟨_,_,_,_,_,_,_,_,_,_,_,_,_,E⟩
   rw[FE] at E;cases E
  rintro n3 y z ⟨ac,A,U,V,W,dg,dh,m,d,X,ag,de,df,E⟩
  refine A6 ?_ m d
  clear m d z y
  rw[FE] at E
  refine AI (BK O (AN (kp [64,62,61,11,10,9,0,6,12,63] O) (AE (AX O E (λci E=>?_) (λci E=>?_)))))
  ·refine AT (AE (BV (AI (AA O ?_))))
   obtain⟨di,a8,E⟩:=bd E
   refine Bz O O (ch.mono' ag) CA a8 O λdj cj=>A9 BY X.1 O cj A7 O λck=>AY O (AM O (kp [14,13,62,61,11,10,9,0,6,12,63] O) (AE (CX (.inl O) X (AA O (AA O (AA O ?_))))))
   obtain⟨s,a9,E⟩:=bd E
   refine It (v:= .tuple #[vI s.1,vI s.2.1,.bool s.2.2]) (Ψ:=AH s.1∧AH s.2.1) O O O Tu O (λh' o=>(Is (St.all h') G ck r6 a9).mono λ_ _ _ _ p=>⟨p.1,⟨p.2.1,p.2.2.1⟩⟩) λcl=>?_
   obtain⟨cm,cn⟩:=cl
   refine AA O (CS O (CS O (CS O (AY O (AY O (AY O (B3 (kp [16,15,13,62,61,11,10,9,0,6,12,63] O) λdk g co=>AE (aX (λw=>w.heap[ae]? =some (.cells ([(.slice H (List.replicate ((↑b.length:Int):Int).toNat (0:Int)).length t)]:List Value).toArray 29 (0,0))∧w.heap[af]? =some (.cells ([(.slice I (List.replicate ((↑b.length:Int):Int).toNat (0:Int)).length u)]:List Value).toArray 29 (0,0))) mo (Qa 0 O (by kernel_rfl) (λw d=>⟨g.bxW (mt (mt mh)) d,g.bxW mh d⟩) O O (Qa 1 O (by kernel_rfl) (λw d=>⟨g.bxW (mt (mt mh)) d,g.bxW mh d⟩) O O (Qb 2 (vs:=[(.slice H (List.replicate ((↑b.length:Int):Int).toNat (0:Int)).length t)]) O (by kernel_rfl) (λw d=>⟨g.bxW (mt (mt mh)) d,g.bxW mh d⟩) O (λw d=>d.1) O O CG O O (Qa 3 O (by kernel_rfl) (λw d=>⟨g.bxW (mt (mt mh)) d,g.bxW mh d⟩) O O (Qb 4 (vs:=[(.slice I (List.replicate ((↑b.length:Int):Int).toNat (0:Int)).length u)]) O (by kernel_rfl) (λw d=>⟨g.bxW (mt (mt mh)) d,g.bxW mh d⟩) O (λw d=>d.2) O O CG O O (Qa 5 O (by kernel_rfl) (λw d=>⟨g.bxW (mt (mt mh)) d,g.bxW mh d⟩) O O (Qa 6 O (by kernel_rfl) (λw d=>⟨g.bxW (mt (mt mh)) d,g.bxW mh d⟩) O O (Qa 7 O (by kernel_rfl) (λw d=>⟨g.bxW (mt (mt mh)) d,g.bxW mh d⟩) O O (Qa 8 O (by kernel_rfl) (λw d=>⟨g.bxW (mt (mt mh)) d,g.bxW mh d⟩) O O ?_)))))))))))))))))
   obtain⟨dl,ba,E⟩:=bd E
   refine Ug 9 (r:=AJ) (xs:=W) O (by kernel_rfl) (λw d=>⟨g.bxW (mt (mt mh)) d,g.bxW mh d⟩) g (mt (mt (mt (mt mh)))) O O CA ba O λdm bb=>Zs 10 O O (by kernel_rfl) ?_
   obtain⟨cp,bc,E⟩:=bd E
   refine Fm (r:=AJ) (l:=W) (i:=A) (x:=cp) O O (⟨_,O,O,cm⟩:Rd _ _ AJ _ s.1) bb bc ML.id A7 (λ_=>rfl) g (.tail (.tail (.tail (.tail .head)))) λdn C cq=>Vo (λw d=>⟨C.bxW (mt (mt mh)) d,C.bxW mh d⟩) ?_
   obtain⟨dp,be,E⟩:=bd E
   refine Ug 11 (r:=AJ) (xs:=V) O (by kernel_rfl) (λw d=>⟨C.bxW (mt (mt mh)) d,C.bxW mh d⟩) C (mt (mt (mt mh))) O O CA be O λdq bf=>Zs 12 O O (by kernel_rfl) ?_
   obtain⟨cr,bg,E⟩:=bd E
   refine Fm (r:=AJ) (l:=V) (i:=A) (x:=cr) O O (⟨_,O,O,cn⟩:Rd _ _ AJ _ s.2.1) bf bg ML.id A7 (λ_=>rfl) C (.tail (.tail (.tail .head))) λdr D cs=>Vo (λw d=>⟨D.bxW (mt (mt mh)) d,D.bxW mh d⟩) ?_
   obtain⟨ds,bh,E⟩:=bd E
   refine Ug 13 (r:=AJ) (xs:=U) O (by kernel_rfl) (λw d=>⟨D.bxW (mt (mt mh)) d,D.bxW mh d⟩) D (mt mh) O O CA bh O λdt bi=>Zs 14 O O (by kernel_rfl) ?_
   obtain⟨ct,bj,E⟩:=bd E
   refine Fm (r:=AJ) (l:=U) (i:=A) (x:=ct) O O (⟨_,O,O,df⟩:Rd _ _ AJ _ A) bi bj ML.id A7 (λ_=>rfl) D (.tail .head) λdu Y cu=>Vo (λw d=>⟨Y.bxW (mt (mt mh)) d,Y.bxW mh d⟩) (Vp (by kernel_rfl) (kp [15,62,61,11,10,9,0,6,12,63] O) (CN (.inl O) (AA O (AA O (Dk O (AM O (kp [12,62,61,11,10,9,0,6,63] O) (B5 (CN (.inl O) (BB O (AA O (AN (kp [63,12,62,61,11,10,9,0,6] O) (WF.nil (λy z m d=>?_)))))))))))))
   exact⟨(B0 (ac-s.1)),(B0 (A+1)),(upd U A A),(upd V A s.2.1),(upd W A s.1),_,_,m.sub (kp [62,61,11,10,9,0,6,12,63] O),d,Y,(ag.trans (co.trans (cq.trans (cs.trans cu)))),(B1 _),(B1 _),E⟩
  refine By O (λy z m d=>?_)
  exact⟨ac,U,V,W,_,_,m.sub (kp [11,10,9,12] O),d,X,ag,de,E⟩
 rintro y z ⟨ar,a6,a7,au,dv,dw,m,d,ah,cv,e0,E⟩
 refine A6 ?_ m d
 clear m d z y
 rw[FH] at E
 refine WF.sl (AF 3 (AS BY ah O mh O CG O (Zf O gN O (Oz O O O (AG ?_)))))
 obtain⟨dx,bk,E⟩:=bd E
 refine DU O O O cW O (UI ah bk) λdy dz ai cw p=>?_
 obtain⟨rfl,bl⟩:=p
 refine AZ (kp [11,9,12] O) (AE (AE ?_))
 obtain⟨aj,ak,cx,cy⟩:=bl.pubs (.tail .head)
 refine CN (.inl O) (AS BY ak O mh O CG O (AA O ?_))
 obtain⟨a0,bm,E⟩:=bd E
 refine Zb O O cy CA bm O λcz a1=>BC O a1 CA O λd0=>AA O (AN (kp [100,99,98,9] O) (BF (λa w=>∃(am:List Int),IV B aj ai (112,[]) a w [(9,K)] (OS AJ 3 K am::L) λ_ _=>Gl N am=some r) ?_ ?_))
 ·refine BT (λn5=>λa w=>∃(M:Int) (J:List Int),IV B aj ai (112,[]) a w [(99,vI (↑a0.length:Int)),(98,cz),(9,K),(100,vI M)] (OS AJ 3 K J::L) λ_ _=>AH M∧FD N a0 (Gl N) n5 M J=some r) N ?_ ?_ ?_
  ·intro y z m d
   have bn:=ak.sel [3] 3 O
   exact⟨0,au,_,_,m.sub (kp [99,98,9,100] O),d,bn,(Cv.refl aj ai),(iq (n:=0) O),E⟩
  ·rintro y z ⟨_,_,_,_,_,_,_,_,_,E⟩
   rw[FD] at E;cases E
  rintro n5 y z ⟨M,J,d1,d2,m,d,F,an,d3,E⟩
  refine A6 ?_ m d
  clear m d z y
  rw[FD] at E
  refine AI (BK O (AN (kp [101,99,98,9,100] O) (AE (AX O E (λc0 E=>?_) (λc0 E=>?_)))))
  ·refine AT (AE (BV (AI ?_)))
   obtain⟨a2,bo,E⟩:=bd E
   refine Bz O O (a1.mono' an) CA bo O λd4 c1=>A9 BY F.1 O c1 A7 O λd5=>AM O (kp [19,99,98,9,100] O) (FO (AF 6 (AA O (AA O ?_))))
   obtain⟨d6,bp,E⟩:=bd E
   refine BU F mh O O CA bp O λd7 bq=>?_
   obtain⟨a3,br,E⟩:=bd E
   have c3:=F.epAt mh br GM.id bq
   refine A9 BY (λ_ x=>x) O c3 A7 O λd8=>BB O ?_
   obtain⟨d9,bs,E⟩:=bd E
   refine BU F mh O O CA bs O λea bt=>AG ?_
   obtain⟨c4,bu,E⟩:=bd E
   refine Fm (r:=AJ) (l:=J) (i:=a2) (x:=c4) O O (⟨_,O,O,(B1 _)⟩:Rd _ _ AJ _ (B0 (a3+1))) bt bu ML.id A7 (λ_=>rfl) F .head λeb bv c5=>AZ (kp [99,98,9,100] O) (B5 (CN (.inl O) (BB O (AA O (AN (kp [100,99,98,9] O) (WF.nil (λy z m d=>?_)))))))
   exact⟨(B0 (M+1)),(upd J a2 (B0 (a3+1))),_,_,m.sub (kp [99,98,9,100] O),d,bv,(an.trans c5),(B1 _),E⟩
  refine By O (λy z m d=>?_)
  exact⟨J,_,_,m.sub (kp [9] O),d,F,an,E⟩
 rintro y z ⟨am,ec,ed,m,d,bw,c6,E⟩
 refine A6 ?_ m d
 clear m d z y
 rw[Gl] at E
 refine AI (AA O (AY O (AM O (kp [5,4] O) (A5 (λy z m d=>?_)))))
 cases E
 exact Kn m O d (Ix (JP m (v:=_) O) (Ix (JP m (v:=_) O) Km)) O (ab.trans (aq.trans (b7.trans (b8.trans (ca.trans (cd.trans (ce.trans (cg.trans (cv.trans (cw.trans (cx.trans c6))))))))))) ⟨_,O,bw⟩
end Go.Proofs.YtblcgjadhemlbaaGreat
