import Derived.Test.YtblcgjadhemlbaaGreatWWalk9
import Derived.Test.YtblcgjadhemlbaaGreatWSort5
namespace Go.Proofs.YtblcgjadhemlbaaGreat
set_option linter.all false
open Go.RowKit
open Go.Proofs.Tryz
set_option maxRecDepth 10000
set_option maxHeartbeats 2000000
variable {N:Nat}{S:Nat→Prop}{L:List HP}{h:BM}
def Mu (m:St S L h) {a:Value}{c:(List Int)}(d:Sl S h AJ a c) {g:Value}{c1_:G9}(i:Pt S h Gd g c1_) {r:(List Int)×(List Int)}(E:Dz N c1_ c=some r):
 DK prog 83 #[a,g] S h (λv S' h'=>∃n o:Value,v= .tuple #[n,o]∧St S' (OS AJ 3 n r.1::OS AJ 3 o r.2::L) h'):=by
 refine B0 (l:=[a,g]) 13 func83 O ntmps83 O λB=>?_
 rw[Dz] at E
 refine AI (A0 O (AM O (kp [0,1] O) (WF.sl (AF 5 (AA O (A8 O i Rg WT O λK z=>BC Bu m.1 O z BA O λA=>A8 O i G9.f_Litres WS O λM C=>BC Bu m.1 O C BA O λD=>AD ?_))))))
 obtain⟨Q,t,E⟩:=bd E
 refine CG O O O mD O m (RX (St.all _) (d.mono (λb F=>m.1 b F) (λ_ _=>rfl)) A D t) λU V G y u w p=>?_
 obtain⟨H,I,rfl,s⟩:=p
 have j:=m.join w s ⟨OS.flat (λ{_ _ _ _ _ _} k=>k),⟨OS.flat (λ{_ _ _ _ _ _} k=>k),trivial⟩⟩
 simp only[rW,rQ] at j
 refine AF 4 (CX O (CX O (A0 O (A0 O (AD (AZ (kp [4,3] O) (A5 (λW X x J=>?_))))))))
 cases E
 exact K5 x O J (JD (Jm x (v:=_) O) (JD (Jm x (v:=_) O) K4)) O u ⟨_,_,O,j⟩
def Nx {Q:Nat}{p0_w:AX}{W:Value}{Y:Value}{Z:Value}{ab:Value}{ac:Value}{ad:Value}{ae:Value}{af:Value}{z:Value}{G:Value}{I:Value}{u:Value}{K:Value}{c:Value}{d:Value}{g:Value}{i:Value}{j:Value}{k:Value}{m:Value}{p:Value}{t:Value}(hs:St S (Bx Q 84 [.string p0_w.b.H,W,vI p0_w.b.T,Y,Z,ab,ac,ad,ae,af,vI p0_w.b.V,z,G,I,u,K,vI p0_w.s.D,c,d,g,i,j,k,m,p,t]::OS (BZ.sl AJ) 29 c p0_w.s.F::OS AJ 3 d p0_w.s.O::OS BJ 60 g p0_w.s.M::OS Bz 69 i p0_w.s.P::OS AJ 3 j p0_w.s.S::OS AJ 3 k p0_w.s.U::OS CJ 50 m p0_w.moves::OS AJ 3 p p0_w.peaks::OS BJ 60 t p0_w.sent::L) h) (bg:p0_w.b.H.size≤maxLen) (au:Sl S h BZ.str W p0_w.b.J) (bh:AH p0_w.b.T) (am:Sl S h Cw Y p0_w.b.A) (bi:Sl S h Ct Z p0_w.b.E) (bj:Sl S h HL ab p0_w.b.Am) (bk:Sl S h Fc ac p0_w.b.Au) (bl:Sl S h HN ad p0_w.b.Av) (bm:Sl S h Dy ae p0_w.b.Ay) (bn:Sl S h AJ af p0_w.b.Ax) (a5:AH p0_w.b.V) (a6:Sl S h AJ z p0_w.in_.X) (a7:Sl S h Gc G p0_w.in_.Ap) (a8:Sl S h JX I p0_w.in_.At) (ao:Sl S h Gd u p0_w.in_.Ad) (a9:Sl S h HM K p0_w.in_.Ba) (ba:AH p0_w.s.D) {ak:Int}(cd:AH ak) {r:(List AK)}(E:HS N p0_w ak=some r):
 DK prog 62 #[vP Q 0,vI ak] S h (λv S' h'=>St S' (OS BK 111 v r::Bx Q 84 [.string p0_w.b.H,W,vI p0_w.b.T,Y,Z,ab,ac,ad,ae,af,vI p0_w.b.V,z,G,I,u,K,vI p0_w.s.D,c,d,g,i,j,k,m,p,t]::OS (BZ.sl AJ) 29 c p0_w.s.F::OS AJ 3 d p0_w.s.O::OS BJ 60 g p0_w.s.M::OS Bz 69 i p0_w.s.P::OS AJ 3 j p0_w.s.S::OS AJ 3 k p0_w.s.U::OS CJ 50 m p0_w.moves::OS AJ 3 p p0_w.peaks::OS BJ 60 t p0_w.sent::L) h'):=by
 refine B0 (l:=[vP Q 0,vI ak]) 85 func62 O ntmps62 O λB=>?_
 rw[HS] at E
 refine AI (AM O (kp [0,1] O) (AI (AM O (kp [5,0,1] O) (AE (AI (AA O (DN O O (AG Np O (AG QR O (AT Bu hs O mh O Vq O (BE O ao T0 O λb1=>AA O (AN (kp [14,13,12,5,0,1] O) (BH (λa w=>∃(v2:Value) (l3:List AK),IV B S h (85,[]) a w [(5,v2)] (OS BK 111 v2 l3::Bx Q 84 [.string p0_w.b.H,W,vI p0_w.b.T,Y,Z,ab,ac,ad,ae,af,vI p0_w.b.V,z,G,I,u,K,vI p0_w.s.D,c,d,g,i,j,k,m,p,t]::OS (BZ.sl AJ) 29 c p0_w.s.F::OS AJ 3 d p0_w.s.O::OS BJ 60 g p0_w.s.M::OS Bz 69 i p0_w.s.P::OS AJ 3 j p0_w.s.S::OS AJ 3 k p0_w.s.U::OS CJ 50 m p0_w.moves::OS AJ 3 p p0_w.peaks::OS BJ 60 t p0_w.sent::L) λ_ _=>DQ N l3=some r) ?_ ?_)))))))))))))
 ·refine BV (λn1=>λa w=>∃(v8:Value) (l9:List AK) (aq:Int),IV B S h (85,[]) a w [(13,vI (↑p0_w.in_.Ad.length:Int)),(12,u),(0,vP Q 0),(1,vI ak),(5,v8),(14,vI aq)] (OS BK 111 v8 l9::Bx Q 84 [.string p0_w.b.H,W,vI p0_w.b.T,Y,Z,ab,ac,ad,ae,af,vI p0_w.b.V,z,G,I,u,K,vI p0_w.s.D,c,d,g,i,j,k,m,p,t]::OS (BZ.sl AJ) 29 c p0_w.s.F::OS AJ 3 d p0_w.s.O::OS BJ 60 g p0_w.s.M::OS Bz 69 i p0_w.s.P::OS AJ 3 j p0_w.s.S::OS AJ 3 k p0_w.s.U::OS CJ 50 m p0_w.moves::OS AJ 3 p p0_w.peaks::OS BJ 60 t p0_w.sent::L) λ_ _=>AH aq∧CR N p0_w ak (DQ N) n1 l9 aq=some r) N ?_ ?_ ?_
  ·intro aa ww hf hw
   have bo:=hs.nil BK 111
   exact⟨(vN),([]:List AK),0,_,_,hf.sub (kp [13,12,0,1,5,14] O),hw,bo,(C9.refl S h),(iq (n:=0) O),E⟩
  ·rintro aa ww ⟨_,_,_,_,_,_,_,_,_,_,E⟩
   rw[CR] at E;cases E
  rintro n1 aa ww ⟨v8,l9,aq,ce,cf,hf,hw,ax,av,c7,E⟩
  refine A6 ?_ hf hw
  clear hf hw ww aa
  rw[CR] at E
  refine AI (BI O (AN (kp [15,13,12,0,1,5,14] O) (AE (AY O E (λcg E=>?_) (λcg E=>?_)))))
  ·refine AS (AE (BH (λa w=>∃(a1:Value) (a2:List AK),IV B ce cf (85,[]) a w [(13,vI (↑p0_w.in_.Ad.length:Int)),(12,u),(0,vP Q 0),(1,vI ak),(14,vI aq),(5,a1)] (OS BK 111 a1 a2::Bx Q 84 [.string p0_w.b.H,W,vI p0_w.b.T,Y,Z,ab,ac,ad,ae,af,vI p0_w.b.V,z,G,I,u,K,vI p0_w.s.D,c,d,g,i,j,k,m,p,t]::OS (BZ.sl AJ) 29 c p0_w.s.F::OS AJ 3 d p0_w.s.O::OS BJ 60 g p0_w.s.M::OS Bz 69 i p0_w.s.P::OS AJ 3 j p0_w.s.S::OS AJ 3 k p0_w.s.U::OS CJ 50 m p0_w.moves::OS AJ 3 p p0_w.peaks::OS BJ 60 t p0_w.sent::L) λ_ _=>GQ N aq (CR N p0_w ak (DQ N) n1) a2=some r) ?_ ?_))
   ·refine WF.sl (AF 2 ?_)
    obtain⟨aj,bp,E⟩:=bd E
    refine B1 O O (ao.mono' av) T0 bp O λc8 ch=>Cq Bu ax.1 O ch cN (λe=>by cases e) O λc9 ci=>AD (Di jF O ax λa3 da bq ar=>?_)
    obtain⟨rfl,⟨cj,br,ck,bb⟩⟩:=Gd.ex (ci.mono ar)
    refine Ek (vs:=[vI aj.An,vI aj.Bi,vI aj.Bd,vI aj.C]) O O O O cN O bq .head O λdb ap aw=>AZ (kp [7,13,12,0,1,5,14] O) (AE (AE (Cn (.inr ⟨mo,by kernel_rfl⟩) ap (AG WU O (AT CQ ap O mh O BA O (AA O (Cg O (AA O ?_))))))))
    obtain⟨bc,an,E⟩:=bd E
    refine AW 11 33 (.bool bc) ?_ ?_
    ·cases bs:(decide (aj.An≠ak))
     ·have an:=Hj bs an
      refine AB O (AG WT O (AB O (AT CQ ap O mh O BA O (AB O (AA O (AB O (DN O O (AB O (AG HQ O (AB O (AG Ib O (AB O (AT CQ ap O (mt (mt mh)) O LA O (AB O (BE O (au.mono' (av.trans (ar.trans aw))) Ku O λcl=>AB O ?_)))))))))))))))
      obtain⟨dc,bt,an⟩:=bd an
      refine BU O O O Pn O (λh' o=>HE (St.all h') br (KY cl) bt) (AB O (CI O (AL O ?_)))
      cases an
      exact AV O
     have an:=Hi bs an
     cases an
     exact A4 O O
    refine AA O (AW 4 38 (.bool (bc||(decide (aj.Bd≤0)))) ?_ ?_)
    ·cases dd:bc
     ·exact AB O (AG WS O (AB O (AT CQ ap O mh O BA O (AB O (HX O (AL O (AV O)))))))
     exact A4 O O
    refine B9 (kp [38,7,13,12,0,1,5,14] O) λde ag ay=>AY O E (λcm E=>?_) (λcm E=>?_)
    ·refine By O (λaa ww hf hw=>?_)
     have bu:=ag.sel [1,1,1,1,1,1,1,1,1,1,1] 1 O
     exact⟨v8,l9,_,_,hf.sub (kp [13,12,0,1,14,5] O),hw,bu,(ar.trans (aw.trans ay)),E⟩
    refine AS (AE (AE (Cn (.inr ⟨mo,by kernel_rfl⟩) ag (AG QK O (AT CQ ag O mh O BA O (Cg O (AA O ?_)))))))
    obtain⟨cn,ah,E⟩:=bd E
    refine AW 33 75 (.bool cn) ?_ ?_
    ·cases bv:(decide (aj.C≠(-1)))
     ·have ah:=Hj bv ah
      cases ah
      exact A4 O O
     have ah:=Hi bv ah
     refine AB O (AG QK O (AB O (AT CQ ag O mh O BA O (AB O (AA O (AB O (DN O O (AB O (AG HQ O (AB O (AG D1 O (AB O (AT CQ ag O (mt (mt mh)) O G7 O (AB O (BE O (am.mono' (av.trans (ar.trans (aw.trans ay)))) GL O λco=>AB O ?_)))))))))))))))
     obtain⟨cp,bw,ah⟩:=bd ah
     refine BU O O O Pn O (λh' o=>HE (St.all h') bb (KY co) bw) (AB O (CI O (AB O (AA O ?_))))
     obtain⟨cq,ai,ah⟩:=bd ah
     refine AW 21 74 (.bool cq) ?_ ?_
     ·cases bx:(!cp)
      ·have ai:=Hj bx ai
       refine AB O (AA O (AB O (DN O O (AB O (AG HQ O (AB O (AG D1 O (AB O (AT CQ ag O (mt (mt mh)) O G7 O (AB O (AG QK O (AB O (AT CQ ag O mh O BA O (AB O ?_))))))))))))))
       have a4:=av.trans (ar.trans (aw.trans ay))
       obtain⟨df,bz,ai⟩:=bd ai
       refine B1 O O (am.mono' a4) GL bz O λdg cr=>AB O (A8 O cr JA Mf O λdh ct=>AB O (BC CQ ag.1 O ct BA O λdi=>AB O (AA O (AB O (DN O O (AB O (AG HQ O (AB O (AG D1 O (AB O (AT CQ ag O (mt (mt mh)) O G7 O (AB O (AA O (AB O ?_))))))))))))))
       obtain⟨dj,b0,ai⟩:=bd ai
       refine B1 O O (am.mono' a4) GL b0 O λdk cu=>AB O (A8 O cu JA Mf O λdl cv=>AB O (BC CQ ag.1 O cv BA O λdm=>AB O (Cg O (AB O (AL O ?_)))))
       cases ai
       exact AV O
      have ai:=Hi bx ai
      cases ai
      exact A4 O O
     refine AL O ?_
     cases ah
     exact AV O
    refine B9 (kp [75,7,13,12,0,1,5,14] O) λcw az b2=>AY O E (λcx E=>?_) (λcx E=>?_)
    ·refine By O (λaa ww hf hw=>?_)
     have b3:=az.sel [1,1,1,1,1,1,1,1,1,1,1] 1 O
     exact⟨v8,l9,_,_,hf.sub (kp [13,12,0,1,14,5] O),hw,b3,(ar.trans (aw.trans (ay.trans b2))),E⟩
    refine AS (FG (AF 5 (AA O (AG QK O (AT Bu az O mh O BA O (PW O O O (Iz (cs:=[vI aj.C,vI 0,vI (-3),.func (.func 83) #[] #[vP a3 0]]) PJ O O O (AD ?_))))))))
    obtain⟨cy,b4,cz,c0⟩:=az.pubb (r:=Gd) (x:=aj) .head ⟨O,⟨cj,br,ck,bb⟩⟩
    have b5:Rd cy cw (BZ.fnr prog (λS h vs (x:(List Int))=>∃w0:Value,vs=[w0]∧Sl S h AJ w0 x) (λS h v (y:((List Int)×(List Int)))=>∃w0 w1:Value,v= .tuple #[w0,w1]∧Sl S h AJ w0 y.1∧Sl S h AJ w1 y.2)) (.func (.func 83) #[] #[(vP a3 0)]) (λx=>Dz N aj x):=K2 83 #[(vP a3 0)] mE λS' h' s' e' L hs x y vs h1 h2=>by obtain⟨w0,rfl,a0⟩:=h1;exact Ng (Mu hs a0 (c0.mono'' s' e') h2)
    refine E3 (cs:=[vI aj.C,vI 0,vI (-3),(.func (.func 83) #[] #[(vP a3 0)])]) L7 O O O O O O O b4 λdn dp b6 b7=>?_
    obtain⟨b8,E⟩:=LO E
    refine Wy (r:=BK) (l:=l9) (xs:=([(⟨aj.C,0,(-3),(λx=>Dz N aj x)⟩:AK)]:List AK)) O O L7 O mh ⟨_,_,O,⟨_,O,bb,(iq (n:=0) O),(iq (n:=(-3)) O),(b5.mono b7)⟩,O⟩ O O b8 O b6 (λ_=>(.tail .head)) λc1 dq b9 c2=>?_
    have ca:=b9.drop .head
    refine AF 1 (A0 O (AD (AZ (kp [5,13,12,0,1,14] O) (WF.nil (λaa ww hf hw=>?_)))))
    exact⟨c1,(l9++([(⟨aj.C,0,(-3),(λx=>Dz N aj x)⟩:AK)]:List AK)),_,_,hf.sub (kp [13,12,0,1,14,5] O),hw,ca,(ar.trans (aw.trans (ay.trans (b2.trans (cz.trans (b7.trans c2)))))),E⟩
   rintro aa ww ⟨a1,a2,c3,c4,hf,hw,be,cb,E⟩
   refine A6 ?_ hf hw
   clear hf hw ww aa
   rw[GQ] at E
   refine CL (.inl O) (A9 O (AA O (AN (kp [14,13,12,0,1,5] O) (WF.nil (λaa ww hf hw=>?_)))))
   exact⟨a1,a2,(Bw (aq+1)),_,_,hf.sub (kp [13,12,0,1,5,14] O),hw,be,(av.trans cb),(B5 _),E⟩
  refine By O (λaa ww hf hw=>?_)
  exact⟨v8,l9,_,_,hf.sub (kp [5] O),hw,ax,av,E⟩
 rintro aa ww ⟨v2,l3,c5,c6,hf,hw,bf,cc,E⟩
 refine A6 ?_ hf hw
 clear hf hw ww aa
 rw[DQ] at E
 refine AI (AA O (AM O (kp [4] O) (A5 (λaa ww hf hw=>?_))))
 cases E
 exact Em hf hw O O cc bf
def Jo (u:St S L h) {c:Int}(i:AH c) {a:Int}(d:AH a) {b:Int}(g:AH b) {r:Int}(E:Gu N c a b=some r):
 DK prog 104 #[vI c,vI a,vI b] S h (λv S' h'=>v=vI r∧AH r∧St S' (L) h'):=by
 refine B0 (l:=[vI c,vI a,vI b]) 21 func104 O ntmps104 O λB=>?_
 rw[Gu] at E
 refine AI (AM O (kp [0,1,2] O) (AE (Cn (.inl O) u (AA O (AA O (AA O ?_))))))
 obtain⟨j,m,E⟩:=bd E
 refine I8 (v:= .tuple #[vI j.1,vI j.2.1,.bool j.2.2]) (Ψ:=AH j.1∧AH j.2.1) O O O Uj O (λh' o=>(I7 (St.all h') i d g m).mono λ_ _ _ _ p=>⟨p.1,⟨p.2.1,p.2.2.1⟩⟩) λw=>?_
 obtain⟨x,C⟩:=w
 refine AA O (CX O (CX O (CX O (A0 O (A0 O (A0 O (B9 (kp [9,7] O) λD k t=>AE (AI (AA O (CI O (AN (kp [19,7] O) (AY O E (λy E=>?_) (λy E=>?_)))))))))))))
 ·refine AI (AM O (kp [6] O) (A5 (λz A q s=>?_)))
  cases E
  exact Em q s O O t ⟨O,(iq (n:=0) O),k⟩
 refine AS (AI (AA O (AM O (kp [6] O) (A5 (λz A q s=>?_)))))
 cases E
 exact Em q s O O t ⟨O,x,k⟩
def Ra (K:St S L h) {c:Value}{k:BL}(j:Rd S h Ct c k) {a:Int}(b:AH a) {d:Int}(g:AH d) {r:Int}(E:JQ N k a d=some r):
 DK prog 106 #[c,vI a,vI d] S h (λv S' h'=>v=vI r∧AH r∧St S' (L) h'):=by
 refine B0 (l:=[c,vI a,vI d]) 20 func106 O ntmps106 O λB=>?_
 rw[JQ] at E
 refine WF.sl (C3 O j (λe=>by cases e) O K λq1 S2 h3 i J t=>AF 1 (A0 O (AD (AZ (kp [3,1,2] O) (AE (AI (A8 O t BL.f_To Ia O λq7 M=>BC Bu i.1 O M BA O λr9=>B6 O (AN (kp [9,3,1,2] O) (AY O E (λu E=>?_) (λu E=>?_))))))))))
 ·refine AI (AA O (AM O (kp [6] O) (A5 (λQ U w x=>?_))))
  cases E
  exact Em w x O O J ⟨O,b,i⟩
 refine AS (AE (Cn (.inl O) i (AA O (AA O (A8 O t JB Lf O λV y=>BC CQ i.1 O y BA O λz=>A8 O t IL Kw O λW A=>BC CQ i.1 O A BA O λC=>?_)))))
 obtain⟨X,m,E⟩:=bd E
 refine DW O O O Q9 O (λh' o=>Jo (St.all h') g z C m) λD=>?_
 have F:=D
 obtain⟨Y,p,E⟩:=bd E
 refine DW O O O Ul O (λh' o=>Jt (St.all h') b F p) λG=>?_
 have H:=G
 refine PY O O O (A0 O (B9 (kp [6] O) λZ s I=>A5 (λQ U w x=>?_)))
 cases E
 exact Em w x O O (J.trans I) ⟨O,(PR (iq (n:=0) O) H),s⟩
def TL (w:St S L h) {a:Value}{g:(List BS)}(b:Sl S h Cp a g) {c:Int}(d:AH c) {r:Int}(E:J9 N g c=some r):
 DK prog 105 #[a,vI c] S h (λv S' h'=>v=vI r∧AH r∧St S' (L) h'):=by
 refine B0 (l:=[a,vI c]) 17 func105 O ntmps105 O λB=>?_
 rw[J9] at E
 refine AI (AM O (kp [0,1] O) (AE (AE (Cn (.inl O) w (AA O ?_)))))
 obtain⟨D,k,E⟩:=bd E
 refine BU O O O Q6 O (λh' o=>Hc (St.all h') (b.mono' (o.all w.1)) k) (CI O (B9 (kp [9,0,1] O) λF i m=>AY O E (λx E=>?_) (λx E=>?_)))
 ·refine AI (AM O (kp [4] O) (A5 (λy z p q=>?_)))
  cases E
  exact Em p q O O m ⟨O,(iq (n:=0) O),i⟩
 refine AS (AE (Cn (.inl O) i (AA O (AA O ?_))))
 obtain⟨G,s,E⟩:=bd E
 refine DW O O O VV O (λh' o=>K7 (St.all h') ((b.mono' m).mono' (o.all i.1)) d s) λA=>?_
 have t:=A
 refine AA O (CX O (CX O (A0 O (A0 O (B9 (kp [5] O) λC j u=>AI (AA O (AM O (kp [4] O) (A5 (λy z p q=>?_)))))))))
 cases E
 exact Em p q O O (m.trans u) ⟨O,t,j⟩
def Rb (hs:St S L h) {y:Value}{t:BL}(I:Rd S h Ct y t) {i:Int}(u:AH i) {c:Bool}{s:Value}{F:(List BS)}(J:Sl S h Cp s F) {b:Int}(j:AH b) {k:Int}(G:AH k) {r:Int}(E:Iu N t i c F b k=some r):
 DK prog 97 #[y,vI i,.bool c,s,vI b,vI k] S h (λv S' h'=>v=vI r∧AH r∧St S' (L) h'):=by
 refine B0 (l:=[y,vI i,.bool c,s,vI b,vI k]) 63 func97 O ntmps97 O λB=>?_
 rw[Iu] at E
 refine WF.sl (C3 O I (λe=>by cases e) O hs λq1 S2 D z M k6=>AF 1 (A0 O (AD (AZ (kp [6,1,2,3,4,5] O) (AE (AI (A8 O k6 BL.f_Kind HA O λq7 k8=>BC Bu z.1 O k8 BA O λr9=>AN (kp [14,6,1,2,3,4,5] O) (BH (λa w=>IV B S2 D (63,[]) a w [] (L) λ_ _=>In N=some r) ?_ ?_))))))))
 ·refine AE (BH (λa w=>IV B S2 D (63,[]) a w [(6,q1),(4,vI b)] (L) λ_ _=>HJ N t b=some r) ?_ ?_)
  ·refine AE (BH (λa w=>IV B S2 D (63,[]) a w [(6,q1),(2,.bool c),(4,vI b)] (L) λ_ _=>JT N c (HJ N t b)=some r) ?_ ?_)
   ·refine AE (BH (λa w=>IV B S2 D (63,[]) a w [(6,q1),(2,.bool c),(4,vI b)] (L) λ_ _=>KR N t c b (In N)=some r) ?_ ?_)
    ·refine AE (BH (λa w=>IV B S2 D (63,[]) a w [(6,q1),(1,vI i)] (L) λ_ _=>JS N t i=some r) ?_ ?_)
     ·refine AE (BH (λa w=>IV B S2 D (63,[]) a w [(6,q1),(1,vI i),(3,s),(4,vI b),(5,vI k)] (L) λ_ _=>JR N t i F b k=some r) ?_ ?_)
      ·refine AE (AE (AI (B6 O (AM O (kp [15,14,6,1,2,3,4,5] O) (AY O E (λaz E=>?_) (λaz E=>?_))))))
       ·refine By O (λm p d g=>?_)
        exact⟨_,_,d.sub (kp [6,1,3,4,5] O),g,z,(C9.refl S2 D),E⟩
       refine AS (AE (AI (B6 O (AM O (kp [17,14,6,1,2,4] O) (AY O E (λa0 E=>?_) (λa0 E=>?_))))))
       ·refine By O (λm p d g=>?_)
        exact⟨_,_,d.sub (kp [6,1] O),g,z,(C9.refl S2 D),E⟩
       refine AS (AE (AI (B6 O (AM O (kp [19,14,6,2,4] O) (AY O E (λa1 E=>?_) (λa1 E=>?_))))))
       ·refine By O (λm p d g=>?_)
        exact⟨_,_,d.sub (kp [6,2,4] O),g,z,(C9.refl S2 D),E⟩
       refine AS (AE (AI (B6 O (AM O (kp [21,14,6,2,4] O) (AY O E (λa2 E=>?_) (λa2 E=>?_))))))
       ·refine By O (λm p d g=>?_)
        exact⟨_,_,d.sub (kp [6,2,4] O),g,z,(C9.refl S2 D),E⟩
       refine AS (AI (B6 O (AM O (kp [23,6,4] O) (AY O E (λa3 E=>?_) (λa3 E=>?_)))))
       ·refine By O (λm p d g=>?_)
        exact⟨_,_,d.sub (kp [6,4] O),g,z,(C9.refl S2 D),E⟩
       refine AS (By O (λm p d g=>?_))
       exact⟨_,_,d.sub Py,g,z,(C9.refl S2 D),E⟩
      rintro m p ⟨ca,cb,d,g,x,Q,E⟩
      refine A6 ?_ d g
      clear d g p m
      rw[JR] at E
      refine AE (AE (Cn (.inr ⟨mo,by kernel_rfl⟩) x (AA O ?_)))
      have U:=k6.mono Q
      refine Cq CQ x.1 O U IM (λe=>by cases e) O λcc a4=>AA O (AA O ?_)
      obtain⟨cd,ab,E⟩:=bd E
      refine DW O O O gL O (λh' o=>Ra (St.all h') (a4.mono (o.all x.1)) j G ab) λa5=>?_
      have a6:=a5
      obtain⟨ce,ac,E⟩:=bd E
      refine DW O O O gN O (λh' o=>TL (St.all h') ((J.mono' (M.trans Q)).mono' (o.all x.1)) a6 ac) λa7=>?_
      have a8:=a7
      refine AA O (A8 O U E7 KL O λcf a9=>BC CQ x.1 O a9 BA O λba=>?_)
      obtain⟨cg,ad,E⟩:=bd E
      refine DW O O O Q9 O (λh' o=>Jo (St.all h') a8 u ba ad) λbb=>?_
      have bc:=bb
      refine A8 O U Mo TC O λch be=>BC CQ x.1 O be BA O λbf=>?_
      obtain⟨ci,ae,E⟩:=bd E
      refine DW O O O SK O (λh' o=>JE (St.all h') bc bf ae) λbg=>?_
      have bh:=bg
      refine A0 O (B9 (kp [12] O) λcj af bi=>A5 (λm p d g=>?_))
      cases E
      exact Em d g O O (M.trans (Q.trans bi)) ⟨O,bh,af⟩
     rintro m p ⟨ck,cl,d,g,H,ag,E⟩
     refine A6 ?_ d g
     clear d g p m
     rw[JS] at E
     refine AE (AE (Cn (.inl O) H ?_))
     have ah:=k6.mono ag
     refine A8 O ah BL.f_Num JN O λcm bj=>BC CQ H.1 O bj BA O λbk=>AA O (A8 O ah E7 KL O λcn bl=>BC CQ H.1 O bl BA O λbm=>?_)
     obtain⟨co,ai,E⟩:=bd E
     refine DW O O O Q9 O (λh' o=>Jo (St.all h') bk u bm ai) λbn=>?_
     have bo:=bn
     refine A0 O (B9 (kp [12] O) λcp aj bp=>A5 (λm p d g=>?_))
     cases E
     exact Em d g O O (M.trans (ag.trans bp)) ⟨O,bo,aj⟩
    rintro m p ⟨cq,cr,d,g,A,V,E⟩
    refine A6 ?_ d g
    clear d g p m
    rw[KR] at E
    refine AE (AI (AA O (AN (kp [44,6,4] O) (AY O E (λbq E=>?_) (λbq E=>?_)))))
    ·refine AE (Cn (.inl O) A (AA O ?_))
     have ak:=k6.mono V
     refine A8 O ak BL.f_Num JN O λcs br=>BC CQ A.1 O br BA O λbs=>A8 O ak BL.f_Den KM O λct bt=>BC CQ A.1 O bt BA O λbu=>?_
     obtain⟨cu,al,E⟩:=bd E
     refine DW O O O Q9 O (λh' o=>Jo (St.all h') j bs bu al) λbv=>?_
     have bw:=bv
     refine A0 O (B9 (kp [12] O) λcv am bx=>A5 (λm p d g=>?_))
     cases E
     exact Em d g O O (M.trans (V.trans bx)) ⟨O,bw,am⟩
    refine AS (By O (λm p d g=>?_))
    exact⟨_,_,d.sub Py,g,A,V,E⟩
   rintro m p ⟨cw,cx,d,g,K,an,E⟩
   refine A6 ?_ d g
   clear d g p m
   rw[JT] at E
   refine AI (AA O (CI O (AN (kp [52,6,4] O) (AY O E (λbz E=>?_) (λbz E=>?_)))))
   ·refine AI (AM O (kp [12] O) (A5 (λm p d g=>?_)))
    cases E
    exact Em d g O O (M.trans an) ⟨O,(iq (n:=0) O),K⟩
   refine AS (WF.nil (λm p d g=>?_))
   exact⟨_,_,d.sub (kp [6,4] O),g,K,an,E⟩
  rintro m p ⟨cy,cz,d,g,C,ao,E⟩
  refine A6 ?_ d g
  clear d g p m
  rw[HJ] at E
  refine AE (AE (Cn (.inr ⟨mo,by kernel_rfl⟩) C (AA O ?_)))
  have W:=k6.mono ao
  refine A8 O W MB TB O λc0 b0=>BC CQ C.1 O b0 BA O λb1=>?_
  obtain⟨c1,ap,E⟩:=bd E
  refine DW O O O Ul O (λh' o=>Jt (St.all h') j b1 ap) λb2=>?_
  have b3:=b2
  refine PY O O O (A8 O W BL.f_Num JN O λc2 b4=>BC CQ C.1 O b4 BA O λaq=>A8 O W BL.f_Den KM O λb5 ar=>BC CQ C.1 O ar BA O λau=>?_)
  obtain⟨b6,X,E⟩:=bd E
  refine DW O O O Q9 O (λh' o=>Jo (St.all h') (PR (iq (n:=0) O) b3) aq au X) λav=>?_
  have aw:=av
  refine A0 O (B9 (kp [12] O) λb7 Y ax=>A5 (λm p d g=>?_))
  cases E
  exact Em d g O O (M.trans (ao.trans ax)) ⟨O,aw,Y⟩
 rintro m p ⟨b8,b9,d,g,Z,ay,E⟩
 refine A6 ?_ d g
 clear d g p m
 rw[In] at E
 refine AI (AM O (kp [12] O) (A5 (λm p d g=>?_)))
 cases E
 exact Em d g O O (M.trans ay) ⟨O,(iq (n:=0) O),Z⟩
def Sx (M:St S L h) {c:Value}{n:BL}(k:Rd S h Ct c n) {d:Value}{p:BG}(m:Rd S h Bz d p) {a:Int}(i:AH a) {g:Int}(j:AH g) {r:Int}(E:Iw N n p a g=some r):
 DK prog 85 #[c,d,vI a,vI g] S h (λv S' h'=>v=vI r∧AH r∧St S' (L) h'):=by
 refine B0 (l:=[c,d,vI a,vI g]) 19 func85 O ntmps85 O λB=>?_
 rw[Iw] at E
 refine WF.sl (C3 O k (λe=>by cases e) O M λq1 S2 h3 y K Q=>C3 O (m.mono K) (λe=>by cases e) O y λq8 S9 U b s t=>AF 1 (A0 O (AD (AZ (kp [5,4,2,3] O) (AE (Cn (.inl O) b ?_))))))
 have u:=Q.mono s
 refine Cq CQ b.1 O u IM (λe=>by cases e) O λV z=>A8 O t Ut Nq O λW A=>BC CQ b.1 O A BA O λC=>A8 O t Te Ov O λX D=>iH CQ b.1 O D Pr O (A8 O u KV Nr O λY F=>BF CQ b.1 O F JK O λZ G=>AA O (AA O ?_))
 obtain⟨ab,w,E⟩:=bd E
 refine DW O O O lY O (λh' o=>Rb (St.all h') (z.mono (o.all b.1)) C (G.mono' (o.all b.1)) i j w) λH=>?_
 have I:=H
 refine A0 O (B9 (kp [8] O) λac x J=>A5 (λaa ww hf hw=>?_))
 cases E
 exact Em hf hw O O (K.trans (s.trans J)) ⟨O,I,x⟩
def JM (g:St S L h) {a:Int}(b:AH a) {r:Int}(E:FM N a=some r):
 DK prog 66 #[vI a] S h (λv S' h'=>∃c:Value,v= .func (.func 89) #[] #[c]∧Pt S' h' AJ c r∧St S' (L) h'):=by
 refine B0 (l:=[vI a]) 4 func66 O ntmps66 O λB=>?_
 rw[FM] at E
 refine WF.sl (C3 O (⟨_,O,O,b⟩:Rd _ _ AJ _ a) (λ_=>rfl) O g λn S2 o d i j=>AF 1 (A0 O (AD (AZ (kp [1] O) (AI (PW O O O (AM O (kp [2] O) (A5 (λp s k m=>?_)))))))))
 cases E
 exact Em k m O O i ⟨_,O,j,d⟩
def P3 (hs:St S L h) {c:Int}(G:AH c) {j:Value}{b:(List Int)}(k:Sl S h AJ j b) {r:(List Int)×Bool}(E:Jr N c b=some r):
 DK prog 101 #[vI c,j] S h (λv S' h'=>∃bx:Value,v= .tuple #[bx,.bool r.2]∧St S' (OS AJ 3 bx r.1::L) h'):=by
 refine B0 (l:=[vI c,j]) 112 func101 O ntmps101 O λB=>?_
 rw[Jr] at E
 refine AI (A0 O (AM O (kp [0,1] O) (AE (AI (AA O (BE O k CA O λb1=>CV O (AN (kp [22,0,1] O) (AY O E (λc2 E=>?_) (λc2 E=>?_)))))))))
 ·refine AI (A0 O (AM O (kp [5,4] O) (A5 (λy z m d=>?_))))
  have c7:=hs.nil AJ 3
  cases E
  exact K5 m O d (JD (Jm m (v:=_) O) (JD (Jm m (v:=_) O) K4)) O (C9.refl S h) ⟨_,O,c7⟩
 refine AS (AI (AM O (kp [6,0,1] O) (AE (AI (AA O (BE O k CA O λb4=>AA O (AN (kp [25,24,23,6,0,1] O) (BH (λa w=>∃(i5:Int),IV B S h (112,[]) a w [(0,vI c),(1,j),(6,vI i5)] (L) λ_ _=>AH i5∧FZ N c b i5=some r) ?_ ?_))))))))
 ·refine BV (λn1=>λa w=>∃(Q:Int) (ad:Int),IV B S h (112,[]) a w [(24,vI (↑b.length:Int)),(23,j),(0,vI c),(1,j),(6,vI Q),(25,vI ad)] (L) λ_ _=>AH Q∧AH ad∧FX N b (FZ N c b) n1 Q ad=some r) N ?_ ?_ ?_
  ·intro y z m d
   exact⟨0,0,_,_,m.sub (kp [24,23,0,1,6,25] O),d,hs,(C9.refl S h),(iq (n:=0) O),(iq (n:=0) O),E⟩
  ·rintro y z ⟨_,_,_,_,_,_,_,_,_,_,E⟩
   rw[FX] at E;cases E
  rintro n1 y z ⟨Q,ad,ee,ef,m,d,Z,ao,c8,eg,E⟩
  refine A6 ?_ m d
  clear m d z y
  rw[FX] at E
  refine AI (BI O (AN (kp [26,24,23,0,1,6,25] O) (AE (AY O E (λc9 E=>?_) (λc9 E=>?_)))))
  ·refine AS (AE (BY (AI ?_)))
   obtain⟨ap,bz,E⟩:=bd E
   refine B1 O O (k.mono' ao) CA bz O λeh da=>BC Bu Z.1 O da BA O λei=>AM O (kp [8,24,23,0,1,6,25] O) (AE (AI (AA O (BI O (AA O (AW 5 36 (.bool ((decide (ap<0))||(decide ((Bw (1125899906842624-Q))<ap)))) ?_ ?_))))))
   ·cases ej:(decide (ap<0))
    ·exact AB O (AA O (AB O (AA O (AB O (Dl O (AB O (CV O (AL O (AV O)))))))))
    exact A4 O O
   refine AN (kp [36,8,24,23,0,1,6,25] O) (AY O E (λdb E=>?_) (λdb E=>?_))
   ·refine AI (A0 O (AM O (kp [5,4] O) (A5 (λy z m d=>?_))))
    have b0:=Z.nil AJ 3
    cases E
    exact K5 m O d (JD (Jm m (v:=_) O) (JD (Jm m (v:=_) O) K4)) O ao ⟨_,O,b0⟩
   refine AS (CL (.inl O) (AA O (AA O (A9 O (AM O (kp [6,24,23,0,1,25] O) (B7 (CL (.inl O) (A9 O (AA O (AN (kp [25,6,24,23,0,1] O) (WF.nil (λy z m d=>?_))))))))))))
   exact⟨(Bw (Q+ap)),(Bw (ad+1)),_,_,m.sub (kp [24,23,0,1,6,25] O),d,Z,ao,(B5 _),(B5 _),E⟩
  refine By O (λy z m d=>?_)
  exact⟨Q,_,_,m.sub (kp [0,1,6] O),d,Z,ao,c8,E⟩
 rintro y z ⟨i5,a4,ek,m,d,av,ab,r6,E⟩
 refine A6 ?_ m d
 clear m d z y
 rw[FZ] at E
 refine AE (AI (AA O (BI O (AA O (AW 4 47 (.bool ((decide (c<0))||(decide (i5<c)))) ?_ ?_)))))
 ·cases el:(decide (c<0))
  ·exact AB O (AA O (AB O (AA O (AB O (CV O (AL O (AV O)))))))
  exact A4 O O
 refine AN (kp [47,0,1,6] O) (AY O E (λdc E=>?_) (λdc E=>?_))
 ·refine AI (A0 O (AM O (kp [5,4] O) (A5 (λy z m d=>?_))))
  have b2:=av.nil AJ 3
  cases E
  exact K5 m O d (JD (Jm m (v:=_) O) (JD (Jm m (v:=_) O) K4)) O ab ⟨_,O,b2⟩
 refine AS (WF.sl (AF 2 (AA O (BE O (k.mono' ab) CA O λem=>AD ?_))))
 obtain⟨b3,E⟩:=LO E
 refine Jl (r:=AJ) (zx:=0) GM O ⟨O,by unfold AH;omega⟩ O O b3 O O av λK en aw aq=>AF 1 (A0 O (AD (AZ (kp [9,0,1,6] O) (AE (AI (AA O (B6 O (AN (kp [52,9,0,1,6] O) (AY O E (λdd E=>?_) (λdd E=>?_))))))))))
 ·refine AI (AA O (A0 O (AM O (kp [5,4] O) (A5 (λy z m d=>?_)))))
  cases E
  exact K5 m O d (JD (Jm m (v:=_) O) (JD (Jm m (v:=_) O) K4)) O (ab.trans aq) ⟨_,O,aw⟩
 refine AS (WF.sl (AF 2 (AA O (BE O (k.mono' (ab.trans aq)) CA O λeo=>AD ?_))))
 obtain⟨b5,E⟩:=LO E
 refine Jl (r:=AJ) (zx:=0) GM O ⟨O,by unfold AH;omega⟩ O O b5 O O aw λep eq b6 b7=>Di Xn O b6 λae er ax b8=>?_
 obtain⟨H,t,rfl,es⟩:=ax.oslen (mt mh)
 refine Ek (vs:=[(.slice H (List.replicate ((↑b.length:Int):Int).toNat (0:Int)).length t)]) O O O O CH O ax .head O λet b9 ca=>AZ (kp [10,9,0,1,6] O) (WF.sl (AF 2 (AA O ?_)))
 have ay:=ab.trans (aq.trans (b7.trans (b8.trans ca)))
 refine BE O (k.mono' ay) CA O λeu=>AD ?_
 obtain⟨cb,E⟩:=LO E
 refine Jl (r:=AJ) (zx:=0) GM O ⟨O,by unfold AH;omega⟩ O O cb O O b9 λev ew cc cd=>Di Xn O cc λaf ex az ce=>?_
 obtain⟨I,u,rfl,ey⟩:=az.oslen (mt mh)
 refine Ek (vs:=[(.slice I (List.replicate ((↑b.length:Int):Int).toNat (0:Int)).length u)]) O O O O CH O az .head O λa5 cf cg=>AZ (kp [11,10,9,0,1,6] O) (AI (AA O (AM O (kp [12,11,10,9,0,1,6] O) (AE (AI (AA O ?_))))))
 have ch:=k.mono' (ay.trans (cd.trans (ce.trans cg)))
 refine BE O ch CA O λez=>AA O (AN (kp [63,62,61,12,11,10,9,0,6] O) (BH (λa w=>∃(ar:Int) (a6:List Int) (a7:List Int) (au:List Int),IV B a4 a5 (112,[]) a w [(11,vP af 0),(10,vP ae 0),(9,K),(12,vI ar)] (Bx af 29 [(.slice I (List.replicate ((↑b.length:Int):Int).toNat (0:Int)).length u)]::OS AJ 3 (.slice I (List.replicate ((↑b.length:Int):Int).toNat (0:Int)).length u) a6::Bx ae 29 [(.slice H (List.replicate ((↑b.length:Int):Int).toNat (0:Int)).length t)]::OS AJ 3 (.slice H (List.replicate ((↑b.length:Int):Int).toNat (0:Int)).length t) a7::OS AJ 3 K au::L) λ_ _=>AH ar∧FY N ar a6 a7 au=some r) ?_ ?_))
 ·refine BV (λn3=>λa w=>∃(ac:Int) (A:Int) (U:List Int) (V:List Int) (W:List Int),IV B a4 a5 (112,[]) a w [(62,vI (↑b.length:Int)),(61,j),(11,vP af 0),(10,vP ae 0),(9,K),(0,vI c),(6,vI i5),(12,vI ac),(63,vI A)] (Bx af 29 [(.slice I (List.replicate ((↑b.length:Int):Int).toNat (0:Int)).length u)]::OS AJ 3 (.slice I (List.replicate ((↑b.length:Int):Int).toNat (0:Int)).length u) U::Bx ae 29 [(.slice H (List.replicate ((↑b.length:Int):Int).toNat (0:Int)).length t)]::OS AJ 3 (.slice H (List.replicate ((↑b.length:Int):Int).toNat (0:Int)).length t) V::OS AJ 3 K W::L) λ_ _=>AH ac∧AH A∧FW N c b i5 (FY N) n3 ac A U V W=some r) N ?_ ?_ ?_
  ·intro y z m d
   exact⟨c,0,(List.replicate ((↑b.length:Int):Int).toNat (0:Int)),(List.replicate ((↑b.length:Int):Int).toNat (0:Int)),(List.replicate ((↑b.length:Int):Int).toNat (0:Int)),_,_,m.sub (kp [62,61,11,10,9,0,6,12,63] O),d,cf,(C9.refl a4 a5),G,(iq (n:=0) O),E⟩
  ·rintro y z ⟨_,_,_,_,_,_,_,_,_,_,_,_,_,E⟩
   rw[FW] at E;cases E
  rintro n3 y z ⟨ac,A,U,V,W,dg,dh,m,d,X,ag,de,df,E⟩
  refine A6 ?_ m d
  clear m d z y
  rw[FW] at E
  refine AI (BI O (AN (kp [64,62,61,11,10,9,0,6,12,63] O) (AE (AY O E (λci E=>?_) (λci E=>?_)))))
  ·refine AS (AE (BY (AI (AA O ?_))))
   obtain⟨di,a8,E⟩:=bd E
   refine B1 O O (ch.mono' ag) CA a8 O λdj cj=>BC Bu X.1 O cj BA O λck=>A0 O (AM O (kp [14,13,62,61,11,10,9,0,6,12,63] O) (AE (Cn (.inl O) X (AA O (AA O (AA O ?_))))))
   obtain⟨s,a9,E⟩:=bd E
   refine I8 (v:= .tuple #[vI s.1,vI s.2.1,.bool s.2.2]) (Ψ:=AH s.1∧AH s.2.1) O O O Uj O (λh' o=>(I7 (St.all h') G ck r6 a9).mono λ_ _ _ _ p=>⟨p.1,⟨p.2.1,p.2.2.1⟩⟩) λcl=>?_
   obtain⟨cm,cn⟩:=cl
   refine AA O (CX O (CX O (CX O (A0 O (A0 O (A0 O (B9 (kp [16,15,13,62,61,11,10,9,0,6,12,63] O) λdk g co=>AE (eA (λw=>w.heap[ae]? =some (.cells ([(.slice H (List.replicate ((↑b.length:Int):Int).toNat (0:Int)).length t)]:List Value).toArray 29 (0,0))∧w.heap[af]? =some (.cells ([(.slice I (List.replicate ((↑b.length:Int):Int).toNat (0:Int)).length u)]:List Value).toArray 29 (0,0))) mo (RG 0 O (by kernel_rfl) (λw d=>⟨g.bxW (mt (mt mh)) d,g.bxW mh d⟩) O O (RG 1 O (by kernel_rfl) (λw d=>⟨g.bxW (mt (mt mh)) d,g.bxW mh d⟩) O O (RH 2 (vs:=[(.slice H (List.replicate ((↑b.length:Int):Int).toNat (0:Int)).length t)]) O (by kernel_rfl) (λw d=>⟨g.bxW (mt (mt mh)) d,g.bxW mh d⟩) O (λw d=>d.1) O O CH O O (RG 3 O (by kernel_rfl) (λw d=>⟨g.bxW (mt (mt mh)) d,g.bxW mh d⟩) O O (RH 4 (vs:=[(.slice I (List.replicate ((↑b.length:Int):Int).toNat (0:Int)).length u)]) O (by kernel_rfl) (λw d=>⟨g.bxW (mt (mt mh)) d,g.bxW mh d⟩) O (λw d=>d.2) O O CH O O (RG 5 O (by kernel_rfl) (λw d=>⟨g.bxW (mt (mt mh)) d,g.bxW mh d⟩) O O (RG 6 O (by kernel_rfl) (λw d=>⟨g.bxW (mt (mt mh)) d,g.bxW mh d⟩) O O (RG 7 O (by kernel_rfl) (λw d=>⟨g.bxW (mt (mt mh)) d,g.bxW mh d⟩) O O (RG 8 O (by kernel_rfl) (λw d=>⟨g.bxW (mt (mt mh)) d,g.bxW mh d⟩) O O ?_)))))))))))))))))
   obtain⟨dl,ba,E⟩:=bd E
   refine Ve 9 (r:=AJ) (xs:=W) O (by kernel_rfl) (λw d=>⟨g.bxW (mt (mt mh)) d,g.bxW mh d⟩) g (mt (mt (mt (mt mh)))) O O CA ba O λdm bb=>cI 10 O O (by kernel_rfl) ?_
   obtain⟨cp,bc,E⟩:=bd E
   refine Fd (r:=AJ) (l:=W) (i:=A) (x:=cp) O O (⟨_,O,O,cm⟩:Rd _ _ AJ _ s.1) bb bc MS.id BA (λ_=>rfl) g (.tail (.tail (.tail (.tail .head)))) λdn C cq=>Wz (λw d=>⟨C.bxW (mt (mt mh)) d,C.bxW mh d⟩) ?_
   obtain⟨dp,be,E⟩:=bd E
   refine Ve 11 (r:=AJ) (xs:=V) O (by kernel_rfl) (λw d=>⟨C.bxW (mt (mt mh)) d,C.bxW mh d⟩) C (mt (mt (mt mh))) O O CA be O λdq bf=>cI 12 O O (by kernel_rfl) ?_
   obtain⟨cr,bg,E⟩:=bd E
   refine Fd (r:=AJ) (l:=V) (i:=A) (x:=cr) O O (⟨_,O,O,cn⟩:Rd _ _ AJ _ s.2.1) bf bg MS.id BA (λ_=>rfl) C (.tail (.tail (.tail .head))) λdr D cs=>Wz (λw d=>⟨D.bxW (mt (mt mh)) d,D.bxW mh d⟩) ?_
   obtain⟨ds,bh,E⟩:=bd E
   refine Ve 13 (r:=AJ) (xs:=U) O (by kernel_rfl) (λw d=>⟨D.bxW (mt (mt mh)) d,D.bxW mh d⟩) D (mt mh) O O CA bh O λdt bi=>cI 14 O O (by kernel_rfl) ?_
   obtain⟨ct,bj,E⟩:=bd E
   refine Fd (r:=AJ) (l:=U) (i:=A) (x:=ct) O O (⟨_,O,O,df⟩:Rd _ _ AJ _ A) bi bj MS.id BA (λ_=>rfl) D (.tail .head) λdu Y cu=>Wz (λw d=>⟨Y.bxW (mt (mt mh)) d,Y.bxW mh d⟩) (W0 (by kernel_rfl) (kp [15,62,61,11,10,9,0,6,12,63] O) (CL (.inl O) (AA O (AA O (Dl O (AM O (kp [12,62,61,11,10,9,0,6,63] O) (B7 (CL (.inl O) (A9 O (AA O (AN (kp [63,12,62,61,11,10,9,0,6] O) (WF.nil (λy z m d=>?_)))))))))))))
   exact⟨(Bw (ac-s.1)),(Bw (A+1)),(upd U A A),(upd V A s.2.1),(upd W A s.1),_,_,m.sub (kp [62,61,11,10,9,0,6,12,63] O),d,Y,(ag.trans (co.trans (cq.trans (cs.trans cu)))),(B5 _),(B5 _),E⟩
  refine By O (λy z m d=>?_)
  exact⟨ac,U,V,W,_,_,m.sub (kp [11,10,9,12] O),d,X,ag,de,E⟩
 rintro y z ⟨ar,a6,a7,au,dv,dw,m,d,ah,cv,e0,E⟩
 refine A6 ?_ m d
 clear m d z y
 rw[FY] at E
 refine WF.sl (AF 3 (AT Bu ah O mh O CH O (bV O lI O (PW O O O (AD ?_)))))
 obtain⟨dx,bk,E⟩:=bd E
 refine Dj O O O gJ O (U8 ah bk) λdy dz ai cw p=>?_
 obtain⟨rfl,bl⟩:=p
 refine AZ (kp [11,9,12] O) (AE (AE ?_))
 obtain⟨aj,ak,cx,cy⟩:=bl.pubs (.tail .head)
 refine CL (.inl O) (AT Bu ak O mh O CH O (AA O ?_))
 obtain⟨a0,bm,E⟩:=bd E
 refine bQ O O cy CA bm O λcz a1=>BE O a1 CA O λd0=>AA O (AN (kp [100,99,98,9] O) (BH (λa w=>∃(am:List Int),IV B aj ai (112,[]) a w [(9,K)] (OS AJ 3 K am::L) λ_ _=>G3 N am=some r) ?_ ?_))
 ·refine BV (λn5=>λa w=>∃(M:Int) (J:List Int),IV B aj ai (112,[]) a w [(99,vI (↑a0.length:Int)),(98,cz),(9,K),(100,vI M)] (OS AJ 3 K J::L) λ_ _=>AH M∧FV N a0 (G3 N) n5 M J=some r) N ?_ ?_ ?_
  ·intro y z m d
   have bn:=ak.sel [3] 3 O
   exact⟨0,au,_,_,m.sub (kp [99,98,9,100] O),d,bn,(C9.refl aj ai),(iq (n:=0) O),E⟩
  ·rintro y z ⟨_,_,_,_,_,_,_,_,_,E⟩
   rw[FV] at E;cases E
  rintro n5 y z ⟨M,J,d1,d2,m,d,F,an,d3,E⟩
  refine A6 ?_ m d
  clear m d z y
  rw[FV] at E
  refine AI (BI O (AN (kp [101,99,98,9,100] O) (AE (AY O E (λc0 E=>?_) (λc0 E=>?_)))))
  ·refine AS (AE (BY (AI ?_)))
   obtain⟨a2,bo,E⟩:=bd E
   refine B1 O O (a1.mono' an) CA bo O λd4 c1=>BC Bu F.1 O c1 BA O λd5=>AM O (kp [19,99,98,9,100] O) (FG (AF 6 (AA O (AA O ?_))))
   obtain⟨d6,bp,E⟩:=bd E
   refine BX F mh O O CA bp O λd7 bq=>?_
   obtain⟨a3,br,E⟩:=bd E
   have c3:=F.epAt mh br GO.id bq
   refine BC Bu (λ_ x=>x) O c3 BA O λd8=>A9 O ?_
   obtain⟨d9,bs,E⟩:=bd E
   refine BX F mh O O CA bs O λea bt=>AD ?_
   obtain⟨c4,bu,E⟩:=bd E
   refine Fd (r:=AJ) (l:=J) (i:=a2) (x:=c4) O O (⟨_,O,O,(B5 _)⟩:Rd _ _ AJ _ (Bw (a3+1))) bt bu MS.id BA (λ_=>rfl) F .head λeb bv c5=>AZ (kp [99,98,9,100] O) (B7 (CL (.inl O) (A9 O (AA O (AN (kp [100,99,98,9] O) (WF.nil (λy z m d=>?_)))))))
   exact⟨(Bw (M+1)),(upd J a2 (Bw (a3+1))),_,_,m.sub (kp [99,98,9,100] O),d,bv,(an.trans c5),(B5 _),E⟩
  refine By O (λy z m d=>?_)
  exact⟨J,_,_,m.sub (kp [9] O),d,F,an,E⟩
 rintro y z ⟨am,ec,ed,m,d,bw,c6,E⟩
 refine A6 ?_ m d
 clear m d z y
 rw[G3] at E
 refine AI (AA O (A0 O (AM O (kp [5,4] O) (A5 (λy z m d=>?_)))))
 cases E
 exact K5 m O d (JD (Jm m (v:=_) O) (JD (Jm m (v:=_) O) K4)) O (ab.trans (aq.trans (b7.trans (b8.trans (ca.trans (cd.trans (ce.trans (cg.trans (cv.trans (cw.trans (cx.trans c6))))))))))) ⟨_,O,bw⟩
end Go.Proofs.YtblcgjadhemlbaaGreat
