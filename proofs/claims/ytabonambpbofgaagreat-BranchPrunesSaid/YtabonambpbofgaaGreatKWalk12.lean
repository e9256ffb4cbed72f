import Derived.Test.YtabonambpbofgaaGreatKInst
import Derived.Test.YtabonambpbofgaaGreatKForms
import Derived.Test.YtabonambpbofgaaGreatKSort5
import Derived.Test.YtabonambpbofgaaGreatKSortD
import Derived.Test.YtabonambpbofgaaGreatKWalk1
import Derived.Test.YtabonambpbofgaaGreatKWalk3
import Derived.Test.YtabonambpbofgaaGreatKWalk6
import Derived.Test.YtabonambpbofgaaGreatKWalk9
namespace Go.Proofs.YtabonambpbofgaaGreat
set_option linter.all false
open Go.RowKit
open Go.Proofs.Tryz
set_option maxRecDepth 10000
set_option maxHeartbeats 20000000
variable {N:Nat}{S:Nat→Prop}{L:List HP}{h:AS}
def No (hs:St S L h) {m:Value}{d:(List Int)}(s:Sl S h AB m d) {b:Value}{c:(List Int)}(g:Sl S h AB b c) {r:(List Int)}(E:Io N d c=some r):
 CM prog 221 #[m,b] S h (λv S' h'=>St S' (OS AB 3 v r::L) h'):=by
 refine CM.go 30 func221 O ntmps221 O λB=>?_;rw[Io] at E;refine AU ?_;obtain⟨U,E⟩:=Lp E;refine K6 (r:=AB) (zx:=0) JU O ⟨O,by unfold AA;omega⟩ O O U O O hs λQ h4 V e6=>AU ?_;have k7:=s.mono' e6;refine VS (r:=AB) (l:=(List.replicate ((↑d.length:Int):Int).toNat (0:Int))) (xs:=d) O O CY.1 (Sl.src k7) O V .head λW X ae=>?_;have Y:=g.nw;refine AU ?_;refine AQ (λa w=>∃(t:List Int),IV B S W (30,[]) a w [(5,Q)] (OS AB 3 Q t::L) λ_ _=>H9 N t=some r) ?_ ?_
 ·refine A8 (λn1=>λa w=>∃(k:Int) (o:List Int),IV B S W (30,[]) a w [(15,vI (↑c.length:Int)),(14,b),(5,Q),(16,vI k)] (OS AB 3 Q o::L) λ_ _=>AA k∧Gh N c (H9 N) n1 k o=some r) N ?_ ?_ ?_
  ·intro u y p q;exact⟨0,(Pb (List.replicate ((↑d.length:Int):Int).toNat (0:Int)) d),_,_,p.sub (kp [15,14,5,16] O),q,X,(C2.refl S W),(iq (n:=0) O),E⟩
  ·rintro u y ⟨_,_,_,_,_,_,_,_,_,E⟩;rw[Gh] at E;cases E
  rintro n1 u y ⟨k,o,af,ag,p,q,j,z,ah,E⟩;refine AK ?_ p q;clear p q y u;rw[Gh] at E;refine AU ?_;refine AH O E (λZ E=>?_) (λZ E=>?_)
  ·refine AU ?_;refine A5 (AU ?_);have ab:=Y.mono' z;refine BI E O O ab CY.1 O λA E ai aj=>AU ?_;obtain⟨ak,C,E⟩:=bd E;refine BR j mh O O CY.1 C O λal D=>?_;obtain⟨F,G,E⟩:=bd E;have ac:=j.epAt mh G Fg.id D;refine Eh Hj (λ_ x=>x) O ac Fi.1 O λam=>AU ?_;obtain⟨an,H,E⟩:=bd E;refine BR j mh O O CY.1 H O λao I=>AU ?_;obtain⟨ad,J,E⟩:=bd E;refine Ee (r:=AB) (l:=o) (i:=k) (x:=ad) O O (⟨_,O,O,(BW _)⟩:Rd _ _ AB _ (BQ (F-A))) I J L4.id Fi.1 (λ_=>rfl) j .head λap K aq=>AU ?_;refine BJ (AU ?_);refine WF.nil (λu y p q=>?_);exact⟨(BQ (k+1)),(upd o k (BQ (F-A))),_,_,p.sub (kp [15,14,5,16] O),q,K,EX,(BW _),E⟩
  refine BL O (λu y p q=>?_);exact⟨o,_,_,p.sub (kp [5] O),q,j,z,E⟩
 rintro u y ⟨t,ar,au,p,q,M,av,E⟩;refine AK ?_ p q;clear p q y u;rw[H9] at E;refine AU ?_;cases E;exact GF M O O EX
def Tl (hs:St S L h) {d:Value}{c:(List Int)}(n:Sl S h AB d c) {b:Int}(g:AA b) {j:Int}(t:AA j) {r:(List Int)×(List Int)}(E:ML N c b j=some r):
 CM prog 191 #[d,vI b,vI j] S h (λv S' h'=>∃A C:Value,v= .tuple #[A,C]∧St S' (OS AB 3 A r.1::OS AB 3 C r.2::L) h'):=by
 refine CM.go 27 func191 O ntmps191 O λB=>?_;rw[ML] at E;refine AU ?_;obtain⟨W,E⟩:=Lp E;refine K6 (r:=AB) (zx:=0) JU O ⟨O,by unfold AA;omega⟩ O O W O O hs λv3 h4 D e6=>AU ?_;refine CV (.inl O) D (AU ?_);have k7:=n.mono' e6;refine DV E O O O fH O (λX Y h' o=>Qi (St.all h') (k7.mono' (o.all D.1)) g Y) λX E r9=>?_;have Z:=r9;refine XW O O O (AU ?_);refine BZ (kp [8,6,0,1] O) λF q aj=>AU ?_;refine JH (λa w=>∃(z:List Int),IV B S F (27,[]) a w [(6,v3),(0,d)] (OS AB 3 v3 z::L) λ_ _=>Jn N c z=some r) ?_ ?_
 ·refine AH O E (λab E=>?_) (λab E=>?_)
  ·refine AU ?_;obtain⟨ak,G,E⟩:=bd E;refine BR q mh O O CY.1 G O λal H=>AU ?_;obtain⟨ac,I,E⟩:=bd E;refine Ee (r:=AB) (l:=(List.replicate ((↑c.length:Int):Int).toNat (0:Int))) (i:=b) (x:=ac) O O (⟨_,O,O,(Ns t Z)⟩:Rd _ _ AB _ (min j X)) H I L4.id Fi.1 (λ_=>rfl) q .head λam J ad=>AU ?_;refine WF.nil (λU V s u=>?_);exact⟨(upd (List.replicate ((↑c.length:Int):Int).toNat (0:Int)) b (min j X)),_,_,s.sub (kp [6,0] O),u,J,ad,E⟩
  refine AU ?_;refine WF.nil (λU V s u=>?_);exact⟨(List.replicate ((↑c.length:Int):Int).toNat (0:Int)),_,_,s.sub (kp [6,0] O),u,q,(C2.refl S F),E⟩
 rintro U V ⟨z,an,ao,s,u,m,ap,E⟩;refine AK ?_ s u;clear s u V U;rw[Jn] at E;refine AU ?_;refine De (AU ?_);have ae:=n.nw;refine Dd E O O O eZ O m (λaf K=>No (St.all _) (ae.mono m.ea.1 m.ea.2) (m.oslAll mh) K) λaf E aq ar au ai ag ah p=>?_;have M:=p;have y:=m.join ah M ⟨OS.flat (λ{_ _ _ _ _ _} k=>k),trivial⟩;simp only[Abx,Abz] at y;refine AU ?_;refine CO (λU V s u=>?_);have Q:=y.sel [1,0] 0 O;cases E;exact LC s O u (I4 (J1 s (v:=_) O) (I4 (J1 s (v:=_) O) LB)) O ((e6.trans EX).trans ag) ⟨_,_,O,Q⟩
def OT (q:St S L h) {a:Value}{b:(List Int)}(c:Sl S h AB a b) {d:Value}{l:FM}(g:Pt S h DU d l) {r:(List Int)×(List Int)}(E:EQ N l b=some r):
 CM prog 190 #[a,d] S h (λv S' h'=>∃m n:Value,v= .tuple #[m,n]∧St S' (OS AB 3 m r.1::OS AB 3 n r.2::L) h'):=by
 refine CM.go 13 func190 O ntmps190 O λB=>?_;rw[EQ] at E;refine AU ?_;refine De ?_;have y:=g.fl P1;have z:=y.i;have A:=g.fl FM.f_Litres;have C:=A.i;refine AU ?_;refine Dd E O O O rZ O q (λD s=>Tl (St.all _) (c.mono q.ea.1 q.ea.2) z C s) λD E J K F x t u p=>?_;obtain⟨G,H,rfl,o⟩:=p;have j:=q.join u o ⟨OS.flat (λ{_ _ _ _ _ _} k=>k),⟨OS.flat (λ{_ _ _ _ _ _} k=>k),trivial⟩⟩;simp only[Abx,Abz] at j;refine AU ?_;refine CO (λM Q w I=>?_);cases E;exact LC w O I (I4 (J1 w (v:=_) O) (I4 (J1 w (v:=_) O) LB)) O t ⟨_,_,O,j⟩
def Pf {ad:Nat}{p0_w:AM}{Q:Value}{V:Value}{W:Value}{X:Value}{Y:Value}{Z:Value}{ab:Value}{ac:Value}{u:Value}{z:Value}{F:Value}{t:Value}{M:Value}{c:Value}{d:Value}{g:Value}{i:Value}{j:Value}{k:Value}{m:Value}{p:Value}{q:Value}(hs:St S (Bx ad 112 [.string p0_w.b.E,Q,vI p0_w.b.J,V,W,X,Y,Z,ab,ac,vI p0_w.b.K,u,z,F,t,M,vI p0_w.s.B,c,d,g,i,j,k,m,p,q]::OS (A7.sl AB) 29 c p0_w.s.G::OS AB 3 d p0_w.s.N::OS A0 103 g p0_w.s.I::OS BT 107 i p0_w.s.P::OS AB 3 j p0_w.s.L::OS AB 3 k p0_w.s.O::OS CC 116 m p0_w.moves::OS AB 3 p p0_w.peaks::OS A0 103 q p0_w.sent::L) h) (a6:p0_w.b.E.size≤maxLen) (an:Sl S h A7.str Q p0_w.b.H) (a7:AA p0_w.b.J) (ag:Sl S h B4 V p0_w.b.A) (a8:Sl S h CD W p0_w.b.C) (a9:Sl S h HN X p0_w.b.Af) (ba:Sl S h Ex Y p0_w.b.Ah) (bb:Sl S h G7 Z p0_w.b.Ai) (bc:Sl S h Dc ab p0_w.b.Ak) (be:Sl S h AB ac p0_w.b.Aj) (aw:AA p0_w.b.K) (ax:Sl S h AB u p0_w.in_.T) (ay:Sl S h C3 z p0_w.in_.Ab) (az:Sl S h FX F p0_w.in_.Ac) (ak:Sl S h DU t p0_w.in_.U) (a1:Sl S h Du M p0_w.in_.Ae) (a2:AA p0_w.s.B) {ah:Int}(bz:AA ah) {r:(List AD)}(E:JO N p0_w ah=some r):
 CM prog 122 #[vP ad 0,vI ah] S h (λv S' h'=>St S' (OS A3 194 v r::Bx ad 112 [.string p0_w.b.E,Q,vI p0_w.b.J,V,W,X,Y,Z,ab,ac,vI p0_w.b.K,u,z,F,t,M,vI p0_w.s.B,c,d,g,i,j,k,m,p,q]::OS (A7.sl AB) 29 c p0_w.s.G::OS AB 3 d p0_w.s.N::OS A0 103 g p0_w.s.I::OS BT 107 i p0_w.s.P::OS AB 3 j p0_w.s.L::OS AB 3 k p0_w.s.O::OS CC 116 m p0_w.moves::OS AB 3 p p0_w.peaks::OS A0 103 q p0_w.sent::L) h'):=by
 refine CM.go 85 func122 O ntmps122 O λB=>?_;rw[JO] at E;refine AU ?_;refine AQ (λa w=>∃(v2:Value) (l3:List AD),IV B S h (85,[]) a w [(5,v2)] (OS A3 194 v2 l3::Bx ad 112 [.string p0_w.b.E,Q,vI p0_w.b.J,V,W,X,Y,Z,ab,ac,vI p0_w.b.K,u,z,F,t,M,vI p0_w.s.B,c,d,g,i,j,k,m,p,q]::OS (A7.sl AB) 29 c p0_w.s.G::OS AB 3 d p0_w.s.N::OS A0 103 g p0_w.s.I::OS BT 107 i p0_w.s.P::OS AB 3 j p0_w.s.L::OS AB 3 k p0_w.s.O::OS CC 116 m p0_w.moves::OS AB 3 p p0_w.peaks::OS A0 103 q p0_w.sent::L) λ_ _=>D8 N l3=some r) ?_ ?_
 ·refine A8 (λn1=>λa w=>∃(v8:Value) (l9:List AD) (am:Int),IV B S h (85,[]) a w [(13,vI (↑p0_w.in_.U.length:Int)),(12,t),(0,vP ad 0),(1,vI ah),(5,v8),(14,vI am)] (OS A3 194 v8 l9::Bx ad 112 [.string p0_w.b.E,Q,vI p0_w.b.J,V,W,X,Y,Z,ab,ac,vI p0_w.b.K,u,z,F,t,M,vI p0_w.s.B,c,d,g,i,j,k,m,p,q]::OS (A7.sl AB) 29 c p0_w.s.G::OS AB 3 d p0_w.s.N::OS A0 103 g p0_w.s.I::OS BT 107 i p0_w.s.P::OS AB 3 j p0_w.s.L::OS AB 3 k p0_w.s.O::OS CC 116 m p0_w.moves::OS AB 3 p p0_w.peaks::OS A0 103 q p0_w.sent::L) λ_ _=>AA am∧Cw N p0_w ah (D8 N) n1 l9 am=some r) N ?_ ?_ ?_
  ·intro aa ww hf hw;have bf:=hs.nil A3 194;exact⟨(vN),([]:List AD),0,_,_,hf.sub (kp [13,12,0,1,5,14] O),hw,bf,(C2.refl S h),(iq (n:=0) O),E⟩
  ·rintro aa ww ⟨_,_,_,_,_,_,_,_,_,_,E⟩;rw[Cw] at E;cases E
  rintro n1 aa ww ⟨v8,l9,am,b0,b1,hf,hw,ar,bg,cz,E⟩;refine AK ?_ hf hw;clear hf hw ww aa;rw[Cw] at E;refine AU ?_;refine AH O E (λb2 E=>?_) (λb2 E=>?_)
  ·refine AU ?_;refine AQ (λa w=>∃(ao:Value) (ap:List AD),IV B b0 b1 (85,[]) a w [(13,vI (↑p0_w.in_.U.length:Int)),(12,t),(0,vP ad 0),(1,vI ah),(14,vI am),(5,ao)] (OS A3 194 ao ap::Bx ad 112 [.string p0_w.b.E,Q,vI p0_w.b.J,V,W,X,Y,Z,ab,ac,vI p0_w.b.K,u,z,F,t,M,vI p0_w.s.B,c,d,g,i,j,k,m,p,q]::OS (A7.sl AB) 29 c p0_w.s.G::OS AB 3 d p0_w.s.N::OS A0 103 g p0_w.s.I::OS BT 107 i p0_w.s.P::OS AB 3 j p0_w.s.L::OS AB 3 k p0_w.s.O::OS CC 116 m p0_w.moves::OS AB 3 p p0_w.peaks::OS A0 103 q p0_w.sent::L) λ_ _=>G9 N am (Cw N p0_w ah (D8 N) n1) ap=some r) ?_ ?_
   ·refine AU ?_;have b3:=ak.mono' bg;refine BI E O O b3 bP.1 O λaj E c0 b4=>?_;obtain⟨c1,_,b5⟩:=b4.lv;refine AU ?_;refine D0 oH O ar λaq c2 bh b6=>?_;have b7:=b5.mono b6;obtain⟨rfl,⟨b8,bi,b9,a3⟩⟩:=DU.ex b7;refine FL O O O O pA.1 O bh .head O λc3 bj c4=>AU ?_;refine CV (.inr ⟨mo,by kernel_rfl⟩) bj (AU ?_);obtain⟨ca,ai,E⟩:=bd E;refine AY 11 33 (.bool ca) ?_ ?_
    ·cases bk:(decide (aj.Ap≠ah))
     ·have ai:=HV bk ai;have cb:=an.nw;have cc:=cb.le;refine AU ?_;refine BC ai O O O O5 O (λcd bl h' o=>H0 (St.all h') bi (Lj cc) bl) λcd ai=>AU ?_;cases ai;exact AZ O
     have ai:=HU bk ai;cases ai;exact BE O O
    refine AU ?_;refine BZ (kp [38,7,13,12,0,1,5,14] O) λc5 au c6=>AH O E (λce E=>?_) (λce E=>?_)
    ·refine BL O (λaa ww hf hw=>?_);have bm:=au.sel [1,1,1,1,1,1,1,1,1,1,1] 1 O;exact⟨v8,l9,_,_,hf.sub (kp [13,12,0,1,14,5] O),hw,bm,EX,E⟩
    refine AU ?_;refine CV (.inr ⟨mo,by kernel_rfl⟩) au (AU ?_);obtain⟨cf,ae,E⟩:=bd E;refine AY 33 75 (.bool cf) ?_ ?_
    ·cases bn:(decide (aj.D≠(-1)))
     ·have ae:=HV bn ae;cases ae;exact BE O O
     have ae:=HU bn ae;have cg:=ag.nw;have ch:=cg.le;refine AU ?_;refine BC ae O O O O5 O (λbo bp h' o=>H0 (St.all h') a3 (Lj ch) bp) λbo ae=>AU ?_;obtain⟨ci,af,ae⟩:=bd ae;refine AY 21 74 (.bool ci) ?_ ?_
     ·cases bq:(!bo)
      ·have af:=HV bq af;refine AU ?_;have cj:=ag.nw;refine BI af O O cj NM.1 O λc7 af c8 c9=>AU ?_;have ck:=ag.nw;refine BI af O O ck NM.1 O λda af db dc=>AU ?_;cases af;exact AZ O
      have af:=HU bq af;cases af;exact BE O O
     refine AU ?_;cases ae;exact AZ O
    refine BZ (kp [75,7,13,12,0,1,5,14] O) λcl av dd=>AH O E (λcm E=>?_) (λcm E=>?_)
    ·refine BL O (λaa ww hf hw=>?_);have br:=av.sel [1,1,1,1,1,1,1,1,1,1,1] 1 O;exact⟨v8,l9,_,_,hf.sub (kp [13,12,0,1,14,5] O),hw,br,EX,E⟩
    refine AU ?_;refine Ra O O O (Gz (cs:=[vI aj.D,vI 0,vI (-3),.func (.func 190) #[] #[vP aq 0]]) RG O O O (AU ?_));obtain⟨cn,bs,de,co⟩:=av.pubb (r:=DU) (x:=aj) .head ⟨O,⟨b8,bi,b9,a3⟩⟩;have bt:Rd cn cl (A7.fnr prog (λS h vs (x:(List Int))=>∃w0:Value,vs=[w0]∧Sl S h AB w0 x) (λS h v (y:((List Int)×(List Int)))=>∃w0 w1:Value,v= .tuple #[w0,w1]∧Sl S h AB w0 y.1∧Sl S h AB w1 y.2)) (.func (.func 190) #[] #[(vP aq 0)]) (λx=>EQ N aj x):=MT 190 #[(vP aq 0)] sA λS' h' s' e' L hs x y vs h1 h2=>by obtain⟨w0,rfl,a0⟩:=h1;exact PW (OT hs a0 (co.mono'' s' e') h2)
    refine JJ (cs:=[vI aj.D,vI 0,vI (-3),(.func (.func 190) #[] #[(vP aq 0)])]) NY O O O O O O O bs λdf dg bu cp=>?_;obtain⟨bv,E⟩:=Lp E;have cq:=bt.mono cp;refine VT (r:=A3) (l:=l9) (xs:=([(⟨aj.D,0,(-3),(λx=>EQ N aj x)⟩:AD)]:List AD)) O O NY O mh ⟨_,_,O,⟨_,O,a3,(iq (n:=0) O),(iq (n:=(-3)) O),cq⟩,O⟩ O O bv O bu (λ_=>(.tail .head)) λcr dh bw di=>?_;have bx:=bw.drop .head;refine AU ?_;refine WF.nil (λaa ww hf hw=>?_);exact⟨cr,(l9++([(⟨aj.D,0,(-3),(λx=>EQ N aj x)⟩:AD)]:List AD)),_,_,hf.sub (kp [13,12,0,1,14,5] O),hw,bx,EX,E⟩
   rintro aa ww ⟨ao,ap,ct,cu,hf,hw,a4,cv,E⟩;refine AK ?_ hf hw;clear hf hw ww aa;rw[G9] at E;refine AU ?_;refine WF.nil (λaa ww hf hw=>?_);exact⟨ao,ap,(BQ (am+1)),_,_,hf.sub (kp [13,12,0,1,5,14] O),hw,a4,EX,(BW _),E⟩
  refine BL O (λaa ww hf hw=>?_);exact⟨v8,l9,_,_,hf.sub (kp [5] O),hw,ar,bg,E⟩
 rintro aa ww ⟨v2,l3,cw,cx,hf,hw,a5,cy,E⟩;refine AK ?_ hf hw;clear hf hw ww aa;rw[D8] at E;refine AU ?_;cases E;exact GF a5 O O EX
def Kf (l:St S L h) {g:Int}(i:AA g) {a:Int}(c:AA a) {b:Int}(d:AA b) {r:Int}(E:IZ N g a b=some r):
 CM prog 236 #[vI g,vI a,vI b] S h (λv S' h'=>v=vI r∧AA r∧St S' (L) h'):=by
 refine CM.go 21 func236 O ntmps236 O λB=>?_;rw[IZ] at E;refine AU ?_;refine CV (.inl O) l (AU ?_);obtain⟨j,k,E⟩:=bd E;refine J4 (v:= .tuple #[vI j.1,vI j.2.1,.bool j.2.2]) (Ψ:=AA j.1∧AA j.2.1) O O O TL O (λh' o=>(J3 (St.all h') i c d k).mono λ_ _ _ _ p=>⟨p.1,⟨p.2.1,p.2.2.1⟩⟩) λm=>?_;obtain⟨s,t⟩:=m;refine AU ?_;refine BZ (kp [9,7] O) λu n w=>AU ?_;refine AH O E (λq E=>?_) (λq E=>?_)
 ·exact RT
 exact RT
def Tp (H:St S L h) {d:Value}{k:BB}(j:Rd S h CD d k) {a:Int}(b:AA a) {c:Int}(g:AA c) {r:Int}(E:MM N k a c=some r):
 CM prog 238 #[d,vI a,vI c] S h (λv S' h'=>v=vI r∧AA r∧St S' (L) h'):=by
 refine CM.go 20 func238 O ntmps238 O λB=>?_;rw[MM] at E;refine AU ?_;refine Cg O j CE O H λK S2 M q Q G=>AU ?_;refine AH O E (λs E=>?_) (λs E=>?_)
 ·exact RT
 refine AU ?_;refine CV (.inl O) q ?_;have t:=G.fl J5;have u:=t.i;have w:=G.fl J6;have x:=w.i;refine AU ?_;refine DV E O O O TJ O (λy l h' o=>Kf (St.all h') g u x l) λy E z=>?_;have A:=z;refine DV E O O O TM O (λC m h' o=>Kk (St.all h') b A m) λC E D=>?_;have F:=D;refine Rb O O O (AU ?_);refine BZ (kp [6] O) λI p J=>?_;cases E;exact GF ⟨O,(RP (iq (n:=0) O) F),p⟩ O O EX
def U2 (l:St S L h) {a:Value}{g:(List By)}(b:Sl S h CH a g) {c:Int}(d:AA c) {r:Int}(E:M6 N g c=some r):
 CM prog 237 #[a,vI c] S h (λv S' h'=>v=vI r∧AA r∧St S' (L) h'):=by
 refine CM.go 17 func237 O ntmps237 O λB=>?_;rw[M6] at E;refine AU ?_;refine CV (.inl O) l (AU ?_);refine BC E O O O QM O (λn j h' o=>IE (St.all h') (b.mono' (o.all l.1)) j) λn E=>AU ?_;refine BZ (kp [9,0,1] O) λz i p=>AH O E (λq E=>?_) (λq E=>?_)
 ·exact RT
 refine AU ?_;refine CV (.inl O) i (AU ?_);have s:=b.mono' p;refine DV E O O O XM O (λt k h' o=>MZ (St.all h') (s.mono' (o.all i.1)) d k) λt E u=>?_;have w:=u;refine AU ?_;exact BZ (kp [5] O) λx m y=>RT
def Tq (hs:St S L h) {u:Value}{l:BB}(D:Rd S h CD u l) {d:Int}(p:AA d) {c:Bool}{q:Value}{z:(List By)}(F:Sl S h CH q z) {b:Int}(k:AA b) {m:Int}(A:AA m) {r:Int}(E:MN N l d c z b m=some r):
 CM prog 222 #[u,vI d,.bool c,q,vI b,vI m] S h (λv S' h'=>v=vI r∧AA r∧St S' (L) h'):=by
 refine CM.go 63 func222 O ntmps222 O λB=>?_;rw[MN] at E;refine AU ?_;refine Cg O D CE O hs λK S2 y x e5 k6=>AU ?_;refine AQ (λa w=>IV B S2 y (63,[]) a w [] (L) λ_ _=>Jp N=some r) ?_ ?_
 ·refine AU ?_;refine AQ (λa w=>IV B S2 y (63,[]) a w [(6,K),(4,vI b)] (L) λ_ _=>Jo N l b=some r) ?_ ?_
  ·refine AU ?_;refine AQ (λa w=>IV B S2 y (63,[]) a w [(6,K),(2,.bool c),(4,vI b)] (L) λ_ _=>LU N c (Jo N l b)=some r) ?_ ?_
   ·refine AU ?_;refine AQ (λa w=>IV B S2 y (63,[]) a w [(6,K),(2,.bool c),(4,vI b)] (L) λ_ _=>LT N l c b (Jp N)=some r) ?_ ?_
    ·refine AU ?_;refine AQ (λa w=>IV B S2 y (63,[]) a w [(6,K),(1,vI d)] (L) λ_ _=>LS N l d=some r) ?_ ?_
     ·refine AU ?_;refine AQ (λa w=>IV B S2 y (63,[]) a w [(6,K),(1,vI d),(3,q),(4,vI b),(5,vI m)] (L) λ_ _=>LR N l d z b m=some r) ?_ ?_
      ·refine AU ?_;refine AH O E (λal E=>?_) (λal E=>?_)
       ·refine BL O (λs t g j=>?_);exact⟨_,_,g.sub (kp [6,1,3,4,5] O),j,x,(C2.refl S2 y),E⟩
       refine AU ?_;refine AH O E (λam E=>?_) (λam E=>?_)
       ·refine BL O (λs t g j=>?_);exact⟨_,_,g.sub (kp [6,1] O),j,x,(C2.refl S2 y),E⟩
       refine AU ?_;refine AH O E (λan E=>?_) (λan E=>?_)
       ·refine BL O (λs t g j=>?_);exact⟨_,_,g.sub (kp [6,2,4] O),j,x,(C2.refl S2 y),E⟩
       refine AU ?_;refine AH O E (λao E=>?_) (λao E=>?_)
       ·refine BL O (λs t g j=>?_);exact⟨_,_,g.sub (kp [6,2,4] O),j,x,(C2.refl S2 y),E⟩
       refine AU ?_;refine AH O E (λap E=>?_) (λap E=>?_)
       ·refine BL O (λs t g j=>?_);exact⟨_,_,g.sub (kp [6,4] O),j,x,(C2.refl S2 y),E⟩
       refine AU ?_;refine BL O (λs t g j=>?_);exact⟨_,_,g.sub Ri,j,x,(C2.refl S2 y),E⟩
      rintro s t ⟨ca,cb,g,j,C,aq,E⟩;refine AK ?_ g j;clear g j t s;rw[LR] at E;refine AU ?_;refine CV (.inr ⟨mo,by kernel_rfl⟩) C ?_;have H:=k6.mono aq;obtain⟨cc,_,ar⟩:=H.lv;refine AU ?_;refine DV E O O O rN O (λau M h' o=>Tp (St.all h') (ar.mono (o.all C.1)) k A M) λau E av=>?_;have aw:=av;have ax:=F.nw;refine DV E O O O rO O (λay Q h' o=>U2 (St.all h') (ax.mono' (o.all C.1)) aw Q) λay E az=>?_;have a0:=az;have a1:=H.fl Gm;have a2:=a1.i;refine AU ?_;refine DV E O O O TJ O (λa3 U h' o=>Kf (St.all h') a0 p a2 U) λa3 E a4=>?_;have a5:=a4;have a6:=H.fl OG;have a7:=a6.i;refine AU ?_;refine DV E O O O Wb O (λa8 V h' o=>Kl (St.all h') a5 a7 V) λa8 E a9=>?_;have cd:=a9;refine AU ?_;exact BZ (kp [12] O) λce b1 cf=>RT
     rintro s t ⟨cg,ch,g,j,W,ba,E⟩;refine AK ?_ g j;clear g j t s;rw[LS] at E;refine AU ?_;refine CV (.inl O) W ?_;have X:=k6.mono ba;have bb:=X.fl BB.f_Num;have bc:=bb.i;have be:=X.fl Gm;have bf:=be.i;refine AU ?_;refine DV E O O O TJ O (λbg Y h' o=>Kf (St.all h') bc p bf Y) λbg E bh=>?_;have ci:=bh;refine AU ?_;exact BZ (kp [12] O) λcj b2 ck=>RT
    rintro s t ⟨cl,cm,g,j,G,Z,E⟩;refine AK ?_ g j;clear g j t s;rw[LT] at E;refine AU ?_;refine AH O E (λbi E=>?_) (λbi E=>?_)
    ·refine AU ?_;refine CV (.inl O) G ?_;have ab:=k6.mono Z;have bj:=ab.fl BB.f_Num;have bk:=bj.i;have bl:=ab.fl BB.f_Den;have bm:=bl.i;refine AU ?_;refine DV E O O O TJ O (λbn ac h' o=>Kf (St.all h') k bk bm ac) λbn E bo=>?_;have cn:=bo;refine AU ?_;exact BZ (kp [12] O) λco b3 cp=>RT
    refine AU ?_;refine BL O (λs t g j=>?_);exact⟨_,_,g.sub Ri,j,G,Z,E⟩
   rintro s t ⟨cq,cr,g,j,ad,bp,E⟩;refine AK ?_ g j;clear g j t s;rw[LU] at E;refine AU ?_;refine AH O E (λbq E=>?_) (λbq E=>?_)
   ·exact RT
   refine AU ?_;refine WF.nil (λs t g j=>?_);exact⟨_,_,g.sub (kp [6,4] O),j,ad,bp,E⟩
  rintro s t ⟨cs,ct,g,j,ae,br,E⟩;refine AK ?_ g j;clear g j t s;rw[Jo] at E;refine AU ?_;refine CV (.inr ⟨mo,by kernel_rfl⟩) ae ?_;have I:=k6.mono br;have bs:=I.fl Nd;have bt:=bs.i;refine AU ?_;refine DV E O O O TM O (λbu af h' o=>Kk (St.all h') k bt af) λbu E bv=>?_;have bw:=bv;refine Rb O O O ?_;have bx:=I.fl BB.f_Num;have ag:=bx.i;have ah:=I.fl BB.f_Den;have ai:=ah.i;refine AU ?_;refine DV E O O O TJ O (λaj J h' o=>Kf (St.all h') (RP (iq (n:=0) O) bw) ag ai J) λaj E ak=>?_;have b4:=ak;refine AU ?_;exact BZ (kp [12] O) λb5 bz b6=>RT
 rintro s t ⟨b7,b8,g,j,b0,b9,E⟩;refine AK ?_ g j;clear g j t s;rw[Jp] at E;exact RT
def Ux (H:St S L h) {d:Value}{n:BB}(l:Rd S h CD d n) {g:Value}{p:A4}(m:Rd S h BT g p) {a:Int}(b:AA a) {c:Int}(j:AA c) {r:Int}(E:M5 N n p a c=some r):
 CM prog 192 #[d,g,vI a,vI c] S h (λv S' h'=>v=vI r∧AA r∧St S' (L) h'):=by
 refine CM.go 19 func192 O ntmps192 O λB=>?_;rw[M5] at E;refine AU ?_;refine Cg O l CE O H λY S2 Z t I J=>?_;have K:=m.mono I;refine Cg O K CE O t λq8 S9 M k u w=>AU ?_;refine CV (.inl O) k ?_;have q:=J.mono u;obtain⟨Q,_,x⟩:=q.lv;have y:=w.fl Rs;have z:=y.i;have A:=q.fl KY;obtain⟨U,_,C⟩:=A.ll;refine AU ?_;refine DV E O O O rU O (λD s h' o=>Tq (St.all h') (x.mono (o.all k.1)) z (C.mono' (o.all k.1)) b j s) λD E F=>?_;have V:=F;refine AU ?_;exact BZ (kp [8] O) λW G X=>RT
def KF (g:St S L h) {a:Int}(b:AA a) {r:Int}(E:Hx N a=some r):
 CM prog 126 #[vI a] S h (λv S' h'=>∃c:Value,v= .func (.func 196) #[] #[c]∧Pt S' h' AB c r∧St S' (L) h'):=by
 refine CM.go 4 func126 O ntmps126 O λB=>?_;rw[Hx] at E;refine AU ?_;refine Cg O (⟨_,O,O,b⟩:Rd _ _ AB _ a) (λ_=>rfl) O g λj S2 k d l i=>AU ?_;refine Ra O O O (AU ?_);cases E;exact GF ⟨_,O,i,d⟩ O O EX
def R8 (hs:St S L h) {g:Int}(F:AA g) {j:Value}{b:(List Int)}(k:Sl S h AB j b) {r:(List Int)×Bool}(E:Ki N g b=some r):
 CM prog 226 #[vI g,j] S h (λv S' h'=>∃bq:Value,v= .tuple #[bq,.bool r.2]∧St S' (OS AB 3 bq r.1::L) h'):=by
 refine CM.go 112 func226 O ntmps226 O λB=>?_;rw[Ki] at E;refine AU ?_;refine AH O E (λc2 E=>?_) (λc2 E=>?_)
 ·refine AU ?_;refine CO (λt u m c=>?_);have ck:=hs.nil AB 3;cases E;exact LC m O c (I4 (J1 m (v:=_) O) (I4 (J1 m (v:=_) O) LB)) O (C2.refl S h) ⟨_,O,ck⟩
 refine AU ?_;refine AQ (λa w=>∃(i5:Int),IV B S h (112,[]) a w [(0,vI g),(1,j),(6,vI i5)] (L) λ_ _=>AA i5∧GQ N g b i5=some r) ?_ ?_
 ·refine A8 (λn1=>λa w=>∃(X:Int) (Z:Int),IV B S h (112,[]) a w [(24,vI (↑b.length:Int)),(23,j),(0,vI g),(1,j),(6,vI X),(25,vI Z)] (L) λ_ _=>AA X∧AA Z∧GO N b (GQ N g b) n1 X Z=some r) N ?_ ?_ ?_
  ·intro t u m c;exact⟨0,0,_,_,m.sub (kp [24,23,0,1,6,25] O),c,hs,(C2.refl S h),(iq (n:=0) O),(iq (n:=0) O),E⟩
  ·rintro t u ⟨_,_,_,_,_,_,_,_,_,_,E⟩;rw[GO] at E;cases E
  rintro n1 t u ⟨X,Z,d1,d2,m,c,ab,ai,cl,d3,E⟩;refine AK ?_ m c;clear m c u t;rw[GO] at E;refine AU ?_;refine AH O E (λcm E=>?_) (λcm E=>?_)
  ·refine AU ?_;refine A5 (AU ?_);have cn:=k.mono' ai;refine BI E O O cn CY.1 O λco E d4 d5=>AU ?_;refine AH O E (λcp E=>?_) (λcp E=>?_)
   ·refine AU ?_;refine CO (λt u m c=>?_);have br:=ab.nil AB 3;cases E;exact LC m O c (I4 (J1 m (v:=_) O) (I4 (J1 m (v:=_) O) LB)) O ai ⟨_,O,br⟩
   refine AU ?_;refine BJ (AU ?_);refine WF.nil (λt u m c=>?_);exact⟨(BQ (X+co)),(BQ (Z+1)),_,_,m.sub (kp [24,23,0,1,6,25] O),c,ab,ai,(BW _),(BW _),E⟩
  refine BL O (λt u m c=>?_);exact⟨X,_,_,m.sub (kp [0,1,6] O),c,ab,ai,cl,E⟩
 rintro t u ⟨i5,ax,d6,m,c,am,bs,r6,E⟩;refine AK ?_ m c;clear m c u t;rw[GQ] at E;refine AU ?_;refine AH O E (λcq E=>?_) (λcq E=>?_)
 ·refine AU ?_;refine CO (λt u m c=>?_);have bt:=am.nil AB 3;cases E;exact LC m O c (I4 (J1 m (v:=_) O) (I4 (J1 m (v:=_) O) LB)) O bs ⟨_,O,bt⟩
 have d7:=k.mono' bs;refine AU ?_;obtain⟨bu,E⟩:=Lp E;refine K6 (r:=AB) (zx:=0) JU O ⟨O,by unfold AA;omega⟩ O O bu O O am λK d8 an d9=>AU ?_;refine AH O E (λcr E=>?_) (λcr E=>?_)
 ·refine AU ?_;refine CO (λt u m c=>?_);cases E;exact LC m O c (I4 (J1 m (v:=_) O) (I4 (J1 m (v:=_) O) LB)) O EX ⟨_,O,an⟩
 have ea:=k.nw;refine AU ?_;obtain⟨bv,E⟩:=Lp E;refine K6 (r:=AB) (zx:=0) JU O ⟨O,by unfold AA;omega⟩ O O bv O O an λeb ec bw ed=>D0 lY O bw λac ee ao ef=>?_;obtain⟨H,y,rfl,eg⟩:=ao.oslen (mt mh);refine FL O O O O GU.1 O ao .head O λeh bx ei=>?_;have ej:=k.nw;refine AU ?_;obtain⟨bz,E⟩:=Lp E;refine K6 (r:=AB) (zx:=0) JU O ⟨O,by unfold AA;omega⟩ O O bz O O bx λek el b0 em=>D0 lY O b0 λad en ap eo=>?_;obtain⟨I,z,rfl,ep⟩:=ap.oslen (mt mh);refine FL O O O O GU.1 O ap .head O λay b1 eq=>?_;have cs:=k.nw;refine AU ?_;refine AQ (λa w=>∃(aj:Int) (az:List Int) (a0:List Int) (ak:List Int),IV B ax ay (112,[]) a w [(11,vP ad 0),(10,vP ac 0),(9,K),(12,vI aj)] (Bx ad 29 [(.slice I (List.replicate ((↑b.length:Int):Int).toNat (0:Int)).length z)]::OS AB 3 (.slice I (List.replicate ((↑b.length:Int):Int).toNat (0:Int)).length z) az::Bx ac 29 [(.slice H (List.replicate ((↑b.length:Int):Int).toNat (0:Int)).length y)]::OS AB 3 (.slice H (List.replicate ((↑b.length:Int):Int).toNat (0:Int)).length y) a0::OS AB 3 K ak::L) λ_ _=>AA aj∧GP N aj az a0 ak=some r) ?_ ?_
 ·refine A8 (λn3=>λa w=>∃(Y:Int) (A:Int) (Q:List Int) (U:List Int) (V:List Int),IV B ax ay (112,[]) a w [(62,vI (↑b.length:Int)),(61,j),(11,vP ad 0),(10,vP ac 0),(9,K),(0,vI g),(6,vI i5),(12,vI Y),(63,vI A)] (Bx ad 29 [(.slice I (List.replicate ((↑b.length:Int):Int).toNat (0:Int)).length z)]::OS AB 3 (.slice I (List.replicate ((↑b.length:Int):Int).toNat (0:Int)).length z) Q::Bx ac 29 [(.slice H (List.replicate ((↑b.length:Int):Int).toNat (0:Int)).length y)]::OS AB 3 (.slice H (List.replicate ((↑b.length:Int):Int).toNat (0:Int)).length y) U::OS AB 3 K V::L) λ_ _=>AA Y∧AA A∧GN N g b i5 (GP N) n3 Y A Q U V=some r) N ?_ ?_ ?_
  ·intro t u m c;exact⟨g,0,(List.replicate ((↑b.length:Int):Int).toNat (0:Int)),(List.replicate ((↑b.length:Int):Int).toNat (0:Int)),(List.replicate ((↑b.length:Int):Int).toNat (0:Int)),_,_,m.sub (kp [62,61,11,10,9,0,6,12,63] O),c,b1,(C2.refl ax ay),F,(iq (n:=0) O),E⟩
  ·rintro t u ⟨_,_,_,_,_,_,_,_,_,_,_,_,_,E⟩;rw[GN] at E;cases E
  rintro n3 t u ⟨Y,A,Q,U,V,cv,cw,m,c,ae,aq,ct,cu,E⟩;refine AK ?_ m c;clear m c u t;rw[GN] at E;refine AU ?_;refine AH O E (λb2 E=>?_) (λb2 E=>?_)
  ·refine AU ?_;refine A5 (AU ?_);have b3:=cs.mono' aq;refine BI E O O b3 CY.1 O λcx E cy b4=>?_;have b5:=b4.i;refine AU ?_;refine CV (.inl O) ae (AU ?_);obtain⟨s,a1,E⟩:=bd E;refine J4 (v:= .tuple #[vI s.1,vI s.2.1,.bool s.2.2]) (Ψ:=AA s.1∧AA s.2.1) O O O TL O (λh' o=>(J3 (St.all h') F b5 r6 a1).mono λ_ _ _ _ p=>⟨p.1,⟨p.2.1,p.2.2.1⟩⟩) λb6=>?_;obtain⟨b7,b8⟩:=b6;refine AU ?_;refine BZ (kp [16,15,13,62,61,11,10,9,0,6,12,63] O) λcz d c0=>AU ?_;refine fV (λw=>w.heap[ac]? =some (.cells ([(.slice H (List.replicate ((↑b.length:Int):Int).toNat (0:Int)).length y)]:List Value).toArray 29 (0,0))∧w.heap[ad]? =some (.cells ([(.slice I (List.replicate ((↑b.length:Int):Int).toNat (0:Int)).length z)]:List Value).toArray 29 (0,0))) mo (P0 0 O (by kernel_rfl) (λw c=>⟨d.bxW (mt (mt mh)) c,d.bxW mh c⟩) O O (P0 1 O (by kernel_rfl) (λw c=>⟨d.bxW (mt (mt mh)) c,d.bxW mh c⟩) O O (PN 2 (vs:=[(.slice H (List.replicate ((↑b.length:Int):Int).toNat (0:Int)).length y)]) O (by kernel_rfl) (λw c=>⟨d.bxW (mt (mt mh)) c,d.bxW mh c⟩) O (λw c=>c.1) O O GU.1 O O (P0 3 O (by kernel_rfl) (λw c=>⟨d.bxW (mt (mt mh)) c,d.bxW mh c⟩) O O (PN 4 (vs:=[(.slice I (List.replicate ((↑b.length:Int):Int).toNat (0:Int)).length z)]) O (by kernel_rfl) (λw c=>⟨d.bxW (mt (mt mh)) c,d.bxW mh c⟩) O (λw c=>c.2) O O GU.1 O O (P0 5 O (by kernel_rfl) (λw c=>⟨d.bxW (mt (mt mh)) c,d.bxW mh c⟩) O O (P0 6 O (by kernel_rfl) (λw c=>⟨d.bxW (mt (mt mh)) c,d.bxW mh c⟩) O O (P0 7 O (by kernel_rfl) (λw c=>⟨d.bxW (mt (mt mh)) c,d.bxW mh c⟩) O O (P0 8 O (by kernel_rfl) (λw c=>⟨d.bxW (mt (mt mh)) c,d.bxW mh c⟩) O O ?_)))))))));obtain⟨c1,a2,E⟩:=bd E;refine XY 9 (r:=AB) (xs:=V) O (by kernel_rfl) (λw c=>⟨d.bxW (mt (mt mh)) c,d.bxW mh c⟩) d (mt (mt (mt (mt mh)))) O O CY.1 a2 O λc3 a3=>Zq 10 O O (by kernel_rfl) ?_;obtain⟨b9,a4,E⟩:=bd E;refine Ee (r:=AB) (l:=V) (i:=A) (x:=b9) O O (⟨_,O,O,b7⟩:Rd _ _ AB _ s.1) a3 a4 L4.id Fi.1 (λ_=>rfl) d (.tail (.tail (.tail (.tail .head)))) λc4 C c5=>UW (λw c=>⟨C.bxW (mt (mt mh)) c,C.bxW mh c⟩) ?_;obtain⟨c6,a5,E⟩:=bd E;refine XY 11 (r:=AB) (xs:=U) O (by kernel_rfl) (λw c=>⟨C.bxW (mt (mt mh)) c,C.bxW mh c⟩) C (mt (mt (mt mh))) O O CY.1 a5 O λc7 a6=>Zq 12 O O (by kernel_rfl) ?_;obtain⟨ca,a7,E⟩:=bd E;refine Ee (r:=AB) (l:=U) (i:=A) (x:=ca) O O (⟨_,O,O,b8⟩:Rd _ _ AB _ s.2.1) a6 a7 L4.id Fi.1 (λ_=>rfl) C (.tail (.tail (.tail .head))) λc8 D c9=>UW (λw c=>⟨D.bxW (mt (mt mh)) c,D.bxW mh c⟩) ?_;obtain⟨da,a8,E⟩:=bd E;refine XY 13 (r:=AB) (xs:=Q) O (by kernel_rfl) (λw c=>⟨D.bxW (mt (mt mh)) c,D.bxW mh c⟩) D (mt mh) O O CY.1 a8 O λdb a9=>Zq 14 O O (by kernel_rfl) ?_
   obtain⟨cb,ba,E⟩:=bd E;refine Ee (r:=AB) (l:=Q) (i:=A) (x:=cb) O O (⟨_,O,O,cu⟩:Rd _ _ AB _ A) a9 ba L4.id Fi.1 (λ_=>rfl) D (.tail .head) λdc W dd=>UW (λw c=>⟨W.bxW (mt (mt mh)) c,W.bxW mh c⟩) (VW (by kernel_rfl) (kp [15,62,61,11,10,9,0,6,12,63] O) (AU ?_));refine BJ (AU ?_);refine WF.nil (λt u m c=>?_);exact⟨(BQ (Y-s.1)),(BQ (A+1)),(upd Q A A),(upd U A s.2.1),(upd V A s.1),_,_,m.sub (kp [62,61,11,10,9,0,6,12,63] O),c,W,EX,(BW _),(BW _),E⟩
  refine BL O (λt u m c=>?_);exact⟨Y,Q,U,V,_,_,m.sub (kp [11,10,9,12] O),c,ae,aq,ct,E⟩
 rintro t u ⟨aj,az,a0,ak,de,df,m,c,bb,dg,er,E⟩;refine AK ?_ m c;clear m c u t;rw[GP] at E;refine AU ?_;refine De (AJ 3 (AU ?_));refine lE O wM O (Ra O O O (AU ?_));refine GY E O O O rM O (λcc bc=>W1 bb bc) λcc E dh di af dj p=>?_;obtain⟨rfl,be⟩:=p;refine AU ?_;obtain⟨ag,bf,dk,cd⟩:=be.pubs (.tail .head);refine AU ?_;refine AU ?_;obtain⟨ar,bg,E⟩:=bd E;refine AJ 1 (kZ O O cd CY.1 bg O λce cf=>AU ?_);refine AQ (λa w=>∃(ah:List Int),IV B ag af (112,[]) a w [(9,K)] (OS AB 3 K ah::L) λ_ _=>Hr N ah=some r) ?_ ?_
 ·refine A8 (λn5=>λa w=>∃(M:Int) (J:List Int),IV B ag af (112,[]) a w [(99,vI (↑ar.length:Int)),(98,ce),(9,K),(100,vI M)] (OS AB 3 K J::L) λ_ _=>AA M∧GM N ar (Hr N) n5 M J=some r) N ?_ ?_ ?_
  ·intro t u m c;have bh:=bf.sel [3] 3 O;exact⟨0,ak,_,_,m.sub (kp [99,98,9,100] O),c,bh,(C2.refl ag af),(iq (n:=0) O),E⟩
  ·rintro t u ⟨_,_,_,_,_,_,_,_,_,E⟩;rw[GM] at E;cases E
  rintro n5 t u ⟨M,J,dl,dm,m,c,G,au,dn,E⟩;refine AK ?_ m c;clear m c u t;rw[GM] at E;refine AU ?_;refine AH O E (λcg E=>?_) (λcg E=>?_)
  ·refine AU ?_;refine A5 (AU ?_);have ch:=cf.mono' au;refine BI E O O ch CY.1 O λav E dp dq=>AU ?_;obtain⟨dr,bi,E⟩:=bd E;refine BR G mh O O CY.1 bi O λds bj=>?_;obtain⟨aw,bk,E⟩:=bd E;have ci:=G.epAt mh bk Fg.id bj;refine Eh Hj (λ_ x=>x) O ci Fi.1 O λdt=>AU ?_;obtain⟨du,bl,E⟩:=bd E;refine BR G mh O O CY.1 bl O λdv bm=>AU ?_;obtain⟨cj,bn,E⟩:=bd E;refine Ee (r:=AB) (l:=J) (i:=av) (x:=cj) O O (⟨_,O,O,(BW _)⟩:Rd _ _ AB _ (BQ (aw+1))) bm bn L4.id Fi.1 (λ_=>rfl) G .head λdw bo dx=>AU ?_;refine BJ (AU ?_);refine WF.nil (λt u m c=>?_);exact⟨(BQ (M+1)),(upd J av (BQ (aw+1))),_,_,m.sub (kp [99,98,9,100] O),c,bo,EX,(BW _),E⟩
  refine BL O (λt u m c=>?_);exact⟨J,_,_,m.sub (kp [9] O),c,G,au,E⟩
 rintro t u ⟨ah,dy,dz,m,c,bp,d0,E⟩;refine AK ?_ m c;clear m c u t;rw[Hr] at E;refine AU ?_;refine CO (λt u m c=>?_);cases E;exact LC m O c (I4 (J1 m (v:=_) O) (I4 (J1 m (v:=_) O) LB)) O EX ⟨_,O,bp⟩
end Go.Proofs.YtabonambpbofgaaGreat
