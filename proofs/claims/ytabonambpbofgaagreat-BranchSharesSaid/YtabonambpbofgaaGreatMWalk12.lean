import Derived.Test.YtabonambpbofgaaGreatMInst
import Derived.Test.YtabonambpbofgaaGreatMForms
import Derived.Test.YtabonambpbofgaaGreatMSort5
import Derived.Test.YtabonambpbofgaaGreatMCore47
import Derived.Test.YtabonambpbofgaaGreatMSortD
import Derived.Test.YtabonambpbofgaaGreatMWalk1
import Derived.Test.YtabonambpbofgaaGreatMWalk3
import Derived.Test.YtabonambpbofgaaGreatMWalk6
import Derived.Test.YtabonambpbofgaaGreatMWalk9
namespace Go.Proofs.YtabonambpbofgaaGreat
set_option linter.all false
open Go.RowKit
open Go.Proofs.Tryz
set_option maxRecDepth 10000
set_option maxHeartbeats 20000000
variable {N:Nat}{S:Nat→Prop}{L:List HP}{h:AO}
def NS (hs:St S L h) {m:Value}{d:(List Int)}(s:Sl S h AB m d) {b:Value}{c:(List Int)}(g:Sl S h AB b c) {r:(List Int)}(E:IY N d c=some r):
 CJ prog 221 #[m,b] S h (λv S' h'=>St S' (OS AB 3 v r::L) h'):=by
 refine CJ.go 30 func221 O ntmps221 O λB=>?_;rw[IY] at E;refine AU ?_;obtain⟨U,E⟩:=LX E;refine LE (r:=AB) (zx:=0) H5 O ⟨O,by unfold AA;omega⟩ O O U O O hs λQ h4 V e6=>AU ?_;have k7:=s.mono' e6;refine VA (r:=AB) (l:=(List.replicate ((↑d.length:Int):Int).toNat (0:Int))) (xs:=d) O O CQ.1 (Sl.src k7) O V .head λW X ae=>?_;have Y:=g.nw;refine AU ?_;refine AS (λa w=>∃(t:List Int),IV B S W (30,[]) a w [(5,Q)] (OS AB 3 Q t::L) λ_ _=>Hs N t=some r) ?_ ?_
 ·refine A6 (λn1=>λa w=>∃(k:Int) (o:List Int),IV B S W (30,[]) a w [(15,vI (↑c.length:Int)),(14,b),(5,Q),(16,vI k)] (OS AB 3 Q o::L) λ_ _=>AA k∧GR N c (Hs N) n1 k o=some r) N ?_ ?_ ?_
  ·intro u y p q;exact⟨0,(PI (List.replicate ((↑d.length:Int):Int).toNat (0:Int)) d),_,_,p.sub (kp [15,14,5,16] O),q,X,(BF.refl S W),(iq (n:=0) O),E⟩
  ·rintro u y ⟨_,_,_,_,_,_,_,_,_,E⟩;rw[GR] at E;cases E
  rintro n1 u y ⟨k,o,af,ag,p,q,j,z,ah,E⟩;refine AL ?_ p q;clear p q y u;rw[GR] at E;refine AU ?_;refine AH O E (λZ E=>?_) (λZ E=>?_)
  ·refine AU ?_;refine A4 (AU ?_);have ab:=Y.mono' z;refine BH E O O ab CQ.1 O λA E ai aj=>AU ?_;obtain⟨ak,C,E⟩:=bd E;refine BS j mh O O CQ.1 C O λal D=>?_;obtain⟨F,G,E⟩:=bd E;have ac:=j.epAt mh G Fd.id D;refine Ez Hi (λ_ x=>x) O ac FE.1 O λam=>AU ?_;obtain⟨an,H,E⟩:=bd E;refine BS j mh O O CQ.1 H O λao I=>AU ?_;obtain⟨ad,J,E⟩:=bd E;refine EM (r:=AB) (l:=o) (i:=k) (x:=ad) O O (⟨_,O,O,(BT _)⟩:Rd _ _ AB _ (BO (F-A))) I J L7.id FE.1 (λ_=>rfl) j .head λap K aq=>AU ?_;refine BK (AU ?_);refine WF.nil (λu y p q=>?_);exact⟨(BO (k+1)),(upd o k (BO (F-A))),_,_,p.sub (kp [15,14,5,16] O),q,K,EX,(BT _),E⟩
  refine BL O (λu y p q=>?_);exact⟨o,_,_,p.sub (kp [5] O),q,j,z,E⟩
 rintro u y ⟨t,ar,au,p,q,M,av,E⟩;refine AL ?_ p q;clear p q y u;rw[Hs] at E;refine AU ?_;cases E;exact Fp M O O EX
def Ta (hs:St S L h) {d:Value}{c:(List Int)}(n:Sl S h AB d c) {b:Int}(g:AA b) {j:Int}(t:AA j) {r:(List Int)×(List Int)}(E:Ly N c b j=some r):
 CJ prog 191 #[d,vI b,vI j] S h (λv S' h'=>∃A C:Value,v= .tuple #[A,C]∧St S' (OS AB 3 A r.1::OS AB 3 C r.2::L) h'):=by
 refine CJ.go 27 func191 O ntmps191 O λB=>?_;rw[Ly] at E;refine AU ?_;obtain⟨W,E⟩:=LX E;refine LE (r:=AB) (zx:=0) H5 O ⟨O,by unfold AA;omega⟩ O O W O O hs λv3 h4 D e6=>AU ?_;refine CW (.inl O) D (AU ?_);have k7:=n.mono' e6;refine DF E O O O eF O (λX Y h' o=>QQ (St.all h') (k7.mono' (o.all D.1)) g Y) λX E r9=>?_;have Z:=r9;refine XC O O O (AU ?_);refine BW (kp [8,6,0,1] O) λF q aj=>AU ?_;refine IC (λa w=>∃(z:List Int),IV B S F (27,[]) a w [(6,v3),(0,d)] (OS AB 3 v3 z::L) λ_ _=>JS N c z=some r) ?_ ?_
 ·refine AH O E (λab E=>?_) (λab E=>?_)
  ·refine AU ?_;obtain⟨ak,G,E⟩:=bd E;refine BS q mh O O CQ.1 G O λal H=>AU ?_;obtain⟨ac,I,E⟩:=bd E;refine EM (r:=AB) (l:=(List.replicate ((↑c.length:Int):Int).toNat (0:Int))) (i:=b) (x:=ac) O O (⟨_,O,O,(NW t Z)⟩:Rd _ _ AB _ (min j X)) H I L7.id FE.1 (λ_=>rfl) q .head λam J ad=>AU ?_;refine WF.nil (λU V s u=>?_);exact⟨(upd (List.replicate ((↑c.length:Int):Int).toNat (0:Int)) b (min j X)),_,_,s.sub (kp [6,0] O),u,J,ad,E⟩
  refine AU ?_;refine WF.nil (λU V s u=>?_);exact⟨(List.replicate ((↑c.length:Int):Int).toNat (0:Int)),_,_,s.sub (kp [6,0] O),u,q,(BF.refl S F),E⟩
 rintro U V ⟨z,an,ao,s,u,m,ap,E⟩;refine AL ?_ s u;clear s u V U;rw[JS] at E;refine AU ?_;refine DK (AU ?_);have ae:=n.nw;refine DN E O O O dT O m (λaf K=>NS (St.all _) (ae.mono m.ea.1 m.ea.2) (m.oslAll mh) K) λaf E aq ar au ai ag ah p=>?_;have M:=p;have y:=m.join ah M ⟨OS.flat (λ{_ _ _ _ _ _} k=>k),trivial⟩;simp only[Aa5,Aa6] at y;refine AU ?_;refine CI (λU V s u=>?_);have Q:=y.sel [1,0] 0 O;cases E;exact Kv s O u (Io (Jk s (v:=_) O) (Io (Jk s (v:=_) O) Ku)) O ((e6.trans EX).trans ag) ⟨_,_,O,Q⟩
def N6 (q:St S L h) {a:Value}{b:(List Int)}(c:Sl S h AB a b) {d:Value}{l:E4}(g:Pt S h DE d l) {r:(List Int)×(List Int)}(E:D4 N l b=some r):
 CJ prog 190 #[a,d] S h (λv S' h'=>∃m n:Value,v= .tuple #[m,n]∧St S' (OS AB 3 m r.1::OS AB 3 n r.2::L) h'):=by
 refine CJ.go 13 func190 O ntmps190 O λB=>?_;rw[D4] at E;refine AU ?_;refine DK ?_;have y:=g.fl Pg;have z:=y.i;have A:=g.fl E4.f_Litres;have C:=A.i;refine AU ?_;refine DN E O O O qU O q (λD s=>Ta (St.all _) (c.mono q.ea.1 q.ea.2) z C s) λD E J K F x t u p=>?_;obtain⟨G,H,rfl,o⟩:=p;have j:=q.join u o ⟨OS.flat (λ{_ _ _ _ _ _} k=>k),⟨OS.flat (λ{_ _ _ _ _ _} k=>k),trivial⟩⟩;simp only[Aa5,Aa6] at j;refine AU ?_;refine CI (λM Q w I=>?_);cases E;exact Kv w O I (Io (Jk w (v:=_) O) (Io (Jk w (v:=_) O) Ku)) O t ⟨_,_,O,j⟩
def PM {ad:Nat}{p0_w:AK}{Q:Value}{V:Value}{W:Value}{X:Value}{Y:Value}{Z:Value}{ab:Value}{ac:Value}{u:Value}{z:Value}{F:Value}{t:Value}{M:Value}{c:Value}{d:Value}{g:Value}{i:Value}{j:Value}{k:Value}{m:Value}{p:Value}{q:Value}(hs:St S (Bx ad 112 [.string p0_w.b.D,Q,vI p0_w.b.J,V,W,X,Y,Z,ab,ac,vI p0_w.b.K,u,z,F,t,M,vI p0_w.s.B,c,d,g,i,j,k,m,p,q]::OS (A5.sl AB) 29 c p0_w.s.G::OS AB 3 d p0_w.s.N::OS AX 103 g p0_w.s.I::OS BQ 107 i p0_w.s.R::OS AB 3 j p0_w.s.L::OS AB 3 k p0_w.s.O::OS B7 116 m p0_w.moves::OS AB 3 p p0_w.peaks::OS AX 103 q p0_w.sent::L) h) (a6:p0_w.b.D.size≤maxLen) (an:Sl S h A5.str Q p0_w.b.H) (a7:AA p0_w.b.J) (ag:Sl S h BY V p0_w.b.A) (a8:Sl S h B8 W p0_w.b.C) (a9:Sl S h G7 X p0_w.b.Af) (ba:Sl S h Eg Y p0_w.b.Ah) (bb:Sl S h Gr Z p0_w.b.Ai) (bc:Sl S h DM ab p0_w.b.Ak) (be:Sl S h AB ac p0_w.b.Aj) (aw:AA p0_w.b.K) (ax:Sl S h AB u p0_w.in_.T) (ay:Sl S h Cm z p0_w.in_.Ab) (az:Sl S h FD F p0_w.in_.Ac) (ak:Sl S h DE t p0_w.in_.U) (a1:Sl S h Da M p0_w.in_.Ae) (a2:AA p0_w.s.B) {ah:Int}(bz:AA ah) {r:(List AC)}(E:I3 N p0_w ah=some r):
 CJ prog 122 #[vP ad 0,vI ah] S h (λv S' h'=>St S' (OS AW 194 v r::Bx ad 112 [.string p0_w.b.D,Q,vI p0_w.b.J,V,W,X,Y,Z,ab,ac,vI p0_w.b.K,u,z,F,t,M,vI p0_w.s.B,c,d,g,i,j,k,m,p,q]::OS (A5.sl AB) 29 c p0_w.s.G::OS AB 3 d p0_w.s.N::OS AX 103 g p0_w.s.I::OS BQ 107 i p0_w.s.R::OS AB 3 j p0_w.s.L::OS AB 3 k p0_w.s.O::OS B7 116 m p0_w.moves::OS AB 3 p p0_w.peaks::OS AX 103 q p0_w.sent::L) h'):=by
 refine CJ.go 85 func122 O ntmps122 O λB=>?_;rw[I3] at E;refine AU ?_;refine AS (λa w=>∃(v2:Value) (l3:List AC),IV B S h (85,[]) a w [(5,v2)] (OS AW 194 v2 l3::Bx ad 112 [.string p0_w.b.D,Q,vI p0_w.b.J,V,W,X,Y,Z,ab,ac,vI p0_w.b.K,u,z,F,t,M,vI p0_w.s.B,c,d,g,i,j,k,m,p,q]::OS (A5.sl AB) 29 c p0_w.s.G::OS AB 3 d p0_w.s.N::OS AX 103 g p0_w.s.I::OS BQ 107 i p0_w.s.R::OS AB 3 j p0_w.s.L::OS AB 3 k p0_w.s.O::OS B7 116 m p0_w.moves::OS AB 3 p p0_w.peaks::OS AX 103 q p0_w.sent::L) λ_ _=>Dk N l3=some r) ?_ ?_
 ·refine A6 (λn1=>λa w=>∃(v8:Value) (l9:List AC) (am:Int),IV B S h (85,[]) a w [(13,vI (↑p0_w.in_.U.length:Int)),(12,t),(0,vP ad 0),(1,vI ah),(5,v8),(14,vI am)] (OS AW 194 v8 l9::Bx ad 112 [.string p0_w.b.D,Q,vI p0_w.b.J,V,W,X,Y,Z,ab,ac,vI p0_w.b.K,u,z,F,t,M,vI p0_w.s.B,c,d,g,i,j,k,m,p,q]::OS (A5.sl AB) 29 c p0_w.s.G::OS AB 3 d p0_w.s.N::OS AX 103 g p0_w.s.I::OS BQ 107 i p0_w.s.R::OS AB 3 j p0_w.s.L::OS AB 3 k p0_w.s.O::OS B7 116 m p0_w.moves::OS AB 3 p p0_w.peaks::OS AX 103 q p0_w.sent::L) λ_ _=>AA am∧Cf N p0_w ah (Dk N) n1 l9 am=some r) N ?_ ?_ ?_
  ·intro aa ww hf hw;have bf:=hs.nil AW 194;exact⟨(vN),([]:List AC),0,_,_,hf.sub (kp [13,12,0,1,5,14] O),hw,bf,(BF.refl S h),(iq (n:=0) O),E⟩
  ·rintro aa ww ⟨_,_,_,_,_,_,_,_,_,_,E⟩;rw[Cf] at E;cases E
  rintro n1 aa ww ⟨v8,l9,am,b0,b1,hf,hw,ar,bg,cz,E⟩;refine AL ?_ hf hw;clear hf hw ww aa;rw[Cf] at E;refine AU ?_;refine AH O E (λb2 E=>?_) (λb2 E=>?_)
  ·refine AU ?_;refine AS (λa w=>∃(ao:Value) (ap:List AC),IV B b0 b1 (85,[]) a w [(13,vI (↑p0_w.in_.U.length:Int)),(12,t),(0,vP ad 0),(1,vI ah),(14,vI am),(5,ao)] (OS AW 194 ao ap::Bx ad 112 [.string p0_w.b.D,Q,vI p0_w.b.J,V,W,X,Y,Z,ab,ac,vI p0_w.b.K,u,z,F,t,M,vI p0_w.s.B,c,d,g,i,j,k,m,p,q]::OS (A5.sl AB) 29 c p0_w.s.G::OS AB 3 d p0_w.s.N::OS AX 103 g p0_w.s.I::OS BQ 107 i p0_w.s.R::OS AB 3 j p0_w.s.L::OS AB 3 k p0_w.s.O::OS B7 116 m p0_w.moves::OS AB 3 p p0_w.peaks::OS AX 103 q p0_w.sent::L) λ_ _=>Gu N am (Cf N p0_w ah (Dk N) n1) ap=some r) ?_ ?_
   ·refine AU ?_;have b3:=ak.mono' bg;refine BH E O O b3 aU.1 O λaj E c0 b4=>?_;obtain⟨c1,_,b5⟩:=b4.lv;refine AU ?_;refine Dp nB O ar λaq c2 bh b6=>?_;have b7:=b5.mono b6;obtain⟨rfl,⟨b8,bi,b9,a3⟩⟩:=DE.ex b7;refine Eh O O O O nR.1 O bh .head O λc3 bj c4=>AU ?_;refine CW (.inr ⟨mo,by kernel_rfl⟩) bj (AU ?_);obtain⟨ca,ai,E⟩:=bd E;refine AY 11 33 (.bool ca) ?_ ?_
    ·cases bk:(decide (aj.Ap≠ah))
     ·have ai:=HM bk ai;have cb:=an.nw;have cc:=cb.le;refine AU ?_;refine BA ai O O O Oi O (λcd bl h' o=>Hk (St.all h') bi (K4 cc) bl) λcd ai=>AU ?_;cases ai;exact AZ O
     have ai:=HL bk ai;cases ai;exact BE O O
    refine AU ?_;refine BW (kp [38,7,13,12,0,1,5,14] O) λc5 au c6=>AH O E (λce E=>?_) (λce E=>?_)
    ·refine BL O (λaa ww hf hw=>?_);have bm:=au.sel [1,1,1,1,1,1,1,1,1,1,1] 1 O;exact⟨v8,l9,_,_,hf.sub (kp [13,12,0,1,14,5] O),hw,bm,EX,E⟩
    refine AU ?_;refine CW (.inr ⟨mo,by kernel_rfl⟩) au (AU ?_);obtain⟨cf,ae,E⟩:=bd E;refine AY 33 75 (.bool cf) ?_ ?_
    ·cases bn:(decide (aj.E≠(-1)))
     ·have ae:=HM bn ae;cases ae;exact BE O O
     have ae:=HL bn ae;have cg:=ag.nw;have ch:=cg.le;refine AU ?_;refine BA ae O O O Oi O (λbo bp h' o=>Hk (St.all h') a3 (K4 ch) bp) λbo ae=>AU ?_;obtain⟨ci,af,ae⟩:=bd ae;refine AY 21 74 (.bool ci) ?_ ?_
     ·cases bq:(!bo)
      ·have af:=HM bq af;refine AU ?_;have cj:=ag.nw;refine BH af O O cj Mx.1 O λc7 af c8 c9=>AU ?_;have ck:=ag.nw;refine BH af O O ck Mx.1 O λda af db dc=>AU ?_;cases af;exact AZ O
      have af:=HL bq af;cases af;exact BE O O
     refine AU ?_;cases ae;exact AZ O
    refine BW (kp [75,7,13,12,0,1,5,14] O) λcl av dd=>AH O E (λcm E=>?_) (λcm E=>?_)
    ·refine BL O (λaa ww hf hw=>?_);have br:=av.sel [1,1,1,1,1,1,1,1,1,1,1] 1 O;exact⟨v8,l9,_,_,hf.sub (kp [13,12,0,1,14,5] O),hw,br,EX,E⟩
    refine AU ?_;refine RH O O O (Gs (cs:=[vI aj.E,vI 0,vI (-3),.func (.func 190) #[] #[vP aq 0]]) Qu O O O (AU ?_));obtain⟨cn,bs,de,co⟩:=av.pubb (r:=DE) (x:=aj) .head ⟨O,⟨b8,bi,b9,a3⟩⟩;have bt:Rd cn cl (A5.fnr prog (λS h vs (x:(List Int))=>∃w0:Value,vs=[w0]∧Sl S h AB w0 x) (λS h v (y:((List Int)×(List Int)))=>∃w0 w1:Value,v= .tuple #[w0,w1]∧Sl S h AB w0 y.1∧Sl S h AB w1 y.2)) (.func (.func 190) #[] #[(vP aq 0)]) (λx=>D4 N aj x):=Na 190 #[(vP aq 0)] qV λS' h' s' e' L hs x y vs h1 h2=>by obtain⟨w0,rfl,a0⟩:=h1;exact PD (N6 hs a0 (co.mono'' s' e') h2)
    refine ID (cs:=[vI aj.E,vI 0,vI (-3),(.func (.func 190) #[] #[(vP aq 0)])]) M9 O O O O O O O bs λdf dg bu cp=>?_;obtain⟨bv,E⟩:=LX E;have cq:=bt.mono cp;refine VC (r:=AW) (l:=l9) (xs:=([(⟨aj.E,0,(-3),(λx=>D4 N aj x)⟩:AC)]:List AC)) O O M9 O mh ⟨_,_,O,⟨_,O,a3,(iq (n:=0) O),(iq (n:=(-3)) O),cq⟩,O⟩ O O bv O bu (λ_=>(.tail .head)) λcr dh bw di=>?_;have bx:=bw.drop .head;refine AU ?_;refine WF.nil (λaa ww hf hw=>?_);exact⟨cr,(l9++([(⟨aj.E,0,(-3),(λx=>D4 N aj x)⟩:AC)]:List AC)),_,_,hf.sub (kp [13,12,0,1,14,5] O),hw,bx,EX,E⟩
   rintro aa ww ⟨ao,ap,ct,cu,hf,hw,a4,cv,E⟩;refine AL ?_ hf hw;clear hf hw ww aa;rw[Gu] at E;refine AU ?_;refine WF.nil (λaa ww hf hw=>?_);exact⟨ao,ap,(BO (am+1)),_,_,hf.sub (kp [13,12,0,1,5,14] O),hw,a4,EX,(BT _),E⟩
  refine BL O (λaa ww hf hw=>?_);exact⟨v8,l9,_,_,hf.sub (kp [5] O),hw,ar,bg,E⟩
 rintro aa ww ⟨v2,l3,cw,cx,hf,hw,a5,cy,E⟩;refine AL ?_ hf hw;clear hf hw ww aa;rw[Dk] at E;refine AU ?_;cases E;exact Fp a5 O O EX
def KU (l:St S L h) {g:Int}(i:AA g) {a:Int}(c:AA a) {b:Int}(d:AA b) {r:Int}(E:IH N g a b=some r):
 CJ prog 236 #[vI g,vI a,vI b] S h (λv S' h'=>v=vI r∧AA r∧St S' (L) h'):=by
 refine CJ.go 21 func236 O ntmps236 O λB=>?_;rw[IH] at E;refine AU ?_;refine CW (.inl O) l (AU ?_);obtain⟨j,k,E⟩:=bd E;refine Jp (v:= .tuple #[vI j.1,vI j.2.1,.bool j.2.2]) (Ψ:=AA j.1∧AA j.2.1) O O O S7 O (λh' o=>(Jn (St.all h') i c d k).mono λ_ _ _ _ p=>⟨p.1,⟨p.2.1,p.2.2.1⟩⟩) λm=>?_;obtain⟨s,t⟩:=m;refine AU ?_;refine BW (kp [9,7] O) λu n w=>AU ?_;refine AH O E (λq E=>?_) (λq E=>?_)
 ·exact RT
 exact RT
def Te (H:St S L h) {d:Value}{k:A8}(j:Rd S h B8 d k) {a:Int}(b:AA a) {c:Int}(g:AA c) {r:Int}(E:Lz N k a c=some r):
 CJ prog 238 #[d,vI a,vI c] S h (λv S' h'=>v=vI r∧AA r∧St S' (L) h'):=by
 refine CJ.go 20 func238 O ntmps238 O λB=>?_;rw[Lz] at E;refine AU ?_;refine Cn O j CE O H λK S2 M q Q G=>AU ?_;refine AH O E (λs E=>?_) (λs E=>?_)
 ·exact RT
 refine AU ?_;refine CW (.inl O) q ?_;have t:=G.fl Jq;have u:=t.i;have w:=G.fl Jr;have x:=w.i;refine AU ?_;refine DF E O O O Sy O (λy l h' o=>KU (St.all h') g u x l) λy E z=>?_;have A:=z;refine DF E O O O TA O (λC m h' o=>KZ (St.all h') b A m) λC E D=>?_;have F:=D;refine RI O O O (AU ?_);refine BW (kp [6] O) λI p J=>?_;cases E;exact Fp ⟨O,(Q6 (iq (n:=0) O) F),p⟩ O O EX
def Um (l:St S L h) {a:Value}{g:(List BU)}(b:Sl S h CA a g) {c:Int}(d:AA c) {r:Int}(E:Mn N g c=some r):
 CJ prog 237 #[a,vI c] S h (λv S' h'=>v=vI r∧AA r∧St S' (L) h'):=by
 refine CJ.go 17 func237 O ntmps237 O λB=>?_;rw[Mn] at E;refine AU ?_;refine CW (.inl O) l (AU ?_);refine BA E O O O P2 O (λn j h' o=>Hx (St.all h') (b.mono' (o.all l.1)) j) λn E=>AU ?_;refine BW (kp [9,0,1] O) λz i p=>AH O E (λq E=>?_) (λq E=>?_)
 ·exact RT
 refine AU ?_;refine CW (.inl O) i (AU ?_);have s:=b.mono' p;refine DF E O O O W2 O (λt k h' o=>MB (St.all h') (s.mono' (o.all i.1)) d k) λt E u=>?_;have w:=u;refine AU ?_;exact BW (kp [5] O) λx m y=>RT
def Tf (hs:St S L h) {u:Value}{l:A8}(D:Rd S h B8 u l) {d:Int}(p:AA d) {c:Bool}{q:Value}{z:(List BU)}(F:Sl S h CA q z) {b:Int}(k:AA b) {m:Int}(A:AA m) {r:Int}(E:L0 N l d c z b m=some r):
 CJ prog 222 #[u,vI d,.bool c,q,vI b,vI m] S h (λv S' h'=>v=vI r∧AA r∧St S' (L) h'):=by
 refine CJ.go 63 func222 O ntmps222 O λB=>?_;rw[L0] at E;refine AU ?_;refine Cn O D CE O hs λK S2 y x e5 k6=>AU ?_;refine AS (λa w=>IV B S2 y (63,[]) a w [] (L) λ_ _=>JU N=some r) ?_ ?_
 ·refine AU ?_;refine AS (λa w=>IV B S2 y (63,[]) a w [(6,K),(4,vI b)] (L) λ_ _=>JT N l b=some r) ?_ ?_
  ·refine AU ?_;refine AS (λa w=>IV B S2 y (63,[]) a w [(6,K),(2,.bool c),(4,vI b)] (L) λ_ _=>LA N c (JT N l b)=some r) ?_ ?_
   ·refine AU ?_;refine AS (λa w=>IV B S2 y (63,[]) a w [(6,K),(2,.bool c),(4,vI b)] (L) λ_ _=>K9 N l c b (JU N)=some r) ?_ ?_
    ·refine AU ?_;refine AS (λa w=>IV B S2 y (63,[]) a w [(6,K),(1,vI d)] (L) λ_ _=>K8 N l d=some r) ?_ ?_
     ·refine AU ?_;refine AS (λa w=>IV B S2 y (63,[]) a w [(6,K),(1,vI d),(3,q),(4,vI b),(5,vI m)] (L) λ_ _=>K7 N l d z b m=some r) ?_ ?_
      ·refine AU ?_;refine AH O E (λal E=>?_) (λal E=>?_)
       ·refine BL O (λs t g j=>?_);exact⟨_,_,g.sub (kp [6,1,3,4,5] O),j,x,(BF.refl S2 y),E⟩
       refine AU ?_;refine AH O E (λam E=>?_) (λam E=>?_)
       ·refine BL O (λs t g j=>?_);exact⟨_,_,g.sub (kp [6,1] O),j,x,(BF.refl S2 y),E⟩
       refine AU ?_;refine AH O E (λan E=>?_) (λan E=>?_)
       ·refine BL O (λs t g j=>?_);exact⟨_,_,g.sub (kp [6,2,4] O),j,x,(BF.refl S2 y),E⟩
       refine AU ?_;refine AH O E (λao E=>?_) (λao E=>?_)
       ·refine BL O (λs t g j=>?_);exact⟨_,_,g.sub (kp [6,2,4] O),j,x,(BF.refl S2 y),E⟩
       refine AU ?_;refine AH O E (λap E=>?_) (λap E=>?_)
       ·refine BL O (λs t g j=>?_);exact⟨_,_,g.sub (kp [6,4] O),j,x,(BF.refl S2 y),E⟩
       refine AU ?_;refine BL O (λs t g j=>?_);exact⟨_,_,g.sub Sa,j,x,(BF.refl S2 y),E⟩
      rintro s t ⟨ca,cb,g,j,C,aq,E⟩;refine AL ?_ g j;clear g j t s;rw[K7] at E;refine AU ?_;refine CW (.inr ⟨mo,by kernel_rfl⟩) C ?_;have H:=k6.mono aq;obtain⟨cc,_,ar⟩:=H.lv;refine AU ?_;refine DF E O O O qI O (λau M h' o=>Te (St.all h') (ar.mono (o.all C.1)) k A M) λau E av=>?_;have aw:=av;have ax:=F.nw;refine DF E O O O qJ O (λay Q h' o=>Um (St.all h') (ax.mono' (o.all C.1)) aw Q) λay E az=>?_;have a0:=az;have a1:=H.fl GV;have a2:=a1.i;refine AU ?_;refine DF E O O O Sy O (λa3 U h' o=>KU (St.all h') a0 p a2 U) λa3 E a4=>?_;have a5:=a4;have a6:=H.fl Nz;have a7:=a6.i;refine AU ?_;refine DF E O O O WG O (λa8 V h' o=>Ka (St.all h') a5 a7 V) λa8 E a9=>?_;have cd:=a9;refine AU ?_;exact BW (kp [12] O) λce b1 cf=>RT
     rintro s t ⟨cg,ch,g,j,W,ba,E⟩;refine AL ?_ g j;clear g j t s;rw[K8] at E;refine AU ?_;refine CW (.inl O) W ?_;have X:=k6.mono ba;have bb:=X.fl A8.f_Num;have bc:=bb.i;have be:=X.fl GV;have bf:=be.i;refine AU ?_;refine DF E O O O Sy O (λbg Y h' o=>KU (St.all h') bc p bf Y) λbg E bh=>?_;have ci:=bh;refine AU ?_;exact BW (kp [12] O) λcj b2 ck=>RT
    rintro s t ⟨cl,cm,g,j,G,Z,E⟩;refine AL ?_ g j;clear g j t s;rw[K9] at E;refine AU ?_;refine AH O E (λbi E=>?_) (λbi E=>?_)
    ·refine AU ?_;refine CW (.inl O) G ?_;have ab:=k6.mono Z;have bj:=ab.fl A8.f_Num;have bk:=bj.i;have bl:=ab.fl A8.f_Den;have bm:=bl.i;refine AU ?_;refine DF E O O O Sy O (λbn ac h' o=>KU (St.all h') k bk bm ac) λbn E bo=>?_;have cn:=bo;refine AU ?_;exact BW (kp [12] O) λco b3 cp=>RT
    refine AU ?_;refine BL O (λs t g j=>?_);exact⟨_,_,g.sub Sa,j,G,Z,E⟩
   rintro s t ⟨cq,cr,g,j,ad,bp,E⟩;refine AL ?_ g j;clear g j t s;rw[LA] at E;refine AU ?_;refine AH O E (λbq E=>?_) (λbq E=>?_)
   ·exact RT
   refine AU ?_;refine WF.nil (λs t g j=>?_);exact⟨_,_,g.sub (kp [6,4] O),j,ad,bp,E⟩
  rintro s t ⟨cs,ct,g,j,ae,br,E⟩;refine AL ?_ g j;clear g j t s;rw[JT] at E;refine AU ?_;refine CW (.inr ⟨mo,by kernel_rfl⟩) ae ?_;have I:=k6.mono br;have bs:=I.fl NF;have bt:=bs.i;refine AU ?_;refine DF E O O O TA O (λbu af h' o=>KZ (St.all h') k bt af) λbu E bv=>?_;have bw:=bv;refine RI O O O ?_;have bx:=I.fl A8.f_Num;have ag:=bx.i;have ah:=I.fl A8.f_Den;have ai:=ah.i;refine AU ?_;refine DF E O O O Sy O (λaj J h' o=>KU (St.all h') (Q6 (iq (n:=0) O) bw) ag ai J) λaj E ak=>?_;have b4:=ak;refine AU ?_;exact BW (kp [12] O) λb5 bz b6=>RT
 rintro s t ⟨b7,b8,g,j,b0,b9,E⟩;refine AL ?_ g j;clear g j t s;rw[JU] at E;exact RT
def Uh (H:St S L h) {d:Value}{n:A8}(l:Rd S h B8 d n) {g:Value}{p:A0}(m:Rd S h BQ g p) {a:Int}(b:AA a) {c:Int}(j:AA c) {r:Int}(E:Mm N n p a c=some r):
 CJ prog 192 #[d,g,vI a,vI c] S h (λv S' h'=>v=vI r∧AA r∧St S' (L) h'):=by
 refine CJ.go 19 func192 O ntmps192 O λB=>?_;rw[Mm] at E;refine AU ?_;refine Cn O l CE O H λY S2 Z t I J=>?_;have K:=m.mono I;refine Cn O K CE O t λq8 S9 M k u w=>AU ?_;refine CW (.inl O) k ?_;have q:=J.mono u;obtain⟨Q,_,x⟩:=q.lv;have y:=w.fl Rg;have z:=y.i;have A:=q.fl KL;obtain⟨U,_,C⟩:=A.ll;refine AU ?_;refine DF E O O O qP O (λD s h' o=>Tf (St.all h') (x.mono (o.all k.1)) z (C.mono' (o.all k.1)) b j s) λD E F=>?_;have V:=F;refine AU ?_;exact BW (kp [8] O) λW G X=>RT
def J1 (g:St S L h) {a:Int}(b:AA a) {r:Int}(E:Hg N a=some r):
 CJ prog 126 #[vI a] S h (λv S' h'=>∃c:Value,v= .func (.func 196) #[] #[c]∧Pt S' h' AB c r∧St S' (L) h'):=by
 refine CJ.go 4 func126 O ntmps126 O λB=>?_;rw[Hg] at E;refine AU ?_;refine Cn O (⟨_,O,O,b⟩:Rd _ _ AB _ a) (λ_=>rfl) O g λj S2 k d l i=>AU ?_;refine RH O O O (AU ?_);cases E;exact Fp ⟨_,O,i,d⟩ O O EX
def Ru (hs:St S L h) {g:Int}(F:AA g) {j:Value}{b:(List Int)}(k:Sl S h AB j b) {r:(List Int)×Bool}(E:KX N g b=some r):
 CJ prog 226 #[vI g,j] S h (λv S' h'=>∃bq:Value,v= .tuple #[bq,.bool r.2]∧St S' (OS AB 3 bq r.1::L) h'):=by
 refine CJ.go 112 func226 O ntmps226 O λB=>?_;rw[KX] at E;refine AU ?_;refine AH O E (λc2 E=>?_) (λc2 E=>?_)
 ·refine AU ?_;refine CI (λt u m c=>?_);have ck:=hs.nil AB 3;cases E;exact Kv m O c (Io (Jk m (v:=_) O) (Io (Jk m (v:=_) O) Ku)) O (BF.refl S h) ⟨_,O,ck⟩
 refine AU ?_;refine AS (λa w=>∃(i5:Int),IV B S h (112,[]) a w [(0,vI g),(1,j),(6,vI i5)] (L) λ_ _=>AA i5∧GA N g b i5=some r) ?_ ?_
 ·refine A6 (λn1=>λa w=>∃(X:Int) (Z:Int),IV B S h (112,[]) a w [(24,vI (↑b.length:Int)),(23,j),(0,vI g),(1,j),(6,vI X),(25,vI Z)] (L) λ_ _=>AA X∧AA Z∧F8 N b (GA N g b) n1 X Z=some r) N ?_ ?_ ?_
  ·intro t u m c;exact⟨0,0,_,_,m.sub (kp [24,23,0,1,6,25] O),c,hs,(BF.refl S h),(iq (n:=0) O),(iq (n:=0) O),E⟩
  ·rintro t u ⟨_,_,_,_,_,_,_,_,_,_,E⟩;rw[F8] at E;cases E
  rintro n1 t u ⟨X,Z,d1,d2,m,c,ab,ai,cl,d3,E⟩;refine AL ?_ m c;clear m c u t;rw[F8] at E;refine AU ?_;refine AH O E (λcm E=>?_) (λcm E=>?_)
  ·refine AU ?_;refine A4 (AU ?_);have cn:=k.mono' ai;refine BH E O O cn CQ.1 O λco E d4 d5=>AU ?_;refine AH O E (λcp E=>?_) (λcp E=>?_)
   ·refine AU ?_;refine CI (λt u m c=>?_);have br:=ab.nil AB 3;cases E;exact Kv m O c (Io (Jk m (v:=_) O) (Io (Jk m (v:=_) O) Ku)) O ai ⟨_,O,br⟩
   refine AU ?_;refine BK (AU ?_);refine WF.nil (λt u m c=>?_);exact⟨(BO (X+co)),(BO (Z+1)),_,_,m.sub (kp [24,23,0,1,6,25] O),c,ab,ai,(BT _),(BT _),E⟩
  refine BL O (λt u m c=>?_);exact⟨X,_,_,m.sub (kp [0,1,6] O),c,ab,ai,cl,E⟩
 rintro t u ⟨i5,ax,d6,m,c,am,bs,r6,E⟩;refine AL ?_ m c;clear m c u t;rw[GA] at E;refine AU ?_;refine AH O E (λcq E=>?_) (λcq E=>?_)
 ·refine AU ?_;refine CI (λt u m c=>?_);have bt:=am.nil AB 3;cases E;exact Kv m O c (Io (Jk m (v:=_) O) (Io (Jk m (v:=_) O) Ku)) O bs ⟨_,O,bt⟩
 have d7:=k.mono' bs;refine AU ?_;obtain⟨bu,E⟩:=LX E;refine LE (r:=AB) (zx:=0) H5 O ⟨O,by unfold AA;omega⟩ O O bu O O am λK d8 an d9=>AU ?_;refine AH O E (λcr E=>?_) (λcr E=>?_)
 ·refine AU ?_;refine CI (λt u m c=>?_);cases E;exact Kv m O c (Io (Jk m (v:=_) O) (Io (Jk m (v:=_) O) Ku)) O EX ⟨_,O,an⟩
 have ea:=k.nw;refine AU ?_;obtain⟨bv,E⟩:=LX E;refine LE (r:=AB) (zx:=0) H5 O ⟨O,by unfold AA;omega⟩ O O bv O O an λeb ec bw ed=>Dp kW O bw λac ee ao ef=>?_;obtain⟨H,y,rfl,eg⟩:=ao.oslen (mt mh);refine Eh O O O O GD.1 O ao .head O λeh bx ei=>?_;have ej:=k.nw;refine AU ?_;obtain⟨bz,E⟩:=LX E;refine LE (r:=AB) (zx:=0) H5 O ⟨O,by unfold AA;omega⟩ O O bz O O bx λek el b0 em=>Dp kW O b0 λad en ap eo=>?_;obtain⟨I,z,rfl,ep⟩:=ap.oslen (mt mh);refine Eh O O O O GD.1 O ap .head O λay b1 eq=>?_;have cs:=k.nw;refine AU ?_;refine AS (λa w=>∃(aj:Int) (az:List Int) (a0:List Int) (ak:List Int),IV B ax ay (112,[]) a w [(11,vP ad 0),(10,vP ac 0),(9,K),(12,vI aj)] (Bx ad 29 [(.slice I (List.replicate ((↑b.length:Int):Int).toNat (0:Int)).length z)]::OS AB 3 (.slice I (List.replicate ((↑b.length:Int):Int).toNat (0:Int)).length z) az::Bx ac 29 [(.slice H (List.replicate ((↑b.length:Int):Int).toNat (0:Int)).length y)]::OS AB 3 (.slice H (List.replicate ((↑b.length:Int):Int).toNat (0:Int)).length y) a0::OS AB 3 K ak::L) λ_ _=>AA aj∧F9 N aj az a0 ak=some r) ?_ ?_
 ·refine A6 (λn3=>λa w=>∃(Y:Int) (A:Int) (Q:List Int) (U:List Int) (V:List Int),IV B ax ay (112,[]) a w [(62,vI (↑b.length:Int)),(61,j),(11,vP ad 0),(10,vP ac 0),(9,K),(0,vI g),(6,vI i5),(12,vI Y),(63,vI A)] (Bx ad 29 [(.slice I (List.replicate ((↑b.length:Int):Int).toNat (0:Int)).length z)]::OS AB 3 (.slice I (List.replicate ((↑b.length:Int):Int).toNat (0:Int)).length z) Q::Bx ac 29 [(.slice H (List.replicate ((↑b.length:Int):Int).toNat (0:Int)).length y)]::OS AB 3 (.slice H (List.replicate ((↑b.length:Int):Int).toNat (0:Int)).length y) U::OS AB 3 K V::L) λ_ _=>AA Y∧AA A∧F7 N g b i5 (F9 N) n3 Y A Q U V=some r) N ?_ ?_ ?_
  ·intro t u m c;exact⟨g,0,(List.replicate ((↑b.length:Int):Int).toNat (0:Int)),(List.replicate ((↑b.length:Int):Int).toNat (0:Int)),(List.replicate ((↑b.length:Int):Int).toNat (0:Int)),_,_,m.sub (kp [62,61,11,10,9,0,6,12,63] O),c,b1,(BF.refl ax ay),F,(iq (n:=0) O),E⟩
  ·rintro t u ⟨_,_,_,_,_,_,_,_,_,_,_,_,_,E⟩;rw[F7] at E;cases E
  rintro n3 t u ⟨Y,A,Q,U,V,cv,cw,m,c,ae,aq,ct,cu,E⟩;refine AL ?_ m c;clear m c u t;rw[F7] at E;refine AU ?_;refine AH O E (λb2 E=>?_) (λb2 E=>?_)
  ·refine AU ?_;refine A4 (AU ?_);have b3:=cs.mono' aq;refine BH E O O b3 CQ.1 O λcx E cy b4=>?_;have b5:=b4.i;refine AU ?_;refine CW (.inl O) ae (AU ?_);obtain⟨s,a1,E⟩:=bd E;refine Jp (v:= .tuple #[vI s.1,vI s.2.1,.bool s.2.2]) (Ψ:=AA s.1∧AA s.2.1) O O O S7 O (λh' o=>(Jn (St.all h') F b5 r6 a1).mono λ_ _ _ _ p=>⟨p.1,⟨p.2.1,p.2.2.1⟩⟩) λb6=>?_;obtain⟨b7,b8⟩:=b6;refine AU ?_;refine BW (kp [16,15,13,62,61,11,10,9,0,6,12,63] O) λcz d c0=>AU ?_;refine Oy (λw=>w.heap[ac]? =some (.cells ([(.slice H (List.replicate ((↑b.length:Int):Int).toNat (0:Int)).length y)]:List Value).toArray 29 (0,0))∧w.heap[ad]? =some (.cells ([(.slice I (List.replicate ((↑b.length:Int):Int).toNat (0:Int)).length z)]:List Value).toArray 29 (0,0))) mo (Pf 0 O (by kernel_rfl) (λw c=>⟨d.bxW (mt (mt mh)) c,d.bxW mh c⟩) O O (Pf 1 O (by kernel_rfl) (λw c=>⟨d.bxW (mt (mt mh)) c,d.bxW mh c⟩) O O (O3 2 (vs:=[(.slice H (List.replicate ((↑b.length:Int):Int).toNat (0:Int)).length y)]) O (by kernel_rfl) (λw c=>⟨d.bxW (mt (mt mh)) c,d.bxW mh c⟩) O (λw c=>c.1) O O GD.1 O O (Pf 3 O (by kernel_rfl) (λw c=>⟨d.bxW (mt (mt mh)) c,d.bxW mh c⟩) O O (O3 4 (vs:=[(.slice I (List.replicate ((↑b.length:Int):Int).toNat (0:Int)).length z)]) O (by kernel_rfl) (λw c=>⟨d.bxW (mt (mt mh)) c,d.bxW mh c⟩) O (λw c=>c.2) O O GD.1 O O (Pf 5 O (by kernel_rfl) (λw c=>⟨d.bxW (mt (mt mh)) c,d.bxW mh c⟩) O O (Pf 6 O (by kernel_rfl) (λw c=>⟨d.bxW (mt (mt mh)) c,d.bxW mh c⟩) O O (Pf 7 O (by kernel_rfl) (λw c=>⟨d.bxW (mt (mt mh)) c,d.bxW mh c⟩) O O (Pf 8 O (by kernel_rfl) (λw c=>⟨d.bxW (mt (mt mh)) c,d.bxW mh c⟩) O O ?_)))))))));obtain⟨c1,a2,E⟩:=bd E;refine XE 9 (r:=AB) (xs:=V) O (by kernel_rfl) (λw c=>⟨d.bxW (mt (mt mh)) c,d.bxW mh c⟩) d (mt (mt (mt (mt mh)))) O O CQ.1 a2 O λc3 a3=>ZV 10 O O (by kernel_rfl) ?_;obtain⟨b9,a4,E⟩:=bd E;refine EM (r:=AB) (l:=V) (i:=A) (x:=b9) O O (⟨_,O,O,b7⟩:Rd _ _ AB _ s.1) a3 a4 L7.id FE.1 (λ_=>rfl) d (.tail (.tail (.tail (.tail .head)))) λc4 C c5=>M1 (λw c=>⟨C.bxW (mt (mt mh)) c,C.bxW mh c⟩) ?_;obtain⟨c6,a5,E⟩:=bd E;refine XE 11 (r:=AB) (xs:=U) O (by kernel_rfl) (λw c=>⟨C.bxW (mt (mt mh)) c,C.bxW mh c⟩) C (mt (mt (mt mh))) O O CQ.1 a5 O λc7 a6=>ZV 12 O O (by kernel_rfl) ?_;obtain⟨ca,a7,E⟩:=bd E;refine EM (r:=AB) (l:=U) (i:=A) (x:=ca) O O (⟨_,O,O,b8⟩:Rd _ _ AB _ s.2.1) a6 a7 L7.id FE.1 (λ_=>rfl) C (.tail (.tail (.tail .head))) λc8 D c9=>M1 (λw c=>⟨D.bxW (mt (mt mh)) c,D.bxW mh c⟩) ?_;obtain⟨da,a8,E⟩:=bd E;refine XE 13 (r:=AB) (xs:=Q) O (by kernel_rfl) (λw c=>⟨D.bxW (mt (mt mh)) c,D.bxW mh c⟩) D (mt mh) O O CQ.1 a8 O λdb a9=>ZV 14 O O (by kernel_rfl) ?_
   obtain⟨cb,ba,E⟩:=bd E;refine EM (r:=AB) (l:=Q) (i:=A) (x:=cb) O O (⟨_,O,O,cu⟩:Rd _ _ AB _ A) a9 ba L7.id FE.1 (λ_=>rfl) D (.tail .head) λdc W dd=>M1 (λw c=>⟨W.bxW (mt (mt mh)) c,W.bxW mh c⟩) (LG (by kernel_rfl) (kp [15,62,61,11,10,9,0,6,12,63] O) (AU ?_));refine BK (AU ?_);refine WF.nil (λt u m c=>?_);exact⟨(BO (Y-s.1)),(BO (A+1)),(upd Q A A),(upd U A s.2.1),(upd V A s.1),_,_,m.sub (kp [62,61,11,10,9,0,6,12,63] O),c,W,EX,(BT _),(BT _),E⟩
  refine BL O (λt u m c=>?_);exact⟨Y,Q,U,V,_,_,m.sub (kp [11,10,9,12] O),c,ae,aq,ct,E⟩
 rintro t u ⟨aj,az,a0,ak,de,df,m,c,bb,dg,er,E⟩;refine AL ?_ m c;clear m c u t;rw[F9] at E;refine AU ?_;refine DK (AI 3 (AU ?_));refine jZ O vF O (RH O O O (AU ?_));refine GH E O O O qH O (λcc bc=>Wj bb bc) λcc E dh di af dj p=>?_;obtain⟨rfl,be⟩:=p;refine AU ?_;obtain⟨ag,bf,dk,cd⟩:=be.pubs (.tail .head);refine AU ?_;refine AU ?_;obtain⟨ar,bg,E⟩:=bd E;refine AI 1 (jU O O cd CQ.1 bg O λce cf=>AU ?_);refine AS (λa w=>∃(ah:List Int),IV B ag af (112,[]) a w [(9,K)] (OS AB 3 K ah::L) λ_ _=>HZ N ah=some r) ?_ ?_
 ·refine A6 (λn5=>λa w=>∃(M:Int) (J:List Int),IV B ag af (112,[]) a w [(99,vI (↑ar.length:Int)),(98,ce),(9,K),(100,vI M)] (OS AB 3 K J::L) λ_ _=>AA M∧F6 N ar (HZ N) n5 M J=some r) N ?_ ?_ ?_
  ·intro t u m c;have bh:=bf.sel [3] 3 O;exact⟨0,ak,_,_,m.sub (kp [99,98,9,100] O),c,bh,(BF.refl ag af),(iq (n:=0) O),E⟩
  ·rintro t u ⟨_,_,_,_,_,_,_,_,_,E⟩;rw[F6] at E;cases E
  rintro n5 t u ⟨M,J,dl,dm,m,c,G,au,dn,E⟩;refine AL ?_ m c;clear m c u t;rw[F6] at E;refine AU ?_;refine AH O E (λcg E=>?_) (λcg E=>?_)
  ·refine AU ?_;refine A4 (AU ?_);have ch:=cf.mono' au;refine BH E O O ch CQ.1 O λav E dp dq=>AU ?_;obtain⟨dr,bi,E⟩:=bd E;refine BS G mh O O CQ.1 bi O λds bj=>?_;obtain⟨aw,bk,E⟩:=bd E;have ci:=G.epAt mh bk Fd.id bj;refine Ez Hi (λ_ x=>x) O ci FE.1 O λdt=>AU ?_;obtain⟨du,bl,E⟩:=bd E;refine BS G mh O O CQ.1 bl O λdv bm=>AU ?_;obtain⟨cj,bn,E⟩:=bd E;refine EM (r:=AB) (l:=J) (i:=av) (x:=cj) O O (⟨_,O,O,(BT _)⟩:Rd _ _ AB _ (BO (aw+1))) bm bn L7.id FE.1 (λ_=>rfl) G .head λdw bo dx=>AU ?_;refine BK (AU ?_);refine WF.nil (λt u m c=>?_);exact⟨(BO (M+1)),(upd J av (BO (aw+1))),_,_,m.sub (kp [99,98,9,100] O),c,bo,EX,(BT _),E⟩
  refine BL O (λt u m c=>?_);exact⟨J,_,_,m.sub (kp [9] O),c,G,au,E⟩
 rintro t u ⟨ah,dy,dz,m,c,bp,d0,E⟩;refine AL ?_ m c;clear m c u t;rw[HZ] at E;refine AU ?_;refine CI (λt u m c=>?_);cases E;exact Kv m O c (Io (Jk m (v:=_) O) (Io (Jk m (v:=_) O) Ku)) O EX ⟨_,O,bp⟩
end Go.Proofs.YtabonambpbofgaaGreat
