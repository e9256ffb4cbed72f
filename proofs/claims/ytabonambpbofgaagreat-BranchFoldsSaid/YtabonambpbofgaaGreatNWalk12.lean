import Derived.Test.YtabonambpbofgaaGreatNInst
import Derived.Test.YtabonambpbofgaaGreatNForms
import Derived.Test.YtabonambpbofgaaGreatNSort5
import Derived.Test.YtabonambpbofgaaGreatNSortD
import Derived.Test.YtabonambpbofgaaGreatNWalk1
import Derived.Test.YtabonambpbofgaaGreatNWalk3
import Derived.Test.YtabonambpbofgaaGreatNWalk6
import Derived.Test.YtabonambpbofgaaGreatNWalk9
namespace Go.Proofs.YtabonambpbofgaaGreat
set_option linter.all false
open Go.RowKit
open Go.Proofs.Tryz
set_option maxRecDepth 10000
set_option maxHeartbeats 20000000
variable {N:Nat}{S:Nat→Prop}{L:List HP}{h:AS}
def Ny (hs:St S L h) {m:Value}{d:(List Int)}(s:Sl S h AB m d) {b:Value}{c:(List Int)}(g:Sl S h AB b c) {r:(List Int)}(E:Iq N d c=some r):
 CL prog 221 #[m,b] S h (λv S' h'=>St S' (OS AB 3 v r::L) h'):=by
 refine CL.go 30 func221 O ntmps221 O λB=>?_;rw[Iq] at E;refine AU ?_;obtain⟨U,E⟩:=Lt E;refine Lf (r:=AB) (zx:=0) JU O ⟨O,by unfold AA;omega⟩ O O U O O hs λQ h4 V e6=>AU ?_;have k7:=s.mono' e6;refine Vi (r:=AB) (l:=(List.replicate ((↑d.length:Int):Int).toNat (0:Int))) (xs:=d) O O Ck.1 (Sl.src k7) O V .head λW X ae=>?_;have Y:=g.nw;refine AU ?_;refine AV (λa w=>∃(t:List Int),IV B S W (30,[]) a w [(5,Q)] (OS AB 3 Q t::L) λ_ _=>H9 N t=some r) ?_ ?_
 ·refine A9 (λn1=>λa w=>∃(k:Int) (o:List Int),IV B S W (30,[]) a w [(15,vI (↑c.length:Int)),(14,b),(5,Q),(16,vI k)] (OS AB 3 Q o::L) λ_ _=>AA k∧Gh N c (H9 N) n1 k o=some r) N ?_ ?_ ?_
  ·intro u y p q;exact⟨0,(Pr (List.replicate ((↑d.length:Int):Int).toNat (0:Int)) d),_,_,p.sub (kp [15,14,5,16] O),q,X,(CJ.refl S W),(iq (n:=0) O),E⟩
  ·rintro u y ⟨_,_,_,_,_,_,_,_,_,E⟩;rw[Gh] at E;cases E
  rintro n1 u y ⟨k,o,af,ag,p,q,j,z,ah,E⟩;refine AK ?_ p q;clear p q y u;rw[Gh] at E;refine AU ?_;refine AH O E (λZ E=>?_) (λZ E=>?_)
  ·refine AU ?_;refine A6 (AU ?_);have ab:=Y.mono' z;refine BK E O O ab Ck.1 O λA E ai aj=>AU ?_;obtain⟨ak,C,E⟩:=bd E;refine BY j mh O O Ck.1 C O λal D=>?_;obtain⟨F,G,E⟩:=bd E;have ac:=j.epAt mh G FZ.id D;refine Fs Hc (λ_ x=>x) O ac Fa.1 O λam=>AU ?_;obtain⟨an,H,E⟩:=bd E;refine BY j mh O O Ck.1 H O λao I=>AU ?_;obtain⟨ad,J,E⟩:=bd E;refine Ed (r:=AB) (l:=o) (i:=k) (x:=ad) O O (⟨_,O,O,(BV _)⟩:Rd _ _ AB _ (BT (F-A))) I J Mh.id Fa.1 (λ_=>rfl) j .head λap K aq=>AU ?_;refine BP (AU ?_);refine WF.nil (λu y p q=>?_);exact⟨(BT (k+1)),(upd o k (BT (F-A))),_,_,p.sub (kp [15,14,5,16] O),q,K,EX,(BV _),E⟩
  refine BM O (λu y p q=>?_);exact⟨o,_,_,p.sub (kp [5] O),q,j,z,E⟩
 rintro u y ⟨t,ar,au,p,q,M,av,E⟩;refine AK ?_ p q;clear p q y u;rw[H9] at E;refine AU ?_;cases E;exact GE M O O EX
def T1 (hs:St S L h) {d:Value}{c:(List Int)}(n:Sl S h AB d c) {b:Int}(g:AA b) {j:Int}(t:AA j) {r:(List Int)×(List Int)}(E:MY N c b j=some r):
 CL prog 191 #[d,vI b,vI j] S h (λv S' h'=>∃A C:Value,v= .tuple #[A,C]∧St S' (OS AB 3 A r.1::OS AB 3 C r.2::L) h'):=by
 refine CL.go 27 func191 O ntmps191 O λB=>?_;rw[MY] at E;refine AU ?_;obtain⟨W,E⟩:=Lt E;refine Lf (r:=AB) (zx:=0) JU O ⟨O,by unfold AA;omega⟩ O O W O O hs λv3 h4 D e6=>AU ?_;refine CX (.inl O) D (AU ?_);have k7:=n.mono' e6;refine DM E O O O gC O (λX Y h' o=>Qz (St.all h') (k7.mono' (o.all D.1)) g Y) λX E r9=>?_;have Z:=r9;refine Xn O O O (AU ?_);refine By (kp [8,6,0,1] O) λF q aj=>AU ?_;refine H6 (λa w=>∃(z:List Int),IV B S F (27,[]) a w [(6,v3),(0,d)] (OS AB 3 v3 z::L) λ_ _=>Jr N c z=some r) ?_ ?_
 ·refine AH O E (λab E=>?_) (λab E=>?_)
  ·refine AU ?_;obtain⟨ak,G,E⟩:=bd E;refine BY q mh O O Ck.1 G O λal H=>AU ?_;obtain⟨ac,I,E⟩:=bd E;refine Ed (r:=AB) (l:=(List.replicate ((↑c.length:Int):Int).toNat (0:Int))) (i:=b) (x:=ac) O O (⟨_,O,O,(N2 t Z)⟩:Rd _ _ AB _ (min j X)) H I Mh.id Fa.1 (λ_=>rfl) q .head λam J ad=>AU ?_;refine WF.nil (λU V s u=>?_);exact⟨(upd (List.replicate ((↑c.length:Int):Int).toNat (0:Int)) b (min j X)),_,_,s.sub (kp [6,0] O),u,J,ad,E⟩
  refine AU ?_;refine WF.nil (λU V s u=>?_);exact⟨(List.replicate ((↑c.length:Int):Int).toNat (0:Int)),_,_,s.sub (kp [6,0] O),u,q,(CJ.refl S F),E⟩
 rintro U V ⟨z,an,ao,s,u,m,ap,E⟩;refine AK ?_ s u;clear s u V U;rw[Jr] at E;refine AU ?_;refine DQ (AU ?_);have ae:=n.nw;refine DX E O O O fU O m (λaf K=>Ny (St.all _) (ae.mono m.ea.1 m.ea.2) (m.oslAll mh) K) λaf E aq ar au ai ag ah p=>?_;have M:=p;have y:=m.join ah M ⟨OS.flat (λ{_ _ _ _ _ _} k=>k),trivial⟩;simp only[Acu,Acs] at y;refine AU ?_;refine CO (λU V s u=>?_);have Q:=y.sel [1,0] 0 O;cases E;exact K6 s O u (Iy (J7 s (v:=_) O) (Iy (J7 s (v:=_) O) K5)) O ((e6.trans EX).trans ag) ⟨_,_,O,Q⟩
def Of (q:St S L h) {a:Value}{b:(List Int)}(c:Sl S h AB a b) {d:Value}{l:FL}(g:Pt S h DK d l) {r:(List Int)×(List Int)}(E:EI N l b=some r):
 CL prog 190 #[a,d] S h (λv S' h'=>∃m n:Value,v= .tuple #[m,n]∧St S' (OS AB 3 m r.1::OS AB 3 n r.2::L) h'):=by
 refine CL.go 13 func190 O ntmps190 O λB=>?_;rw[EI] at E;refine AU ?_;refine DQ ?_;have y:=g.fl QG;have z:=y.i;have A:=g.fl FL.f_Litres;have C:=A.i;refine AU ?_;refine DX E O O O sX O q (λD s=>T1 (St.all _) (c.mono q.ea.1 q.ea.2) z C s) λD E J K F x t u p=>?_;obtain⟨G,H,rfl,o⟩:=p;have j:=q.join u o ⟨OS.flat (λ{_ _ _ _ _ _} k=>k),⟨OS.flat (λ{_ _ _ _ _ _} k=>k),trivial⟩⟩;simp only[Acu,Acs] at j;refine AU ?_;refine CO (λM Q w I=>?_);cases E;exact K6 w O I (Iy (J7 w (v:=_) O) (Iy (J7 w (v:=_) O) K5)) O t ⟨_,_,O,j⟩
def Px {af:Nat}{p0_w:AM}{Q:Value}{V:Value}{W:Value}{Z:Value}{ab:Value}{ac:Value}{ad:Value}{ae:Value}{u:Value}{z:Value}{G:Value}{t:Value}{M:Value}{c:Value}{d:Value}{g:Value}{i:Value}{j:Value}{k:Value}{m:Value}{p:Value}{q:Value}(hs:St S (Bx af 112 [.string p0_w.b.F,Q,vI p0_w.b.K,V,W,Z,ab,ac,ad,ae,vI p0_w.b.L,u,z,G,t,M,vI p0_w.s.B,c,d,g,i,j,k,m,p,q]::OS (A5.sl AB) 29 c p0_w.s.H::OS AB 3 d p0_w.s.N::OS AY 103 g p0_w.s.I::OS BQ 107 i p0_w.s.P::OS AB 3 j p0_w.s.D::OS AB 3 k p0_w.s.O::OS CA 116 m p0_w.moves::OS AB 3 p p0_w.peaks::OS AY 103 q p0_w.sent::L) h) (a8:p0_w.b.F.size≤maxLen) (ap:Sl S h A5.str Q p0_w.b.J) (a9:AA p0_w.b.K) (ai:Sl S h B1 V p0_w.b.A) (ba:Sl S h CB W p0_w.b.C) (bb:Sl S h HN Z p0_w.b.Af) (bc:Sl S h Et ab p0_w.b.Ah) (be:Sl S h G5 ac p0_w.b.Ai) (bf:Sl S h DW ad p0_w.b.Ak) (bg:Sl S h AB ae p0_w.b.Aj) (ay:AA p0_w.b.L) (az:Sl S h AB u p0_w.in_.S) (a1:Sl S h Cv z p0_w.in_.X) (a2:Sl S h FY G p0_w.in_.Y) (an:Sl S h DK t p0_w.in_.U) (a3:Sl S h Dj M p0_w.in_.Ad) (a4:AA p0_w.s.B) {aj:Int}(b1:AA aj) {r:(List AC)}(E:JN N p0_w aj=some r):
 CL prog 122 #[vP af 0,vI aj] S h (λv S' h'=>St S' (OS A4 194 v r::Bx af 112 [.string p0_w.b.F,Q,vI p0_w.b.K,V,W,Z,ab,ac,ad,ae,vI p0_w.b.L,u,z,G,t,M,vI p0_w.s.B,c,d,g,i,j,k,m,p,q]::OS (A5.sl AB) 29 c p0_w.s.H::OS AB 3 d p0_w.s.N::OS AY 103 g p0_w.s.I::OS BQ 107 i p0_w.s.P::OS AB 3 j p0_w.s.D::OS AB 3 k p0_w.s.O::OS CA 116 m p0_w.moves::OS AB 3 p p0_w.peaks::OS AY 103 q p0_w.sent::L) h'):=by
 refine CL.go 85 func122 O ntmps122 O λB=>?_;rw[JN] at E;refine AU ?_;refine AV (λa w=>∃(v2:Value) (l3:List AC),IV B S h (85,[]) a w [(5,v2)] (OS A4 194 v2 l3::Bx af 112 [.string p0_w.b.F,Q,vI p0_w.b.K,V,W,Z,ab,ac,ad,ae,vI p0_w.b.L,u,z,G,t,M,vI p0_w.s.B,c,d,g,i,j,k,m,p,q]::OS (A5.sl AB) 29 c p0_w.s.H::OS AB 3 d p0_w.s.N::OS AY 103 g p0_w.s.I::OS BQ 107 i p0_w.s.P::OS AB 3 j p0_w.s.D::OS AB 3 k p0_w.s.O::OS CA 116 m p0_w.moves::OS AB 3 p p0_w.peaks::OS AY 103 q p0_w.sent::L) λ_ _=>D0 N l3=some r) ?_ ?_
 ·refine A9 (λn1=>λa w=>∃(v8:Value) (l9:List AC) (ao:Int),IV B S h (85,[]) a w [(13,vI (↑p0_w.in_.U.length:Int)),(12,t),(0,vP af 0),(1,vI aj),(5,v8),(14,vI ao)] (OS A4 194 v8 l9::Bx af 112 [.string p0_w.b.F,Q,vI p0_w.b.K,V,W,Z,ab,ac,ad,ae,vI p0_w.b.L,u,z,G,t,M,vI p0_w.s.B,c,d,g,i,j,k,m,p,q]::OS (A5.sl AB) 29 c p0_w.s.H::OS AB 3 d p0_w.s.N::OS AY 103 g p0_w.s.I::OS BQ 107 i p0_w.s.P::OS AB 3 j p0_w.s.D::OS AB 3 k p0_w.s.O::OS CA 116 m p0_w.moves::OS AB 3 p p0_w.peaks::OS AY 103 q p0_w.sent::L) λ_ _=>AA ao∧Cq N p0_w aj (D0 N) n1 l9 ao=some r) N ?_ ?_ ?_
  ·intro aa ww hf hw;have bh:=hs.nil A4 194;exact⟨(vN),([]:List AC),0,_,_,hf.sub (kp [13,12,0,1,5,14] O),hw,bh,(CJ.refl S h),(iq (n:=0) O),E⟩
  ·rintro aa ww ⟨_,_,_,_,_,_,_,_,_,_,E⟩;rw[Cq] at E;cases E
  rintro n1 aa ww ⟨v8,l9,ao,b2,b3,hf,hw,av,bi,c1,E⟩;refine AK ?_ hf hw;clear hf hw ww aa;rw[Cq] at E;refine AU ?_;refine AH O E (λb4 E=>?_) (λb4 E=>?_)
  ·refine AU ?_;refine AV (λa w=>∃(aq:Value) (ar:List AC),IV B b2 b3 (85,[]) a w [(13,vI (↑p0_w.in_.U.length:Int)),(12,t),(0,vP af 0),(1,vI aj),(14,vI ao),(5,aq)] (OS A4 194 aq ar::Bx af 112 [.string p0_w.b.F,Q,vI p0_w.b.K,V,W,Z,ab,ac,ad,ae,vI p0_w.b.L,u,z,G,t,M,vI p0_w.s.B,c,d,g,i,j,k,m,p,q]::OS (A5.sl AB) 29 c p0_w.s.H::OS AB 3 d p0_w.s.N::OS AY 103 g p0_w.s.I::OS BQ 107 i p0_w.s.P::OS AB 3 j p0_w.s.D::OS AB 3 k p0_w.s.O::OS CA 116 m p0_w.moves::OS AB 3 p p0_w.peaks::OS AY 103 q p0_w.sent::L) λ_ _=>G8 N ao (Cq N p0_w aj (D0 N) n1) ar=some r) ?_ ?_
   ·refine AU ?_;have b5:=an.mono' bi;refine BK E O O b5 cC.1 O λam E c2 b6=>?_;obtain⟨c3,_,b7⟩:=b6.lv;refine AU ?_;refine Dp pH O av λau c4 bj b8=>?_;have b9:=b7.mono b8;obtain⟨rfl,⟨ca,bk,cb,a5⟩⟩:=DK.ex b9;refine FK O O O O pX.1 O bj .head O λc5 bl c6=>AU ?_;refine CX (.inr ⟨mo,by kernel_rfl⟩) bl (AU ?_);obtain⟨cc,ak,E⟩:=bd E;refine AZ 11 33 (.bool cc) ?_ ?_
    ·cases bm:(decide (am.Ap≠aj))
     ·have ak:=HX bm ak;have cd:=ap.nw;have ce:=cd.le;refine AU ?_;refine BE ak O O O PJ O (λcf bn h' o=>H1 (St.all h') bk (Ls ce) bn) λcf ak=>AU ?_;cases ak;exact A0 O
     have ak:=HW bm ak;cases ak;exact BI O O
    refine AU ?_;refine By (kp [38,7,13,12,0,1,5,14] O) λc7 aw c8=>AH O E (λcg E=>?_) (λcg E=>?_)
    ·refine BM O (λaa ww hf hw=>?_);have bo:=aw.sel [1,1,1,1,1,1,1,1,1,1,1] 1 O;exact⟨v8,l9,_,_,hf.sub (kp [13,12,0,1,14,5] O),hw,bo,EX,E⟩
    refine AU ?_;refine CX (.inr ⟨mo,by kernel_rfl⟩) aw (AU ?_);obtain⟨ch,ag,E⟩:=bd E;refine AZ 33 75 (.bool ch) ?_ ?_
    ·cases bp:(decide (am.E≠(-1)))
     ·have ag:=HX bp ag;cases ag;exact BI O O
     have ag:=HW bp ag;have ci:=ai.nw;have cj:=ci.le;refine AU ?_;refine BE ag O O O PJ O (λbq br h' o=>H1 (St.all h') a5 (Ls cj) br) λbq ag=>AU ?_;obtain⟨ck,ah,ag⟩:=bd ag;refine AZ 21 74 (.bool ck) ?_ ?_
     ·cases bs:(!bq)
      ·have ah:=HX bs ah;refine AU ?_;have cl:=ai.nw;refine BK ah O O cl NZ.1 O λc9 ah da db=>AU ?_;have cm:=ai.nw;refine BK ah O O cm NZ.1 O λdc ah dd de=>AU ?_;cases ah;exact A0 O
      have ah:=HW bs ah;cases ah;exact BI O O
     refine AU ?_;cases ag;exact A0 O
    refine By (kp [75,7,13,12,0,1,5,14] O) λcn ax df=>AH O E (λco E=>?_) (λco E=>?_)
    ·refine BM O (λaa ww hf hw=>?_);have bt:=ax.sel [1,1,1,1,1,1,1,1,1,1,1] 1 O;exact⟨v8,l9,_,_,hf.sub (kp [13,12,0,1,14,5] O),hw,bt,EX,E⟩
    refine AU ?_;refine Rv O O O (HO (cs:=[vI am.E,vI 0,vI (-3),.func (.func 190) #[] #[vP au 0]]) Rb O O O (AU ?_));obtain⟨cp,bu,dg,cq⟩:=ax.pubb (r:=DK) (x:=am) .head ⟨O,⟨ca,bk,cb,a5⟩⟩;have bv:Rd cp cn (A5.fnr prog (λS h vs (x:(List Int))=>∃w0:Value,vs=[w0]∧Sl S h AB w0 x) (λS h v (y:((List Int)×(List Int)))=>∃w0 w1:Value,v= .tuple #[w0,w1]∧Sl S h AB w0 y.1∧Sl S h AB w1 y.2)) (.func (.func 190) #[] #[(vP au 0)]) (λx=>EI N am x):=Mf 190 #[(vP au 0)] sY λS' h' s' e' L hs x y vs h1 h2=>by obtain⟨w0,rfl,a0⟩:=h1;exact Pm (Of hs a0 (cq.mono'' s' e') h2)
    refine Ft (cs:=[vI am.E,vI 0,vI (-3),(.func (.func 190) #[] #[(vP au 0)])]) Nl O O O O O O O bu λdh di bw cr=>?_;obtain⟨bx,E⟩:=Lt E;have ct:=bv.mono cr;refine I3 (r:=A4) (l:=l9) (xs:=([(⟨am.E,0,(-3),(λx=>EI N am x)⟩:AC)]:List AC)) O O Nl O mh ⟨_,_,O,⟨_,O,a5,(iq (n:=0) O),(iq (n:=(-3)) O),ct⟩,O⟩ O O bx O bw (λ_=>(.tail .head)) λcu dj bz dk=>?_;have b0:=bz.drop .head;refine AU ?_;refine WF.nil (λaa ww hf hw=>?_);exact⟨cu,(l9++([(⟨am.E,0,(-3),(λx=>EI N am x)⟩:AC)]:List AC)),_,_,hf.sub (kp [13,12,0,1,14,5] O),hw,b0,EX,E⟩
   rintro aa ww ⟨aq,ar,cv,cw,hf,hw,a6,cx,E⟩;refine AK ?_ hf hw;clear hf hw ww aa;rw[G8] at E;refine AU ?_;refine WF.nil (λaa ww hf hw=>?_);exact⟨aq,ar,(BT (ao+1)),_,_,hf.sub (kp [13,12,0,1,5,14] O),hw,a6,EX,(BV _),E⟩
  refine BM O (λaa ww hf hw=>?_);exact⟨v8,l9,_,_,hf.sub (kp [5] O),hw,av,bi,E⟩
 rintro aa ww ⟨v2,l3,cy,cz,hf,hw,a7,c0,E⟩;refine AK ?_ hf hw;clear hf hw ww aa;rw[D0] at E;refine AU ?_;cases E;exact GE a7 O O EX
def Kl (l:St S L h) {g:Int}(i:AA g) {a:Int}(c:AA a) {b:Int}(d:AA b) {r:Int}(E:Ia N g a b=some r):
 CL prog 236 #[vI g,vI a,vI b] S h (λv S' h'=>v=vI r∧AA r∧St S' (L) h'):=by
 refine CL.go 21 func236 O ntmps236 O λB=>?_;rw[Ia] at E;refine AU ?_;refine CX (.inl O) l (AU ?_);obtain⟨j,k,E⟩:=bd E;refine KA (v:= .tuple #[vI j.1,vI j.2.1,.bool j.2.2]) (Ψ:=AA j.1∧AA j.2.1) O O O Td O (λh' o=>(J9 (St.all h') i c d k).mono λ_ _ _ _ p=>⟨p.1,⟨p.2.1,p.2.2.1⟩⟩) λm=>?_;obtain⟨s,t⟩:=m;refine AU ?_;refine By (kp [9,7] O) λu n w=>AU ?_;refine AH O E (λq E=>?_) (λq E=>?_)
 ·exact RT
 exact RT
def T6 (H:St S L h) {d:Value}{k:BC}(j:Rd S h CB d k) {a:Int}(b:AA a) {c:Int}(g:AA c) {r:Int}(E:MZ N k a c=some r):
 CL prog 238 #[d,vI a,vI c] S h (λv S' h'=>v=vI r∧AA r∧St S' (L) h'):=by
 refine CL.go 20 func238 O ntmps238 O λB=>?_;rw[MZ] at E;refine AU ?_;refine CZ O j CE O H λK S2 M q Q G=>AU ?_;refine AH O E (λs E=>?_) (λs E=>?_)
 ·exact RT
 refine AU ?_;refine CX (.inl O) q ?_;have t:=G.fl KB;have u:=t.i;have w:=G.fl KC;have x:=w.i;refine AU ?_;refine DM E O O O Tb O (λy l h' o=>Kl (St.all h') g u x l) λy E z=>?_;have A:=z;refine DM E O O O Te O (λC m h' o=>Kr (St.all h') b A m) λC E D=>?_;have F:=D;refine Rw O O O (AU ?_);refine By (kp [6] O) λI p J=>?_;cases E;exact GE ⟨O,(Rl (iq (n:=0) O) F),p⟩ O O EX
def VI (l:St S L h) {a:Value}{g:(List Bz)}(b:Sl S h CG a g) {c:Int}(d:AA c) {r:Int}(E:NL N g c=some r):
 CL prog 237 #[a,vI c] S h (λv S' h'=>v=vI r∧AA r∧St S' (L) h'):=by
 refine CL.go 17 func237 O ntmps237 O λB=>?_;rw[NL] at E;refine AU ?_;refine CX (.inl O) l (AU ?_);refine BE E O O O Qc O (λn j h' o=>IF (St.all h') (b.mono' (o.all l.1)) j) λn E=>AU ?_;refine By (kp [9,0,1] O) λz i p=>AH O E (λq E=>?_) (λq E=>?_)
 ·exact RT
 refine AU ?_;refine CX (.inl O) i (AU ?_);have s:=b.mono' p;refine DM E O O O Xe O (λt k h' o=>Ml (St.all h') (s.mono' (o.all i.1)) d k) λt E u=>?_;have w:=u;refine AU ?_;exact By (kp [5] O) λx m y=>RT
def T7 (hs:St S L h) {u:Value}{l:BC}(D:Rd S h CB u l) {d:Int}(p:AA d) {c:Bool}{q:Value}{z:(List Bz)}(F:Sl S h CG q z) {b:Int}(k:AA b) {m:Int}(A:AA m) {r:Int}(E:Ma N l d c z b m=some r):
 CL prog 222 #[u,vI d,.bool c,q,vI b,vI m] S h (λv S' h'=>v=vI r∧AA r∧St S' (L) h'):=by
 refine CL.go 63 func222 O ntmps222 O λB=>?_;rw[Ma] at E;refine AU ?_;refine CZ O D CE O hs λK S2 y x e5 k6=>AU ?_;refine AV (λa w=>IV B S2 y (63,[]) a w [] (L) λ_ _=>Jt N=some r) ?_ ?_
 ·refine AU ?_;refine AV (λa w=>IV B S2 y (63,[]) a w [(6,K),(4,vI b)] (L) λ_ _=>Js N l b=some r) ?_ ?_
  ·refine AU ?_;refine AV (λa w=>IV B S2 y (63,[]) a w [(6,K),(2,.bool c),(4,vI b)] (L) λ_ _=>Lb N c (Js N l b)=some r) ?_ ?_
   ·refine AU ?_;refine AV (λa w=>IV B S2 y (63,[]) a w [(6,K),(2,.bool c),(4,vI b)] (L) λ_ _=>La N l c b (Jt N)=some r) ?_ ?_
    ·refine AU ?_;refine AV (λa w=>IV B S2 y (63,[]) a w [(6,K),(1,vI d)] (L) λ_ _=>LZ N l d=some r) ?_ ?_
     ·refine AU ?_;refine AV (λa w=>IV B S2 y (63,[]) a w [(6,K),(1,vI d),(3,q),(4,vI b),(5,vI m)] (L) λ_ _=>LY N l d z b m=some r) ?_ ?_
      ·refine AU ?_;refine AH O E (λal E=>?_) (λal E=>?_)
       ·refine BM O (λs t g j=>?_);exact⟨_,_,g.sub (kp [6,1,3,4,5] O),j,x,(CJ.refl S2 y),E⟩
       refine AU ?_;refine AH O E (λam E=>?_) (λam E=>?_)
       ·refine BM O (λs t g j=>?_);exact⟨_,_,g.sub (kp [6,1] O),j,x,(CJ.refl S2 y),E⟩
       refine AU ?_;refine AH O E (λan E=>?_) (λan E=>?_)
       ·refine BM O (λs t g j=>?_);exact⟨_,_,g.sub (kp [6,2,4] O),j,x,(CJ.refl S2 y),E⟩
       refine AU ?_;refine AH O E (λao E=>?_) (λao E=>?_)
       ·refine BM O (λs t g j=>?_);exact⟨_,_,g.sub (kp [6,2,4] O),j,x,(CJ.refl S2 y),E⟩
       refine AU ?_;refine AH O E (λap E=>?_) (λap E=>?_)
       ·refine BM O (λs t g j=>?_);exact⟨_,_,g.sub (kp [6,4] O),j,x,(CJ.refl S2 y),E⟩
       refine AU ?_;refine BM O (λs t g j=>?_);exact⟨_,_,g.sub R5,j,x,(CJ.refl S2 y),E⟩
      rintro s t ⟨ca,cb,g,j,C,aq,E⟩;refine AK ?_ g j;clear g j t s;rw[LY] at E;refine AU ?_;refine CX (.inr ⟨mo,by kernel_rfl⟩) C ?_;have H:=k6.mono aq;obtain⟨cc,_,ar⟩:=H.lv;refine AU ?_;refine DM E O O O sM O (λau M h' o=>T6 (St.all h') (ar.mono (o.all C.1)) k A M) λau E av=>?_;have aw:=av;have ax:=F.nw;refine DM E O O O sN O (λay Q h' o=>VI (St.all h') (ax.mono' (o.all C.1)) aw Q) λay E az=>?_;have a0:=az;have a1:=H.fl Gk;have a2:=a1.i;refine AU ?_;refine DM E O O O Tb O (λa3 U h' o=>Kl (St.all h') a0 p a2 U) λa3 E a4=>?_;have a5:=a4;have a6:=H.fl OV;have a7:=a6.i;refine AU ?_;refine DM E O O O Wq O (λa8 V h' o=>Ks (St.all h') a5 a7 V) λa8 E a9=>?_;have cd:=a9;refine AU ?_;exact By (kp [12] O) λce b1 cf=>RT
     rintro s t ⟨cg,ch,g,j,W,ba,E⟩;refine AK ?_ g j;clear g j t s;rw[LZ] at E;refine AU ?_;refine CX (.inl O) W ?_;have X:=k6.mono ba;have bb:=X.fl BC.f_Num;have bc:=bb.i;have be:=X.fl Gk;have bf:=be.i;refine AU ?_;refine DM E O O O Tb O (λbg Y h' o=>Kl (St.all h') bc p bf Y) λbg E bh=>?_;have ci:=bh;refine AU ?_;exact By (kp [12] O) λcj b2 ck=>RT
    rintro s t ⟨cl,cm,g,j,G,Z,E⟩;refine AK ?_ g j;clear g j t s;rw[La] at E;refine AU ?_;refine AH O E (λbi E=>?_) (λbi E=>?_)
    ·refine AU ?_;refine CX (.inl O) G ?_;have ab:=k6.mono Z;have bj:=ab.fl BC.f_Num;have bk:=bj.i;have bl:=ab.fl BC.f_Den;have bm:=bl.i;refine AU ?_;refine DM E O O O Tb O (λbn ac h' o=>Kl (St.all h') k bk bm ac) λbn E bo=>?_;have cn:=bo;refine AU ?_;exact By (kp [12] O) λco b3 cp=>RT
    refine AU ?_;refine BM O (λs t g j=>?_);exact⟨_,_,g.sub R5,j,G,Z,E⟩
   rintro s t ⟨cq,cr,g,j,ad,bp,E⟩;refine AK ?_ g j;clear g j t s;rw[Lb] at E;refine AU ?_;refine AH O E (λbq E=>?_) (λbq E=>?_)
   ·exact RT
   refine AU ?_;refine WF.nil (λs t g j=>?_);exact⟨_,_,g.sub (kp [6,4] O),j,ad,bp,E⟩
  rintro s t ⟨cs,ct,g,j,ae,br,E⟩;refine AK ?_ g j;clear g j t s;rw[Js] at E;refine AU ?_;refine CX (.inr ⟨mo,by kernel_rfl⟩) ae ?_;have I:=k6.mono br;have bs:=I.fl Np;have bt:=bs.i;refine AU ?_;refine DM E O O O Te O (λbu af h' o=>Kr (St.all h') k bt af) λbu E bv=>?_;have bw:=bv;refine Rw O O O ?_;have bx:=I.fl BC.f_Num;have ag:=bx.i;have ah:=I.fl BC.f_Den;have ai:=ah.i;refine AU ?_;refine DM E O O O Tb O (λaj J h' o=>Kl (St.all h') (Rl (iq (n:=0) O) bw) ag ai J) λaj E ak=>?_;have b4:=ak;refine AU ?_;exact By (kp [12] O) λb5 bz b6=>RT
 rintro s t ⟨b7,b8,g,j,b0,b9,E⟩;refine AK ?_ g j;clear g j t s;rw[Jt] at E;exact RT
def VD (H:St S L h) {d:Value}{n:BC}(l:Rd S h CB d n) {g:Value}{p:A3}(m:Rd S h BQ g p) {a:Int}(b:AA a) {c:Int}(j:AA c) {r:Int}(E:NK N n p a c=some r):
 CL prog 192 #[d,g,vI a,vI c] S h (λv S' h'=>v=vI r∧AA r∧St S' (L) h'):=by
 refine CL.go 19 func192 O ntmps192 O λB=>?_;rw[NK] at E;refine AU ?_;refine CZ O l CE O H λY S2 Z t I J=>?_;have K:=m.mono I;refine CZ O K CE O t λq8 S9 M k u w=>AU ?_;refine CX (.inl O) k ?_;have q:=J.mono u;obtain⟨Q,_,x⟩:=q.lv;have y:=w.fl SF;have z:=y.i;have A:=q.fl Kg;obtain⟨U,_,C⟩:=A.ll;refine AU ?_;refine DM E O O O sS O (λD s h' o=>T7 (St.all h') (x.mono (o.all k.1)) z (C.mono' (o.all k.1)) b j s) λD E F=>?_;have V:=F;refine AU ?_;exact By (kp [8] O) λW G X=>RT
def KP (g:St S L h) {a:Int}(b:AA a) {r:Int}(E:Hy N a=some r):
 CL prog 126 #[vI a] S h (λv S' h'=>∃c:Value,v= .func (.func 196) #[] #[c]∧Pt S' h' AB c r∧St S' (L) h'):=by
 refine CL.go 4 func126 O ntmps126 O λB=>?_;rw[Hy] at E;refine AU ?_;refine CZ O (⟨_,O,O,b⟩:Rd _ _ AB _ a) (λ_=>rfl) O g λj S2 k d l i=>AU ?_;refine Rv O O O (AU ?_);cases E;exact GE ⟨_,O,i,d⟩ O O EX
def SV (hs:St S L h) {g:Int}(F:AA g) {j:Value}{b:(List Int)}(k:Sl S h AB j b) {r:(List Int)×Bool}(E:Kp N g b=some r):
 CL prog 226 #[vI g,j] S h (λv S' h'=>∃bq:Value,v= .tuple #[bq,.bool r.2]∧St S' (OS AB 3 bq r.1::L) h'):=by
 refine CL.go 112 func226 O ntmps226 O λB=>?_;rw[Kp] at E;refine AU ?_;refine AH O E (λc2 E=>?_) (λc2 E=>?_)
 ·refine AU ?_;refine CO (λt u m c=>?_);have ck:=hs.nil AB 3;cases E;exact K6 m O c (Iy (J7 m (v:=_) O) (Iy (J7 m (v:=_) O) K5)) O (CJ.refl S h) ⟨_,O,ck⟩
 refine AU ?_;refine AV (λa w=>∃(i5:Int),IV B S h (112,[]) a w [(0,vI g),(1,j),(6,vI i5)] (L) λ_ _=>AA i5∧GT N g b i5=some r) ?_ ?_
 ·refine A9 (λn1=>λa w=>∃(X:Int) (Z:Int),IV B S h (112,[]) a w [(24,vI (↑b.length:Int)),(23,j),(0,vI g),(1,j),(6,vI X),(25,vI Z)] (L) λ_ _=>AA X∧AA Z∧GR N b (GT N g b) n1 X Z=some r) N ?_ ?_ ?_
  ·intro t u m c;exact⟨0,0,_,_,m.sub (kp [24,23,0,1,6,25] O),c,hs,(CJ.refl S h),(iq (n:=0) O),(iq (n:=0) O),E⟩
  ·rintro t u ⟨_,_,_,_,_,_,_,_,_,_,E⟩;rw[GR] at E;cases E
  rintro n1 t u ⟨X,Z,d1,d2,m,c,ab,ai,cl,d3,E⟩;refine AK ?_ m c;clear m c u t;rw[GR] at E;refine AU ?_;refine AH O E (λcm E=>?_) (λcm E=>?_)
  ·refine AU ?_;refine A6 (AU ?_);have cn:=k.mono' ai;refine BK E O O cn Ck.1 O λco E d4 d5=>AU ?_;refine AH O E (λcp E=>?_) (λcp E=>?_)
   ·refine AU ?_;refine CO (λt u m c=>?_);have br:=ab.nil AB 3;cases E;exact K6 m O c (Iy (J7 m (v:=_) O) (Iy (J7 m (v:=_) O) K5)) O ai ⟨_,O,br⟩
   refine AU ?_;refine BP (AU ?_);refine WF.nil (λt u m c=>?_);exact⟨(BT (X+co)),(BT (Z+1)),_,_,m.sub (kp [24,23,0,1,6,25] O),c,ab,ai,(BV _),(BV _),E⟩
  refine BM O (λt u m c=>?_);exact⟨X,_,_,m.sub (kp [0,1,6] O),c,ab,ai,cl,E⟩
 rintro t u ⟨i5,ax,d6,m,c,am,bs,r6,E⟩;refine AK ?_ m c;clear m c u t;rw[GT] at E;refine AU ?_;refine AH O E (λcq E=>?_) (λcq E=>?_)
 ·refine AU ?_;refine CO (λt u m c=>?_);have bt:=am.nil AB 3;cases E;exact K6 m O c (Iy (J7 m (v:=_) O) (Iy (J7 m (v:=_) O) K5)) O bs ⟨_,O,bt⟩
 have d7:=k.mono' bs;refine AU ?_;obtain⟨bu,E⟩:=Lt E;refine Lf (r:=AB) (zx:=0) JU O ⟨O,by unfold AA;omega⟩ O O bu O O am λK d8 an d9=>AU ?_;refine AH O E (λcr E=>?_) (λcr E=>?_)
 ·refine AU ?_;refine CO (λt u m c=>?_);cases E;exact K6 m O c (Iy (J7 m (v:=_) O) (Iy (J7 m (v:=_) O) K5)) O EX ⟨_,O,an⟩
 have ea:=k.nw;refine AU ?_;obtain⟨bv,E⟩:=Lt E;refine Lf (r:=AB) (zx:=0) JU O ⟨O,by unfold AA;omega⟩ O O bv O O an λeb ec bw ed=>Dp mU O bw λac ee ao ef=>?_;obtain⟨H,y,rfl,eg⟩:=ao.oslen (mt mh);refine FK O O O O GH.1 O ao .head O λeh bx ei=>?_;have ej:=k.nw;refine AU ?_;obtain⟨bz,E⟩:=Lt E;refine Lf (r:=AB) (zx:=0) JU O ⟨O,by unfold AA;omega⟩ O O bz O O bx λek el b0 em=>Dp mU O b0 λad en ap eo=>?_;obtain⟨I,z,rfl,ep⟩:=ap.oslen (mt mh);refine FK O O O O GH.1 O ap .head O λay b1 eq=>?_;have cs:=k.nw;refine AU ?_;refine AV (λa w=>∃(aj:Int) (az:List Int) (a0:List Int) (ak:List Int),IV B ax ay (112,[]) a w [(11,vP ad 0),(10,vP ac 0),(9,K),(12,vI aj)] (Bx ad 29 [(.slice I (List.replicate ((↑b.length:Int):Int).toNat (0:Int)).length z)]::OS AB 3 (.slice I (List.replicate ((↑b.length:Int):Int).toNat (0:Int)).length z) az::Bx ac 29 [(.slice H (List.replicate ((↑b.length:Int):Int).toNat (0:Int)).length y)]::OS AB 3 (.slice H (List.replicate ((↑b.length:Int):Int).toNat (0:Int)).length y) a0::OS AB 3 K ak::L) λ_ _=>AA aj∧GS N aj az a0 ak=some r) ?_ ?_
 ·refine A9 (λn3=>λa w=>∃(Y:Int) (A:Int) (Q:List Int) (U:List Int) (V:List Int),IV B ax ay (112,[]) a w [(62,vI (↑b.length:Int)),(61,j),(11,vP ad 0),(10,vP ac 0),(9,K),(0,vI g),(6,vI i5),(12,vI Y),(63,vI A)] (Bx ad 29 [(.slice I (List.replicate ((↑b.length:Int):Int).toNat (0:Int)).length z)]::OS AB 3 (.slice I (List.replicate ((↑b.length:Int):Int).toNat (0:Int)).length z) Q::Bx ac 29 [(.slice H (List.replicate ((↑b.length:Int):Int).toNat (0:Int)).length y)]::OS AB 3 (.slice H (List.replicate ((↑b.length:Int):Int).toNat (0:Int)).length y) U::OS AB 3 K V::L) λ_ _=>AA Y∧AA A∧GQ N g b i5 (GS N) n3 Y A Q U V=some r) N ?_ ?_ ?_
  ·intro t u m c;exact⟨g,0,(List.replicate ((↑b.length:Int):Int).toNat (0:Int)),(List.replicate ((↑b.length:Int):Int).toNat (0:Int)),(List.replicate ((↑b.length:Int):Int).toNat (0:Int)),_,_,m.sub (kp [62,61,11,10,9,0,6,12,63] O),c,b1,(CJ.refl ax ay),F,(iq (n:=0) O),E⟩
  ·rintro t u ⟨_,_,_,_,_,_,_,_,_,_,_,_,_,E⟩;rw[GQ] at E;cases E
  rintro n3 t u ⟨Y,A,Q,U,V,cv,cw,m,c,ae,aq,ct,cu,E⟩;refine AK ?_ m c;clear m c u t;rw[GQ] at E;refine AU ?_;refine AH O E (λb2 E=>?_) (λb2 E=>?_)
  ·refine AU ?_;refine A6 (AU ?_);have b3:=cs.mono' aq;refine BK E O O b3 Ck.1 O λcx E cy b4=>?_;have b5:=b4.i;refine AU ?_;refine CX (.inl O) ae (AU ?_);obtain⟨s,a1,E⟩:=bd E;refine KA (v:= .tuple #[vI s.1,vI s.2.1,.bool s.2.2]) (Ψ:=AA s.1∧AA s.2.1) O O O Td O (λh' o=>(J9 (St.all h') F b5 r6 a1).mono λ_ _ _ _ p=>⟨p.1,⟨p.2.1,p.2.2.1⟩⟩) λb6=>?_;obtain⟨b7,b8⟩:=b6;refine AU ?_;refine By (kp [16,15,13,62,61,11,10,9,0,6,12,63] O) λcz d c0=>AU ?_;refine Ti (λw=>w.heap[ac]? =some (.cells ([(.slice H (List.replicate ((↑b.length:Int):Int).toNat (0:Int)).length y)]:List Value).toArray 29 (0,0))∧w.heap[ad]? =some (.cells ([(.slice I (List.replicate ((↑b.length:Int):Int).toNat (0:Int)).length z)]:List Value).toArray 29 (0,0))) mo (QE 0 O (by kernel_rfl) (λw c=>⟨d.bxW (mt (mt mh)) c,d.bxW mh c⟩) O O (QE 1 O (by kernel_rfl) (λw c=>⟨d.bxW (mt (mt mh)) c,d.bxW mh c⟩) O O (Pd 2 (vs:=[(.slice H (List.replicate ((↑b.length:Int):Int).toNat (0:Int)).length y)]) O (by kernel_rfl) (λw c=>⟨d.bxW (mt (mt mh)) c,d.bxW mh c⟩) O (λw c=>c.1) O O GH.1 O O (QE 3 O (by kernel_rfl) (λw c=>⟨d.bxW (mt (mt mh)) c,d.bxW mh c⟩) O O (Pd 4 (vs:=[(.slice I (List.replicate ((↑b.length:Int):Int).toNat (0:Int)).length z)]) O (by kernel_rfl) (λw c=>⟨d.bxW (mt (mt mh)) c,d.bxW mh c⟩) O (λw c=>c.2) O O GH.1 O O (QE 5 O (by kernel_rfl) (λw c=>⟨d.bxW (mt (mt mh)) c,d.bxW mh c⟩) O O (QE 6 O (by kernel_rfl) (λw c=>⟨d.bxW (mt (mt mh)) c,d.bxW mh c⟩) O O (QE 7 O (by kernel_rfl) (λw c=>⟨d.bxW (mt (mt mh)) c,d.bxW mh c⟩) O O (QE 8 O (by kernel_rfl) (λw c=>⟨d.bxW (mt (mt mh)) c,d.bxW mh c⟩) O O ?_)))))))));obtain⟨c1,a2,E⟩:=bd E;refine Vk 9 (r:=AB) (xs:=V) O (by kernel_rfl) (λw c=>⟨d.bxW (mt (mt mh)) c,d.bxW mh c⟩) d (mt (mt (mt (mt mh)))) O O Ck.1 a2 O λc3 a3=>Z5 10 O O (by kernel_rfl) ?_;obtain⟨b9,a4,E⟩:=bd E;refine Ed (r:=AB) (l:=V) (i:=A) (x:=b9) O O (⟨_,O,O,b7⟩:Rd _ _ AB _ s.1) a3 a4 Mh.id Fa.1 (λ_=>rfl) d (.tail (.tail (.tail (.tail .head)))) λc4 C c5=>EJ (λw c=>⟨C.bxW (mt (mt mh)) c,C.bxW mh c⟩) ?_;obtain⟨c6,a5,E⟩:=bd E;refine Vk 11 (r:=AB) (xs:=U) O (by kernel_rfl) (λw c=>⟨C.bxW (mt (mt mh)) c,C.bxW mh c⟩) C (mt (mt (mt mh))) O O Ck.1 a5 O λc7 a6=>Z5 12 O O (by kernel_rfl) ?_;obtain⟨ca,a7,E⟩:=bd E;refine Ed (r:=AB) (l:=U) (i:=A) (x:=ca) O O (⟨_,O,O,b8⟩:Rd _ _ AB _ s.2.1) a6 a7 Mh.id Fa.1 (λ_=>rfl) C (.tail (.tail (.tail .head))) λc8 D c9=>EJ (λw c=>⟨D.bxW (mt (mt mh)) c,D.bxW mh c⟩) ?_;obtain⟨da,a8,E⟩:=bd E;refine Vk 13 (r:=AB) (xs:=Q) O (by kernel_rfl) (λw c=>⟨D.bxW (mt (mt mh)) c,D.bxW mh c⟩) D (mt mh) O O Ck.1 a8 O λdb a9=>Z5 14 O O (by kernel_rfl) ?_
   obtain⟨cb,ba,E⟩:=bd E;refine Ed (r:=AB) (l:=Q) (i:=A) (x:=cb) O O (⟨_,O,O,cu⟩:Rd _ _ AB _ A) a9 ba Mh.id Fa.1 (λ_=>rfl) D (.tail .head) λdc W dd=>EJ (λw c=>⟨W.bxW (mt (mt mh)) c,W.bxW mh c⟩) (KJ (by kernel_rfl) (kp [15,62,61,11,10,9,0,6,12,63] O) (AU ?_));refine BP (AU ?_);refine WF.nil (λt u m c=>?_);exact⟨(BT (Y-s.1)),(BT (A+1)),(upd Q A A),(upd U A s.2.1),(upd V A s.1),_,_,m.sub (kp [62,61,11,10,9,0,6,12,63] O),c,W,EX,(BV _),(BV _),E⟩
  refine BM O (λt u m c=>?_);exact⟨Y,Q,U,V,_,_,m.sub (kp [11,10,9,12] O),c,ae,aq,ct,E⟩
 rintro t u ⟨aj,az,a0,ak,de,df,m,c,bb,dg,er,E⟩;refine AK ?_ m c;clear m c u t;rw[GS] at E;refine AU ?_;refine DQ (AJ 3 (AU ?_));refine lY O xP O (Rv O O O (AU ?_));refine Ga E O O O sL O (λcc bc=>XK bb bc) λcc E dh di af dj p=>?_;obtain⟨rfl,be⟩:=p;refine AU ?_;obtain⟨ag,bf,dk,cd⟩:=be.pubs (.tail .head);refine AU ?_;refine AU ?_;obtain⟨ar,bg,E⟩:=bd E;refine AJ 1 (lT O O cd Ck.1 bg O λce cf=>AU ?_);refine AV (λa w=>∃(ah:List Int),IV B ag af (112,[]) a w [(9,K)] (OS AB 3 K ah::L) λ_ _=>Hs N ah=some r) ?_ ?_
 ·refine A9 (λn5=>λa w=>∃(M:Int) (J:List Int),IV B ag af (112,[]) a w [(99,vI (↑ar.length:Int)),(98,ce),(9,K),(100,vI M)] (OS AB 3 K J::L) λ_ _=>AA M∧GP N ar (Hs N) n5 M J=some r) N ?_ ?_ ?_
  ·intro t u m c;have bh:=bf.sel [3] 3 O;exact⟨0,ak,_,_,m.sub (kp [99,98,9,100] O),c,bh,(CJ.refl ag af),(iq (n:=0) O),E⟩
  ·rintro t u ⟨_,_,_,_,_,_,_,_,_,E⟩;rw[GP] at E;cases E
  rintro n5 t u ⟨M,J,dl,dm,m,c,G,au,dn,E⟩;refine AK ?_ m c;clear m c u t;rw[GP] at E;refine AU ?_;refine AH O E (λcg E=>?_) (λcg E=>?_)
  ·refine AU ?_;refine A6 (AU ?_);have ch:=cf.mono' au;refine BK E O O ch Ck.1 O λav E dp dq=>AU ?_;obtain⟨dr,bi,E⟩:=bd E;refine BY G mh O O Ck.1 bi O λds bj=>?_;obtain⟨aw,bk,E⟩:=bd E;have ci:=G.epAt mh bk FZ.id bj;refine Fs Hc (λ_ x=>x) O ci Fa.1 O λdt=>AU ?_;obtain⟨du,bl,E⟩:=bd E;refine BY G mh O O Ck.1 bl O λdv bm=>AU ?_;obtain⟨cj,bn,E⟩:=bd E;refine Ed (r:=AB) (l:=J) (i:=av) (x:=cj) O O (⟨_,O,O,(BV _)⟩:Rd _ _ AB _ (BT (aw+1))) bm bn Mh.id Fa.1 (λ_=>rfl) G .head λdw bo dx=>AU ?_;refine BP (AU ?_);refine WF.nil (λt u m c=>?_);exact⟨(BT (M+1)),(upd J av (BT (aw+1))),_,_,m.sub (kp [99,98,9,100] O),c,bo,EX,(BV _),E⟩
  refine BM O (λt u m c=>?_);exact⟨J,_,_,m.sub (kp [9] O),c,G,au,E⟩
 rintro t u ⟨ah,dy,dz,m,c,bp,d0,E⟩;refine AK ?_ m c;clear m c u t;rw[Hs] at E;refine AU ?_;refine CO (λt u m c=>?_);cases E;exact K6 m O c (Iy (J7 m (v:=_) O) (Iy (J7 m (v:=_) O) K5)) O EX ⟨_,O,bp⟩
end Go.Proofs.YtabonambpbofgaaGreat
