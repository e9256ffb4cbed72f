import Derived.Test.YtedgiljmffngoaaGreatGInst
import Derived.Test.YtedgiljmffngoaaGreatGForms
import Derived.Test.YtedgiljmffngoaaGreatGWalk1
namespace Go.Proofs.YtedgiljmffngoaaGreat
set_option linter.all false
open Go.RowKit
open Go.Proofs.Tryz
set_option maxRecDepth 10000
set_option maxHeartbeats 2000000
variable {N:Nat}{S:Nat→Prop}{L:List HP}{h:AW}
def NB (hs:St S L h) {m:Value}{d:(List Int)}(s:Sl S h AB m d) {b:Value}{c:(List Int)}(g:Sl S h AB b c) {r:(List Int)}(E:Hx N d c=some r):
 B0 prog 268 #[m,b] S h (λv S' h'=>St S' (OS AB 3 v r::L) h'):=by
 refine BA 30 func268 O ntmps268 O λB=>?_;rw[Hx] at E;refine AU ?_;obtain⟨U,E⟩:=LA E;refine Jt (r:=AB) (zx:=0) IU O ⟨O,by unfold AA;omega⟩ O O U O O hs λQ h4 V e6=>AU ?_;have k7:=s.mono' e6;refine UQ (r:=AB) (l:=(List.replicate ((↑d.length:Int):Int).toNat (0:Int))) (xs:=d) O O sl_29.1 (Sl.src k7) O V .head λW X ae=>?_;have Y:=g.nw;refine AU ?_;refine AO (λa w=>∃(t:List Int),IV B S W (30,[]) a w [(5,Q)] (OS AB 3 Q t::L) λ_ _=>HM N t=some r) ?_ ?_
 ·refine A4 (λn1=>λa w=>∃(k:Int) (o:List Int),IV B S W (30,[]) a w [(15,vI (↑c.length:Int)),(14,b),(5,Q),(16,vI k)] (OS AB 3 Q o::L) λ_ _=>AA k∧FZ N c (HM N) n1 k o=some r) N ?_ ?_ ?_
  ·intro u y p q;exact⟨0,(O2 (List.replicate ((↑d.length:Int):Int).toNat (0:Int)) d),_,_,p.sub (kp [15,14,5,16] O),q,X,(CB.refl S W),(iq (n:=0) O),E⟩
  ·rintro u y ⟨_,_,_,_,_,_,_,_,_,E⟩;rw[FZ] at E;cases E
  rintro n1 u y ⟨k,o,af,ag,p,q,j,z,ah,E⟩;refine AJ ?_ p q;clear p q y u;rw[FZ] at E;refine AU ?_;refine AH O E (λZ E=>?_) (λZ E=>?_)
  ·refine AU ?_;refine A5 (AU ?_);have ab:=Y.mono' z;refine AZ E O O ab sl_29.1 O λA E ai aj=>AU ?_;obtain⟨ak,C,E⟩:=bd E;refine BR j mh O O sl_29.1 C O λal D=>?_;obtain⟨F,G,E⟩:=bd E;have ac:=j.epAt mh G FW.id D;refine F8 K9 (λ_ x=>x) O ac ty_3.1 O λam=>AU ?_;obtain⟨an,H,E⟩:=bd E;refine BR j mh O O sl_29.1 H O λao I=>AU ?_;obtain⟨ad,J,E⟩:=bd E;refine FM (r:=AB) (l:=o) (i:=k) (x:=ad) O O (⟨_,O,O,(BI _)⟩:Rd _ _ AB _ (BD (F-A))) I J NM.id ty_3.1 (λ_=>rfl) j .head λap K aq=>AU ?_;refine BE (AU ?_);refine WF.nil (λu y p q=>?_);exact⟨(BD (k+1)),(upd o k (BD (F-A))),_,_,p.sub (kp [15,14,5,16] O),q,K,EX,(BI _),E⟩
  refine BC O (λu y p q=>?_);exact⟨o,_,_,p.sub (kp [5] O),q,j,z,E⟩
 rintro u y ⟨t,ar,au,p,q,M,av,E⟩;refine AJ ?_ p q;clear p q y u;rw[HM] at E;refine AU ?_;cases E;exact KU M O O EX
def Sk (hs:St S L h) {d:Value}{c:(List Int)}(n:Sl S h AB d c) {b:Int}(g:AA b) {j:Int}(t:AA j) {r:(List Int)×(List Int)}(E:Le N c b j=some r):
 B0 prog 216 #[d,vI b,vI j] S h (λv S' h'=>∃A C:Value,v= .tuple #[A,C]∧St S' (OS AB 3 A r.1::OS AB 3 C r.2::L) h'):=by
 refine BA 27 func216 O ntmps216 O λB=>?_;rw[Le] at E;refine AU ?_;obtain⟨W,E⟩:=LA E;refine Jt (r:=AB) (zx:=0) IU O ⟨O,by unfold AA;omega⟩ O O W O O hs λv3 h4 D e6=>AU ?_;refine BX (.inl O) D (AU ?_);have k7:=n.mono' e6;refine CA E O O O aB O (λX Y h' o=>P6 (St.all h') (k7.mono' (o.all D.1)) g Y) λX E r9=>?_;have Z:=r9;refine WD O O O (AU ?_);refine BK (kp [8,6,0,1] O) λF q aj=>AU ?_;refine Gq (λa w=>∃(z:List Int),IV B S F (27,[]) a w [(6,v3),(0,d)] (OS AB 3 v3 z::L) λ_ _=>It N c z=some r) ?_ ?_
 ·refine AH O E (λab E=>?_) (λab E=>?_)
  ·refine AU ?_;obtain⟨ak,G,E⟩:=bd E;refine BR q mh O O sl_29.1 G O λal H=>AU ?_;obtain⟨ac,I,E⟩:=bd E;refine FM (r:=AB) (l:=(List.replicate ((↑c.length:Int):Int).toNat (0:Int))) (i:=b) (x:=ac) O O (⟨_,O,O,(NF t Z)⟩:Rd _ _ AB _ (min j X)) H I NM.id ty_3.1 (λ_=>rfl) q .head λam J ad=>AU ?_;refine WF.nil (λU V s u=>?_);exact⟨(upd (List.replicate ((↑c.length:Int):Int).toNat (0:Int)) b (min j X)),_,_,s.sub (kp [6,0] O),u,J,ad,E⟩
  refine AU ?_;refine WF.nil (λU V s u=>?_);exact⟨(List.replicate ((↑c.length:Int):Int).toNat (0:Int)),_,_,s.sub (kp [6,0] O),u,q,(CB.refl S F),E⟩
 rintro U V ⟨z,an,ao,s,u,m,ap,E⟩;refine AJ ?_ s u;clear s u V U;rw[It] at E;refine AU ?_;refine Bw (AU ?_);have ae:=n.nw;refine Cc E O O O Z2 O m (λaf K=>NB (St.all _) (ae.mono m.ea.1 m.ea.2) (m.oslAll mh) K) λaf E aq ar au ai ag ah p=>?_;have M:=p;have y:=m.join ah M ⟨OS.flat (λ{_ _ _ _ _ _} k=>k),trivial⟩;simp only[uV,uK] at y;refine AU ?_;refine Bu (λU V s u=>?_);have Q:=y.sel [1,0] 0 O;cases E;exact JC s O u (Gw (H7 s (v:=_) O) (Gw (H7 s (v:=_) O) JB)) O ((e6.trans EX).trans ag) ⟨_,_,O,Q⟩
def N0 (q:St S L h) {a:Value}{b:(List Int)}(c:Sl S h AB a b) {d:Value}{l:Hb}(g:Pt S h Ge d l) {r:(List Int)×(List Int)}(E:DP N l b=some r):
 B0 prog 215 #[a,d] S h (λv S' h'=>∃m n:Value,v= .tuple #[m,n]∧St S' (OS AB 3 m r.1::OS AB 3 n r.2::L) h'):=by
 refine BA 13 func215 O ntmps215 O λB=>?_;rw[DP] at E;refine AU ?_;refine Bw ?_;have y:=g.fl PO;have z:=y.i;have A:=g.fl Hb.f_Litres;have C:=A.i;refine AU ?_;refine Cc E O O O kS O q (λD s=>Sk (St.all _) (c.mono q.ea.1 q.ea.2) z C s) λD E J K F x t u p=>?_;obtain⟨G,H,rfl,o⟩:=p;have j:=q.join u o ⟨OS.flat (λ{_ _ _ _ _ _} k=>k),⟨OS.flat (λ{_ _ _ _ _ _} k=>k),trivial⟩⟩;simp only[uV,uK] at j;refine AU ?_;refine Bu (λM Q w I=>?_);cases E;exact JC w O I (Gw (H7 w (v:=_) O) (Gw (H7 w (v:=_) O) JB)) O t ⟨_,_,O,j⟩
def O9 {ad:Nat}{p0_w:AN}{Q:Value}{U:Value}{V:Value}{W:Value}{X:Value}{Y:Value}{ab:Value}{ac:Value}{u:Value}{z:Value}{F:Value}{t:Value}{J:Value}{c:Value}{d:Value}{g:Value}{i:Value}{j:Value}{k:Value}{m:Value}{p:Value}{q:Value}(hs:St S (Bx ad 160 [.string p0_w.b.I,Q,vI p0_w.b.O,U,V,W,X,Y,ab,ac,vI p0_w.b.R,u,z,F,t,J,vI p0_w.s.B,c,d,g,i,j,k,m,p,q]::OS (A7.sl AB) 29 c p0_w.s.D::OS AB 3 d p0_w.s.L::OS A3 121 g p0_w.s.G::OS BL 106 i p0_w.s.M::OS AB 3 j p0_w.s.N::OS AB 3 k p0_w.s.K::OS BB 74 m p0_w.moves::OS AB 3 p p0_w.peaks::OS A3 121 q p0_w.sent::L) h) (a6:p0_w.b.I.size≤maxLen) (an:Sl S h A7.str Q p0_w.b.H) (a7:AA p0_w.b.O) (ag:Sl S h B9 U p0_w.b.A) (a8:Sl S h BZ V p0_w.b.E) (a9:Sl S h HL W p0_w.b.Ab) (ba:Sl S h Eu X p0_w.b.Ad) (bb:Sl S h Gr Y p0_w.b.Ae) (bc:Sl S h DB ab p0_w.b.Ag) (be:Sl S h AB ac p0_w.b.Ak) (aw:AA p0_w.b.R) (ax:Sl S h AB u p0_w.in_.Z) (ay:Sl S h Gf z p0_w.in_.Ah) (az:Sl S h Jp F p0_w.in_.Aj) (ak:Sl S h Ge t p0_w.in_.Aa) (a1:Sl S h HV J p0_w.in_.Aq) (a2:AA p0_w.s.B) {ah:Int}(bz:AA ah) {r:(List AD)}(E:IM N p0_w ah=some r):
 B0 prog 165 #[vP ad 0,vI ah] S h (λv S' h'=>St S' (OS A6 259 v r::Bx ad 160 [.string p0_w.b.I,Q,vI p0_w.b.O,U,V,W,X,Y,ab,ac,vI p0_w.b.R,u,z,F,t,J,vI p0_w.s.B,c,d,g,i,j,k,m,p,q]::OS (A7.sl AB) 29 c p0_w.s.D::OS AB 3 d p0_w.s.L::OS A3 121 g p0_w.s.G::OS BL 106 i p0_w.s.M::OS AB 3 j p0_w.s.N::OS AB 3 k p0_w.s.K::OS BB 74 m p0_w.moves::OS AB 3 p p0_w.peaks::OS A3 121 q p0_w.sent::L) h'):=by
 refine BA 85 func165 O ntmps165 O λB=>?_;rw[IM] at E;refine AU ?_;refine AO (λa w=>∃(v2:Value) (l3:List AD),IV B S h (85,[]) a w [(5,v2)] (OS A6 259 v2 l3::Bx ad 160 [.string p0_w.b.I,Q,vI p0_w.b.O,U,V,W,X,Y,ab,ac,vI p0_w.b.R,u,z,F,t,J,vI p0_w.s.B,c,d,g,i,j,k,m,p,q]::OS (A7.sl AB) 29 c p0_w.s.D::OS AB 3 d p0_w.s.L::OS A3 121 g p0_w.s.G::OS BL 106 i p0_w.s.M::OS AB 3 j p0_w.s.N::OS AB 3 k p0_w.s.K::OS BB 74 m p0_w.moves::OS AB 3 p p0_w.peaks::OS A3 121 q p0_w.sent::L) λ_ _=>C6 N l3=some r) ?_ ?_
 ·refine A4 (λn1=>λa w=>∃(v8:Value) (l9:List AD) (am:Int),IV B S h (85,[]) a w [(13,vI (↑p0_w.in_.Aa.length:Int)),(12,t),(0,vP ad 0),(1,vI ah),(5,v8),(14,vI am)] (OS A6 259 v8 l9::Bx ad 160 [.string p0_w.b.I,Q,vI p0_w.b.O,U,V,W,X,Y,ab,ac,vI p0_w.b.R,u,z,F,t,J,vI p0_w.s.B,c,d,g,i,j,k,m,p,q]::OS (A7.sl AB) 29 c p0_w.s.D::OS AB 3 d p0_w.s.L::OS A3 121 g p0_w.s.G::OS BL 106 i p0_w.s.M::OS AB 3 j p0_w.s.N::OS AB 3 k p0_w.s.K::OS BB 74 m p0_w.moves::OS AB 3 p p0_w.peaks::OS A3 121 q p0_w.sent::L) λ_ _=>AA am∧CF N p0_w ah (C6 N) n1 l9 am=some r) N ?_ ?_ ?_
  ·intro aa ww hf hw;have bf:=hs.nil A6 259;exact⟨(vN),([]:List AD),0,_,_,hf.sub (kp [13,12,0,1,5,14] O),hw,bf,(CB.refl S h),(iq (n:=0) O),E⟩
  ·rintro aa ww ⟨_,_,_,_,_,_,_,_,_,_,E⟩;rw[CF] at E;cases E
  rintro n1 aa ww ⟨v8,l9,am,b0,b1,hf,hw,ar,bg,cz,E⟩;refine AJ ?_ hf hw;clear hf hw ww aa;rw[CF] at E;refine AU ?_;refine AH O E (λb2 E=>?_) (λb2 E=>?_)
  ·refine AU ?_;refine AO (λa w=>∃(ao:Value) (ap:List AD),IV B b0 b1 (85,[]) a w [(13,vI (↑p0_w.in_.Aa.length:Int)),(12,t),(0,vP ad 0),(1,vI ah),(14,vI am),(5,ao)] (OS A6 259 ao ap::Bx ad 160 [.string p0_w.b.I,Q,vI p0_w.b.O,U,V,W,X,Y,ab,ac,vI p0_w.b.R,u,z,F,t,J,vI p0_w.s.B,c,d,g,i,j,k,m,p,q]::OS (A7.sl AB) 29 c p0_w.s.D::OS AB 3 d p0_w.s.L::OS A3 121 g p0_w.s.G::OS BL 106 i p0_w.s.M::OS AB 3 j p0_w.s.N::OS AB 3 k p0_w.s.K::OS BB 74 m p0_w.moves::OS AB 3 p p0_w.peaks::OS A3 121 q p0_w.sent::L) λ_ _=>GB N am (CF N p0_w ah (C6 N) n1) ap=some r) ?_ ?_
   ·refine AU ?_;have b3:=ak.mono' bg;refine AZ E O O b3 sl_57.1 O λaj E c0 b4=>?_;obtain⟨c1,_,b5⟩:=b4.lv;refine AU ?_;refine CO gQ O ar λaq c2 bh b6=>?_;have b7:=b5.mono b6;obtain⟨rfl,⟨b8,bi,b9,a3⟩⟩:=Ge.ex b7;refine Cu O O O O ty_243.1 O bh .head O λc3 bj c4=>AU ?_;refine BX (.inr ⟨mo,by kernel_rfl⟩) bj (AU ?_);obtain⟨ca,ai,E⟩:=bd E;refine AY 11 33 (.bool ca) ?_ ?_
    ·cases bk:(decide (aj.Ap≠ah))
     ·have ai:=GW bk ai;have cb:=an.nw;have cc:=cb.le;refine AU ?_;refine A8 ai O O O Oa O (λcd bl h' o=>HD (St.all h') bi (Je cc) bl) λcd ai=>AU ?_;cases ai;exact A0 O
     have ai:=GV bk ai;cases ai;exact BF O O
    refine AU ?_;refine BK (kp [38,7,13,12,0,1,5,14] O) λc5 au c6=>AH O E (λce E=>?_) (λce E=>?_)
    ·refine BC O (λaa ww hf hw=>?_);have bm:=au.sel [1,1,1,1,1,1,1,1,1,1,1] 1 O;exact⟨v8,l9,_,_,hf.sub (kp [13,12,0,1,14,5] O),hw,bm,EX,E⟩
    refine AU ?_;refine BX (.inr ⟨mo,by kernel_rfl⟩) au (AU ?_);obtain⟨cf,ae,E⟩:=bd E;refine AY 33 75 (.bool cf) ?_ ?_
    ·cases bn:(decide (aj.C≠(-1)))
     ·have ae:=GW bn ae;cases ae;exact BF O O
     have ae:=GV bn ae;have cg:=ag.nw;have ch:=cg.le;refine AU ?_;refine A8 ae O O O Oa O (λbo bp h' o=>HD (St.all h') a3 (Je ch) bp) λbo ae=>AU ?_;obtain⟨ci,af,ae⟩:=bd ae;refine AY 21 74 (.bool ci) ?_ ?_
     ·cases bq:(!bo)
      ·have af:=GW bq af;refine AU ?_;have cj:=ag.nw;refine AZ af O O cj sl_23.1 O λc7 af c8 c9=>AU ?_;have ck:=ag.nw;refine AZ af O O ck sl_23.1 O λda af db dc=>AU ?_;cases af;exact A0 O
      have af:=GV bq af;cases af;exact BF O O
     refine AU ?_;cases ae;exact A0 O
    refine BK (kp [75,7,13,12,0,1,5,14] O) λcl av dd=>AH O E (λcm E=>?_) (λcm E=>?_)
    ·refine BC O (λaa ww hf hw=>?_);have br:=av.sel [1,1,1,1,1,1,1,1,1,1,1] 1 O;exact⟨v8,l9,_,_,hf.sub (kp [13,12,0,1,14,5] O),hw,br,EX,E⟩
    refine AU ?_;refine Om O O O (FV (cs:=[vI aj.C,vI 0,vI (-3),.func (.func 215) #[] #[vP aq 0]]) QV O O O (AU ?_));obtain⟨cn,bs,de,co⟩:=av.pubb (r:=Ge) (x:=aj) .head ⟨O,⟨b8,bi,b9,a3⟩⟩;have bt:Rd cn cl (A7.fnr prog (λS h vs (x:(List Int))=>∃w0:Value,vs=[w0]∧Sl S h AB w0 x) (λS h v (y:((List Int)×(List Int)))=>∃w0 w1:Value,v= .tuple #[w0,w1]∧Sl S h AB w0 y.1∧Sl S h AB w1 y.2)) (.func (.func 215) #[] #[(vP aq 0)]) (λx=>DP N aj x):=NN 215 #[(vP aq 0)] kT λS' h' s' e' L hs x y vs h1 h2=>by obtain⟨w0,rfl,a0⟩:=h1;exact Ov (N0 hs a0 (co.mono'' s' e') h2)
    refine FO (cs:=[vI aj.C,vI 0,vI (-3),(.func (.func 215) #[] #[(vP aq 0)])]) Mz O O O O O O O bs λdf dg bu cp=>?_;obtain⟨bv,E⟩:=LA E;have cq:=bt.mono cp;refine KE (r:=A6) (l:=l9) (xs:=([(⟨aj.C,0,(-3),(λx=>DP N aj x)⟩:AD)]:List AD)) O O Mz O mh ⟨_,_,O,⟨_,O,a3,(iq (n:=0) O),(iq (n:=(-3)) O),cq⟩,O⟩ O O bv O bu (λ_=>(.tail .head)) λcr dh bw di=>?_;have bx:=bw.drop .head;refine AU ?_;refine WF.nil (λaa ww hf hw=>?_);exact⟨cr,(l9++([(⟨aj.C,0,(-3),(λx=>DP N aj x)⟩:AD)]:List AD)),_,_,hf.sub (kp [13,12,0,1,14,5] O),hw,bx,EX,E⟩
   rintro aa ww ⟨ao,ap,ct,cu,hf,hw,a4,cv,E⟩;refine AJ ?_ hf hw;clear hf hw ww aa;rw[GB] at E;refine AU ?_;refine WF.nil (λaa ww hf hw=>?_);exact⟨ao,ap,(BD (am+1)),_,_,hf.sub (kp [13,12,0,1,5,14] O),hw,a4,EX,(BI _),E⟩
  refine BC O (λaa ww hf hw=>?_);exact⟨v8,l9,_,_,hf.sub (kp [5] O),hw,ar,bg,E⟩
 rintro aa ww ⟨v2,l3,cw,cx,hf,hw,a5,cy,E⟩;refine AJ ?_ hf hw;clear hf hw ww aa;rw[C6] at E;refine AU ?_;cases E;exact KU a5 O O EX
def Lr (i:St S L h) {a:Int}(c:IntKind.has .u64 a) {b:Int}(d:IntKind.has .u64 b) {r:Int×Int}(E:HN N a b=some r):
 B0 prog 266 #[.int .u64 a,.int .u64 b] S h (λv S' h'=>v= .tuple #[.int .u64 r.1,.int .u64 r.2]∧IntKind.has .u64 r.1∧IntKind.has .u64 r.2∧St S' (L) h'):=by
 refine BA 51 func266 O ntmps266 O λB=>?_;rw[HN] at E;refine AU ?_;refine JQ (j:=32) O O O O (AU ?_);refine JQ (j:=32) O O O O (AU ?_);refine JQ (j:=32) O O O O (AU ?_);refine JQ (j:=32) O O O O (AU ?_);refine JQ (j:=32) O O O O (AU ?_);refine Bu (λl m g k=>?_);cases E;exact JC g O k (Gw (H7 g (v:=_) O) (Gw (H7 g (v:=_) O) JB)) O (CB.refl S h) ⟨O,(Cf _ _),(Cf _ _),i⟩
def PF (I:St S L h) {d:Int}(g:IntKind.has .u64 d) {r:Int}(E:IS N d=some r):
 B0 prog 302 #[.int .u64 d] S h (λv S' h'=>v=vI r∧AA r∧St S' (L) h'):=by
 refine BA 25 func302 O ntmps302 O λB=>?_;rw[IS] at E;refine AU ?_;refine Gq (λa w=>∃(x:Int) (y:Int),IV B S h (25,[]) a w [(0,.int .u64 x),(2,vI y)] (L) λ_ _=>IntKind.has .u64 x∧AA y∧GJ N x y=some r) ?_ ?_
 ·refine AH O E (λM E=>?_) (λM E=>?_)
  ·refine AU ?_;refine JQ (j:=32) O O O O (AU ?_);refine WF.nil (λl m b c=>?_);exact⟨(EY .u64 d 32),32,_,_,b.sub (kp [0,2] O),c,I,(CB.refl S h),(QD _ g _),(iq (n:=32) O),E⟩
  refine AU ?_;refine WF.nil (λl m b c=>?_);exact⟨d,0,_,_,b.sub (kp [0,2] O),c,I,(CB.refl S h),g,(iq (n:=0) O),E⟩
 rintro l m ⟨x,y,C,D,b,c,z,e9,J,Q,E⟩;refine AJ ?_ b c;clear b c m l;rw[GJ] at E;refine AU ?_;refine Gq (λa w=>∃(i:Int) (k:Int),IV B C D (25,[]) a w [(0,.int .u64 i),(2,vI k)] (L) λ_ _=>IntKind.has .u64 i∧AA k∧GI N i k=some r) ?_ ?_
 ·refine AH O E (λF E=>?_) (λF E=>?_)
  ·refine AU ?_;refine JQ (j:=16) O O O O (AU ?_);refine WF.nil (λl m b c=>?_);exact⟨(EY .u64 x 16),(BD (y+16)),_,_,b.sub (kp [0,2] O),c,z,(CB.refl C D),(QD _ J _),(BI _),E⟩
  refine AU ?_;refine WF.nil (λl m b c=>?_);exact⟨x,y,_,_,b.sub (kp [0,2] O),c,z,(CB.refl C D),J,Q,E⟩
 rintro l m ⟨i,k,t,u,b,c,q,U,A,G,E⟩;refine AJ ?_ b c;clear b c m l;rw[GI] at E;refine AU ?_;refine Gq (λa w=>∃(o:Int) (p:Int),IV B t u (25,[]) a w [(0,.int .u64 o),(2,vI p)] (L) λ_ _=>IntKind.has .u64 o∧AA p∧GH N o p=some r) ?_ ?_
 ·refine AH O E (λH E=>?_) (λH E=>?_)
  ·refine AU ?_;refine JQ (j:=8) O O O O (AU ?_);refine WF.nil (λl m b c=>?_);exact⟨(EY .u64 i 8),(BD (k+8)),_,_,b.sub (kp [0,2] O),c,q,(CB.refl t u),(QD _ A _),(BI _),E⟩
  refine AU ?_;refine WF.nil (λl m b c=>?_);exact⟨i,k,_,_,b.sub (kp [0,2] O),c,q,(CB.refl t u),A,G,E⟩
 rintro l m ⟨o,p,V,W,b,c,K,X,Y,Z,E⟩;refine AJ ?_ b c;clear b c m l;rw[GH] at E;refine AU ?_;refine D7 O Ij Vb O ?_;obtain⟨ab,s,E⟩:=bd E;have ac:=LT s;exact LV O O MB s O (D7 O Vb Lw O (RT))
def Lk (d:St S L h) {a:Int}(b:IntKind.has .u64 a) {r:Int}(E:Ez N a=some r):
 B0 prog 289 #[.int .u64 a] S h (λv S' h'=>v=vI r∧AA r∧St S' (L) h'):=by
 refine BA 6 func289 O ntmps289 O λB=>?_;rw[Ez] at E;refine AU ?_;refine BX (.inl O) d (AU ?_);refine CA E O O O jU O (λg c h' o=>PF (St.all h') b c) λg E i=>?_;have k:=i;refine AU ?_;exact BK (kp [2] O) λl j m=>RT
def Ls (hs:St S L h) {d:Int}(X:IntKind.has .u64 d) {b:Int}(x:IntKind.has .u64 b) {c:Int}(D:IntKind.has .u64 c) {r:Int×Int}(E:Fa N d b c=some r):
 B0 prog 267 #[.int .u64 d,.int .u64 b,.int .u64 c] S h (λv S' h'=>v= .tuple #[.int .u64 r.1,.int .u64 r.2]∧IntKind.has .u64 r.1∧IntKind.has .u64 r.2∧St S' (L) h'):=by
 refine BA 135 func267 O ntmps267 O λB=>?_;rw[Fa] at E;refine AU ?_;refine AH O E (λc1 E=>?_) (λc1 E=>?_)
 ·cases E
 refine AU ?_;refine AH O E (λc2 E=>?_) (λc2 E=>?_)
 ·cases E
 refine AU ?_;refine AH O E (λc3 E=>?_) (λc3 E=>?_)
 ·refine AU ?_;refine Iy (.inr ⟨mo,by kernel_rfl⟩) (AU ?_);obtain⟨z4,Y,E⟩:=bd E;have r5:IntKind.has .u64 z4:=OP Y;refine UK O O O Y (AU ?_);obtain⟨z6,Z,E⟩:=bd E;have r7:IntKind.has .u64 z6:=ZG x Z;refine dZ O O O Z (AU ?_);refine Bu (λq s i l=>?_);cases E;exact JC i O l (Gw (H7 i (v:=_) O) (Gw (H7 i (v:=_) O) JB)) O (CB.refl S h) ⟨O,r5,r7,hs⟩
 refine AU ?_;refine BX (.inl O) hs (AU ?_);refine CA E O O O jX O (λF aj h' o=>Lk (St.all h') D aj) λF E r9=>?_;have av:=r9;refine D7 O Lw Vc O (AU ?_);refine BK (kp [8,0,1,2] O) λJ ab aw=>AU ?_;obtain⟨g,ac,E⟩:=bd E;refine Rf (j:=g) O O O ac (AU ?_);refine JQ (j:=32) O O O O (AU ?_);obtain⟨m,ad,E⟩:=bd E;refine Rf (j:=m) O O O ad (AU ?_);obtain⟨n,ae,E⟩:=bd E;refine JQ (j:=n) O O O ae (aW O O O (AU ?_));obtain⟨k,af,E⟩:=bd E;refine Rf (j:=k) O O O af (AU ?_);refine JQ (j:=32) O O O O (AU ?_);obtain⟨K,H,E⟩:=bd E;have ak:IntKind.has .u64 K:=OP H;refine UK O O O H (AU ?_);refine AO (λa w=>∃(p:Int),IV B S J (135,[]) a w [(14,.int .u64 (FL .and .u64 (Di .u64 b k) 4294967295)),(13,.int .u64 (EY .u64 (Di .u64 b k) 32)),(11,.int .u64 (FL .or .u64 (Di .u64 d m) (EY .u64 b n))),(10,.int .u64 (FL .and .u64 (Di .u64 c g) 4294967295)),(9,.int .u64 (EY .u64 (Di .u64 c g) 32)),(2,.int .u64 (Di .u64 c g)),(8,.int .u64 (IntKind.wrap .u64 F)),(15,.int .u64 p)] (L) λ_ _=>IntKind.has .u64 p∧DZ N d b c F g m n k p=some r) ?_ ?_
 ·refine A4 (λn1=>λa w=>∃(t:Int) (y:Int),IV B S J (135,[]) a w [(14,.int .u64 (FL .and .u64 (Di .u64 b k) 4294967295)),(13,.int .u64 (EY .u64 (Di .u64 b k) 32)),(11,.int .u64 (FL .or .u64 (Di .u64 d m) (EY .u64 b n))),(10,.int .u64 (FL .and .u64 (Di .u64 c g) 4294967295)),(9,.int .u64 (EY .u64 (Di .u64 c g) 32)),(2,.int .u64 (Di .u64 c g)),(8,.int .u64 (IntKind.wrap .u64 F)),(15,.int .u64 t),(16,.int .u64 y)] (L) λ_ _=>IntKind.has .u64 t∧IntKind.has .u64 y∧C9 N b c g k (DZ N d b c F g m n k) n1 t y=some r) N ?_ ?_ ?_
  ·intro q s i l;exact⟨K,(IntKind.wrap .u64 ((FL .or .u64 (Di .u64 d m) (EY .u64 b n))-(IntKind.wrap .u64 (K*(EY .u64 (Di .u64 c g) 32))))),_,_,i.sub (kp [14,13,11,10,9,2,8,15,16] O),l,ab,(CB.refl S J),ak,(Cf _ _),E⟩
  ·rintro q s ⟨_,_,_,_,_,_,_,_,_,_,E⟩;rw[C9] at E;cases E
  rintro n1 q s ⟨t,y,ax,ay,i,l,z,M,al,az,E⟩;refine AJ ?_ i l;clear i l s q;rw[C9] at E;refine AU ?_;refine AH O E (λam E=>?_) (λam E=>?_)
  ·refine AU ?_;refine A5 (AU ?_);refine AH O E (λan E=>?_) (λan E=>?_)
   ·refine BC O (λq s i l=>?_);exact⟨(IntKind.wrap .u64 (t-1)),_,_,i.sub (kp [14,13,11,10,9,2,8,15] O),l,z,M,(Cf _ _),E⟩
   refine AU ?_;refine BE (WF.nil (λq s i l=>?_));exact⟨(IntKind.wrap .u64 (t-1)),(IntKind.wrap .u64 (y+(EY .u64 (Di .u64 c g) 32))),_,_,i.sub (kp [14,13,11,10,9,2,8,15,16] O),l,z,M,(Cf _ _),(Cf _ _),E⟩
  refine BC O (λq s i l=>?_);exact⟨t,_,_,i.sub (kp [14,13,11,10,9,2,8,15] O),l,z,M,al,E⟩
 rintro q s ⟨p,Q,U,i,l,ag,a0,a1,E⟩;refine AJ ?_ i l;clear i l s q;rw[DZ] at E;refine AU ?_;obtain⟨V,I,E⟩:=bd E;have ao:IntKind.has .u64 V:=OP I;refine UK O O O I (AU ?_);refine AO (λa w=>∃(G:Int),IV B Q U (135,[]) a w [(17,.int .u64 (IntKind.wrap .u64 ((IntKind.wrap .u64 ((IntKind.wrap .u64 ((FL .or .u64 (Di .u64 d m) (EY .u64 b n))*4294967296))+(EY .u64 (Di .u64 b k) 32)))-(IntKind.wrap .u64 (p*(Di .u64 c g)))))),(14,.int .u64 (FL .and .u64 (Di .u64 b k) 4294967295)),(2,.int .u64 (Di .u64 c g)),(8,.int .u64 (IntKind.wrap .u64 F)),(15,.int .u64 p),(18,.int .u64 G)] (L) λ_ _=>IntKind.has .u64 G∧E0 N d b c F g m n k p G=some r) ?_ ?_
 ·refine A4 (λn3=>λa w=>∃(A:Int) (u:Int),IV B Q U (135,[]) a w [(17,.int .u64 (IntKind.wrap .u64 ((IntKind.wrap .u64 ((IntKind.wrap .u64 ((FL .or .u64 (Di .u64 d m) (EY .u64 b n))*4294967296))+(EY .u64 (Di .u64 b k) 32)))-(IntKind.wrap .u64 (p*(Di .u64 c g)))))),(14,.int .u64 (FL .and .u64 (Di .u64 b k) 4294967295)),(10,.int .u64 (FL .and .u64 (Di .u64 c g) 4294967295)),(9,.int .u64 (EY .u64 (Di .u64 c g) 32)),(2,.int .u64 (Di .u64 c g)),(8,.int .u64 (IntKind.wrap .u64 F)),(15,.int .u64 p),(16,.int .u64 A),(18,.int .u64 u)] (L) λ_ _=>IntKind.has .u64 A∧IntKind.has .u64 u∧DY N b c g k (E0 N d b c F g m n k p) n3 A u=some r) N ?_ ?_ ?_
  ·intro q s i l;exact⟨(IntKind.wrap .u64 ((IntKind.wrap .u64 ((IntKind.wrap .u64 ((IntKind.wrap .u64 ((FL .or .u64 (Di .u64 d m) (EY .u64 b n))*4294967296))+(EY .u64 (Di .u64 b k) 32)))-(IntKind.wrap .u64 (p*(Di .u64 c g)))))-(IntKind.wrap .u64 (V*(EY .u64 (Di .u64 c g) 32))))),V,_,_,i.sub (kp [17,14,10,9,2,8,15,16,18] O),l,ag,(CB.refl Q U),(Cf _ _),ao,E⟩
  ·rintro q s ⟨_,_,_,_,_,_,_,_,_,_,E⟩;rw[DY] at E;cases E
  rintro n3 q s ⟨A,u,a2,a3,i,l,C,W,a4,ap,E⟩;refine AJ ?_ i l;clear i l s q;rw[DY] at E;refine AU ?_;refine AH O E (λaq E=>?_) (λaq E=>?_)
  ·refine AU ?_;refine A5 (AU ?_);refine AH O E (λar E=>?_) (λar E=>?_)
   ·refine BC O (λq s i l=>?_);exact⟨(IntKind.wrap .u64 (u-1)),_,_,i.sub (kp [17,14,2,8,15,18] O),l,C,W,(Cf _ _),E⟩
   refine AU ?_;refine BE (WF.nil (λq s i l=>?_));exact⟨(IntKind.wrap .u64 (A+(EY .u64 (Di .u64 c g) 32))),(IntKind.wrap .u64 (u-1)),_,_,i.sub (kp [17,14,10,9,2,8,15,16,18] O),l,C,W,(Cf _ _),(Cf _ _),E⟩
  refine BC O (λq s i l=>?_);exact⟨u,_,_,i.sub (kp [17,14,2,8,15,18] O),l,C,W,ap,E⟩
 rintro q s ⟨G,a5,a6,i,l,ah,a7,a8,E⟩;refine AJ ?_ i l;clear i l s q;rw[E0] at E;refine AU ?_;obtain⟨au,ai,E⟩:=bd E;refine JQ (j:=au) O O O ai (AU ?_);refine Bu (λq s i l=>?_);cases E;exact JC i O l (Gw (H7 i (v:=_) O) (Gw (H7 i (v:=_) O) JB)) O EX ⟨O,(Cf _ _),(QD _ (Cf _ _) _),ah⟩
def JG (F:St S L h) {d:Int}(s:AA d) {a:Int}(l:AA a) {b:Int}(m:AA b) {r:Int×Int×Bool}(E:Fo N d a b=some r):
 B0 prog 212 #[vI d,vI a,vI b] S h (λv S' h'=>v= .tuple #[vI r.1,vI r.2.1,.bool r.2.2]∧AA r.1∧AA r.2.1∧St S' (L) h'):=by
 refine BA 61 func212 O ntmps212 O λB=>?_;rw[Fo] at E;refine AU ?_;refine AH O E (λG E=>?_) (λG E=>?_)
 ·refine AU ?_;refine Bu (λu w c k=>?_);cases E;exact JC c O k (Gw (H7 c (v:=_) O) (Gw (H7 c (v:=_) O) (Gw (H7 c (v:=_) O) JB))) O (CB.refl S h) ⟨O,(iq (n:=0) O),(iq (n:=0) O),F⟩
 refine AU ?_;refine BX (.inl O) F (AU ?_);refine D7 O Lw Ij O (AU ?_);refine D7 O Lw Ij O ?_;obtain⟨t,x,E⟩:=bd E;refine IW (v:= .tuple #[.int .u64 t.1,.int .u64 t.2]) (Ψ:=IntKind.has .u64 t.1∧IntKind.has .u64 t.2) O O O Z4 O (λh' o=>(Lr (St.all h') (Cf _ _) (Cf _ _) x).mono λ_ _ _ _ p=>⟨p.1,⟨p.2.1,p.2.2.1⟩⟩) λH=>?_;obtain⟨I,y⟩:=H;refine AU ?_;refine BK (kp [10,9,2] O) λJ i z=>AU ?_;refine D7 O Lw Ij O (AU ?_);refine AH O E (λA E=>?_) (λA E=>?_)
 ·refine AU ?_;refine Bu (λu w c k=>?_);cases E;exact JC c O k (Gw (H7 c (v:=_) O) (Gw (H7 c (v:=_) O) (Gw (H7 c (v:=_) O) JB))) O z ⟨O,(iq (n:=0) O),(iq (n:=0) O),i⟩
 refine AU ?_;refine BX (.inl O) i (AU ?_);refine D7 O Lw Ij O ?_;obtain⟨g,q,E⟩:=bd E;refine IW (v:= .tuple #[.int .u64 g.1,.int .u64 g.2]) (Ψ:=IntKind.has .u64 g.1∧IntKind.has .u64 g.2) O O O Z3 O (λh' o=>(Ls (St.all h') I y (Cf _ _) q).mono λ_ _ _ _ p=>⟨p.1,⟨p.2.1,p.2.2.1⟩⟩) λC=>?_;obtain⟨K,M⟩:=C;refine AU ?_;refine BK (kp [12,11] O) λQ j U=>AU ?_;refine AH O E (λD E=>?_) (λD E=>?_)
 ·refine AU ?_;refine Bu (λu w c k=>?_);cases E;exact JC c O k (Gw (H7 c (v:=_) O) (Gw (H7 c (v:=_) O) (Gw (H7 c (v:=_) O) JB))) O EX ⟨O,(iq (n:=0) O),(iq (n:=0) O),j⟩
 refine AU ?_;refine D7 O Ij Lw O (AU ?_);refine D7 O Ij Lw O (AU ?_);refine Bu (λu w c k=>?_);cases E;exact JC c O k (Gw (H7 c (v:=_) O) (Gw (H7 c (v:=_) O) (Gw (H7 c (v:=_) O) JB))) O EX ⟨O,(BI _),(BI _),j⟩
def Jw (l:St S L h) {g:Int}(i:AA g) {a:Int}(c:AA a) {b:Int}(d:AA b) {r:Int}(E:Hj N g a b=some r):
 B0 prog 262 #[vI g,vI a,vI b] S h (λv S' h'=>v=vI r∧AA r∧St S' (L) h'):=by
 refine BA 21 func262 O ntmps262 O λB=>?_;rw[Hj] at E;refine AU ?_;refine BX (.inl O) l (AU ?_);obtain⟨j,k,E⟩:=bd E;refine IW (v:= .tuple #[vI j.1,vI j.2.1,.bool j.2.2]) (Ψ:=AA j.1∧AA j.2.1) O O O SH O (λh' o=>(JG (St.all h') i c d k).mono λ_ _ _ _ p=>⟨p.1,⟨p.2.1,p.2.2.1⟩⟩) λm=>?_;obtain⟨s,t⟩:=m;refine AU ?_;refine BK (kp [9,7] O) λu n w=>AU ?_;refine AH O E (λq E=>?_) (λq E=>?_)
 ·exact RT
 exact RT
def So (H:St S L h) {d:Value}{k:BM}(j:Rd S h BZ d k) {a:Int}(b:AA a) {c:Int}(g:AA c) {r:Int}(E:Lf N k a c=some r):
 B0 prog 264 #[d,vI a,vI c] S h (λv S' h'=>v=vI r∧AA r∧St S' (L) h'):=by
 refine BA 20 func264 O ntmps264 O λB=>?_;rw[Lf] at E;refine AU ?_;refine By O j CE O H λK S2 M q Q G=>AU ?_;refine AH O E (λs E=>?_) (λs E=>?_)
 ·exact RT
 refine AU ?_;refine BX (.inl O) q ?_;have t:=G.fl JI;have u:=t.i;have w:=G.fl JJ;have x:=w.i;refine AU ?_;refine CA E O O O SF O (λy l h' o=>Jw (St.all h') g u x l) λy E z=>?_;have A:=z;refine CA E O O O Qp O (λC m h' o=>JK (St.all h') b A m) λC E D=>?_;have F:=D;refine SV O O O (AU ?_);refine BK (kp [6] O) λI p J=>?_;cases E;exact KU ⟨O,(Ql (iq (n:=0) O) F),p⟩ O O EX
def HS (Y:St S L h) {d:Value}{i:(List BS)}(g:Sl S h B3 d i) {r:Bool}(E:Eb N i=some r):
 B0 prog 232 #[d] S h (λv S' h'=>v= .bool r∧St S' (L) h'):=by
 refine BA 63 func232 O ntmps232 O λB=>?_;rw[Eb] at E;refine AU ?_;refine AH O E (λZ E=>?_) (λZ E=>?_)
 ·exact RT
 refine AU ?_;refine AO (λa w=>IV B S h (63,[]) a w [] (L) λ_ _=>G1 N=some r) ?_ ?_
 ·refine A4 (λW=>λa w=>∃(p:Int),IV B S h (63,[]) a w [(14,vI (↑i.length:Int)),(13,d),(0,d),(15,vI p)] (L) λ_ _=>AA p∧Ea N i (G1 N) W p=some r) N ?_ ?_ ?_
  ·intro m o j k;exact⟨0,_,_,j.sub (kp [14,13,0,15] O),k,Y,(CB.refl S h),(iq (n:=0) O),E⟩
  ·rintro m o ⟨_,_,_,_,_,_,_,_,E⟩;rw[Ea] at E;cases E
  rintro W m o ⟨p,ab,ac,j,k,l,q,r9,E⟩;refine AJ ?_ j k;clear j k o m;rw[Ea] at E;refine AU ?_;refine AH O E (λz E=>?_) (λz E=>?_)
  ·refine AU ?_;refine A5 (AU ?_);have A:=g.mono' q;refine AZ E O O A sl_98.1 O λC E ad D=>?_;obtain⟨ae,_,F⟩:=D.lv;refine AU ?_;refine CO Te O l λaf ag s G=>AU ?_;have H:=F.mono G;obtain⟨rfl,⟨ah,ai⟩⟩:=B3.ex H;refine Cu O O O O ty_137.1 O s .head O λaj t ak=>AU ?_;refine AH O E (λI E=>?_) (λI E=>?_)
   ·exact RT
   refine AU ?_;refine Iy (.inr ⟨mo,by kernel_rfl⟩) (AU ?_);obtain⟨J,b,E⟩:=bd E;refine AY 21 61 (.bool J) ?_ ?_
   ·cases u:(decide (0<p))
    ·have b:=GW u b;cases b;exact BF O O
    have b:=GV u b;refine AU ?_;have K:=g.nw;refine AZ b O O K sl_98.1 O λM b am an=>AU ?_;obtain⟨Q,c,b⟩:=bd b;refine AY 10 60 (.bool Q) ?_ ?_
    ·cases x:(decide (C.P≤M.P))
     ·have c:=GW x c;refine AU ?_;have U:=g.nw;refine AZ c O O U sl_98.1 O λao c ap aq=>AU ?_;cases c;exact A0 O
     have c:=GV x c;cases c;exact BF O O
    refine AU ?_;cases b;exact A0 O
   refine AU ?_;refine AH O E (λV E=>?_) (λV E=>?_)
   ·exact RT
   refine AU ?_;refine BE (AU ?_);refine WF.nil (λm o j k=>?_);have y:=t.drop .head;exact⟨(BD (p+1)),_,_,j.sub (kp [14,13,0,15] O),k,y,EX,(BI _),E⟩
  refine BC O (λm o j k=>?_);exact⟨_,_,j.sub NA,k,l,q,E⟩
 rintro m o ⟨ar,au,j,k,X,av,E⟩;refine AJ ?_ j k;clear j k o m;rw[G1] at E;exact RT
def RK (X:St S L h) {g:Int}(q:AA g) {i:Value}{p:(Int→Option Bool)}(s:Rd S h (A7.fn prog (λx:Int=>([vI x]:List Value)) (λx:Int=>AA x) (λy:Bool=> .bool y) (λy:Bool=>True)) i p) {r:Int}(E:LK N g p=some r):
 B0 prog 303 #[vI g,i] S h (λv S' h'=>v=vI r∧AA r∧St S' (L) h'):=by
 refine BA 26 func303 O ntmps303 O λB=>?_;rw[LK] at E;obtain⟨H,I,rfl,J,K⟩:=s.fn;refine AU ?_;refine AO (λa w=>∃(F:Int),IV B S h (26,[]) a w [(5,vI F)] (L) λ_ _=>AA F∧Io N F=some r) ?_ ?_
 ·refine A4 (λV=>λa w=>∃(c:Int) (d:Int),IV B S h (26,[]) a w [(1,(.func (.func H) #[] I)),(5,vI c),(6,vI d)] (L) λ_ _=>AA c∧AA d∧GG N p (Io N) V c d=some r) N ?_ ?_ ?_
  ·intro u z l m;exact⟨0,g,_,_,l.sub (kp [1,5,6] O),m,X,(CB.refl S h),(iq (n:=0) O),q,E⟩
  ·rintro u z ⟨_,_,_,_,_,_,_,_,_,_,E⟩;rw[GG] at E;cases E
  rintro V u z ⟨c,d,Y,Z,l,m,k,t,C,M,E⟩;refine AJ ?_ l m;clear l m z u;rw[GG] at E;refine AU ?_;refine AH O E (λQ E=>?_) (λQ E=>?_)
  ·refine AU ?_;refine A5 (AU ?_);refine D7 O Lw Vc O (JQ (j:=1) O O O O (D7 O Vc Lw O (AU ?_)));refine BX (.inl O) k (AU ?_);obtain⟨ab,D,E⟩:=bd E;refine Kt O O O J O (λh' o=>K _ h' (λb G=>tZ (k.1 b (t.sub b G)) o.siz) (λb G=>(o.same b (k.1 b (t.sub b G))).trans (t.same b G)) [] (St.all h') _ _ (BI _) D) (AU ?_);refine BK (kp [21,7,1,5,6] O) λac A ad=>AH O E (λU E=>?_) (λU E=>?_)
   ·refine AU ?_;refine BE (WF.nil (λu z l m=>?_));exact⟨(BD ((BD (EY .u64 (IntKind.wrap .u64 (BD (c+d))) 1))+1)),d,_,_,l.sub (kp [1,5,6] O),m,A,EX,(BI _),M,E⟩
   refine AU ?_;refine BE (WF.nil (λu z l m=>?_));exact⟨c,(BD (EY .u64 (IntKind.wrap .u64 (BD (c+d))) 1)),_,_,l.sub (kp [1,5,6] O),m,A,EX,C,(BI _),E⟩
  refine BC O (λu z l m=>?_);exact⟨c,_,_,l.sub (kp [5] O),m,k,t,C,E⟩
 rintro u z ⟨F,ae,af,l,m,W,ag,r6,E⟩;refine AJ ?_ l m;clear l m z u;rw[Io] at E;exact RT
def QH (l:St S L h) {a:Int}(i:AA a) {b:Value}{g:(List BS)}(d:Pt S h (A7.sl B3) b g) {c:Value}{c2_:Int}(j:Pt S h AB c c2_) {r:Bool}(E:IG N g c2_ a=some r):
 B0 prog 304 #[vI a,b,c] S h (λv S' h'=>v= .bool r∧St S' (L) h'):=by
 refine BA 12 func304 O ntmps304 O λB=>?_;rw[IG] at E;refine AU ?_;refine Iy (.inr ⟨mo,by kernel_rfl⟩) ?_;obtain⟨v1,_,k⟩:=d.ll;refine AU ?_;exact AZ E O O k sl_98.1 O λm E n o=>RT
def Ll (J:St S L h) {b:Value}{c:(List BS)}(j:Sl S h B3 b c) {a:Int}(k:AA a) {r:Int×Bool}(E:Ie N c a=some r):
 B0 prog 288 #[b,vI a] S h (λv S' h'=>v= .tuple #[vI r.1,.bool r.2]∧AA r.1∧St S' (L) h'):=by
 refine BA 63 func288 O ntmps288 O λB=>?_;rw[Ie] at E;refine AU ?_;refine By O (O5 j) (λ_=>rfl) O J λq1 S2 h3 K e5 k6=>By O (⟨_,O,O,k⟩:Rd _ _ AB _ a) (λ_=>rfl) O K λq7 S8 h9 m M s=>AU ?_;refine BX (.inl O) m ?_;have l:=k6.mono M;obtain⟨ap,_,Q⟩:=l.ll;have U:=Q.le;refine AU ?_;refine Om O O O ?_;have t:Rd S8 h9 (A7.fn prog (λx:Int=>([vI x]:List Value)) (λx:Int=>AA x) (λy:Bool=> .bool y) (λy:Bool=>True)) (.func (.func 304) #[] #[q1,q7]) (λx=>IG N c a x):=Rd.ofFn 304 #[q1,q7] jS λS' h' s' e' L J x y h1 h2=>(QH J h1 (l.mono'' s' e') (s.mono'' s' e') h2).mono λ_ _ _ _ p=>⟨p.1,trivial,p.2⟩
 refine CA E O O O jT O (λV u h' o=>RK (St.all h') (Je U) (t.mono (o.all m.1)) u) λV E W=>?_;have aq:=W;refine AU ?_;refine BK (kp [6,3,2] O) λar n w=>AU ?_;refine AH O E (λX E=>?_) (λX E=>?_)
 ·have Y:=l.mono w;obtain⟨au,_,Z⟩:=Y.ll;refine AU ?_;refine AZ E O O Z sl_98.1 O λav E aw ab=>?_;have ac:=ab.fl Sd;have ad:=ac.i;refine AU ?_;refine Bu (λaa ww d z=>?_);cases E;exact JC d O z (Gw (H7 d (v:=_) O) (Gw (H7 d (v:=_) O) JB)) O EX ⟨O,ad,n⟩
 have A:=l.mono w;obtain⟨ax,_,ae⟩:=A.ll;refine AU ?_;refine AZ E O O ae sl_98.1 O λay E az af=>?_;obtain⟨a0,_,ag⟩:=af.lv;refine AU ?_;refine CO Te O n λa1 a2 C ah=>?_;have ai:=ag.mono ah;obtain⟨rfl,⟨a3,aj⟩⟩:=B3.ex ai;refine Cu O O O O ty_137.1 O C .head O λa4 q a5=>?_;have D:=A.nw;refine AU ?_;refine AH O E (λak E=>?_) (λak E=>?_)
 ·refine AU ?_;refine Bu (λaa ww d z=>?_);have F:=q.drop .head;cases E;exact JC d O z (Gw (H7 d (v:=_) O) (Gw (H7 d (v:=_) O) JB)) O EX ⟨O,aj,F⟩
 refine AU ?_;refine BX (.inr ⟨mo,by kernel_rfl⟩) q ?_;have a6:=s.nw;obtain⟨a7,_,am⟩:=D.ll;refine AU ?_;refine AZ E O O am sl_98.1 O λa8 E a9 ba=>?_;obtain⟨bb,_,an⟩:=D.ll;refine AU ?_;refine AZ E O O an sl_98.1 O λbc E be bf=>AU ?_;obtain⟨g,G,E⟩:=bd E;refine IW (v:= .tuple #[vI g.1,vI g.2.1,.bool g.2.2]) (Ψ:=AA g.1∧AA g.2.1) O O O SH O (λh' o=>(JG (St.all h') (BI _) (BI _) (BI _) G).mono λ_ _ _ _ p=>⟨p.1,⟨p.2.1,p.2.2.1⟩⟩) λao=>?_;obtain⟨bg,bh⟩:=ao;refine AU ?_;refine BK (kp [9,8,7] O) λbi H bj=>AU ?_;refine Bu (λaa ww d z=>?_);have I:=H.drop .head;cases E;exact JC d O z (Gw (H7 d (v:=_) O) (Gw (H7 d (v:=_) O) JB)) O EX ⟨O,(BI _),I⟩
def T5 (l:St S L h) {a:Value}{g:(List BS)}(b:Sl S h B3 a g) {c:Int}(d:AA c) {r:Int}(E:MT N g c=some r):
 B0 prog 263 #[a,vI c] S h (λv S' h'=>v=vI r∧AA r∧St S' (L) h'):=by
 refine BA 17 func263 O ntmps263 O λB=>?_;rw[MT] at E;refine AU ?_;refine BX (.inl O) l (AU ?_);refine A8 E O O O Pi O (λn j h' o=>HS (St.all h') (b.mono' (o.all l.1)) j) λn E=>AU ?_;refine BK (kp [9,0,1] O) λz i p=>AH O E (λq E=>?_) (λq E=>?_)
 ·exact RT
 refine AU ?_;refine BX (.inl O) i (AU ?_);have s:=b.mono' p;refine CA E O O O V6 O (λt k h' o=>Ll (St.all h') (s.mono' (o.all i.1)) d k) λt E u=>?_;have w:=u;refine AU ?_;exact BK (kp [5] O) λx m y=>RT
def Sq (hs:St S L h) {u:Value}{l:BM}(D:Rd S h BZ u l) {d:Int}(p:AA d) {c:Bool}{q:Value}{z:(List BS)}(F:Sl S h B3 q z) {b:Int}(k:AA b) {m:Int}(A:AA m) {r:Int}(E:Lg N l d c z b m=some r):
 B0 prog 210 #[u,vI d,.bool c,q,vI b,vI m] S h (λv S' h'=>v=vI r∧AA r∧St S' (L) h'):=by
 refine BA 63 func210 O ntmps210 O λB=>?_;rw[Lg] at E;refine AU ?_;refine By O D CE O hs λK S2 y x e5 k6=>AU ?_;refine AO (λa w=>IV B S2 y (63,[]) a w [] (L) λ_ _=>Iv N=some r) ?_ ?_
 ·refine AU ?_;refine AO (λa w=>IV B S2 y (63,[]) a w [(6,K),(4,vI b)] (L) λ_ _=>Iu N l b=some r) ?_ ?_
  ·refine AU ?_;refine AO (λa w=>IV B S2 y (63,[]) a w [(6,K),(2,.bool c),(4,vI b)] (L) λ_ _=>Kp N c (Iu N l b)=some r) ?_ ?_
   ·refine AU ?_;refine AO (λa w=>IV B S2 y (63,[]) a w [(6,K),(2,.bool c),(4,vI b)] (L) λ_ _=>Ko N l c b (Iv N)=some r) ?_ ?_
    ·refine AU ?_;refine AO (λa w=>IV B S2 y (63,[]) a w [(6,K),(1,vI d)] (L) λ_ _=>Kn N l d=some r) ?_ ?_
     ·refine AU ?_;refine AO (λa w=>IV B S2 y (63,[]) a w [(6,K),(1,vI d),(3,q),(4,vI b),(5,vI m)] (L) λ_ _=>Km N l d z b m=some r) ?_ ?_
      ·refine AU ?_;refine AH O E (λal E=>?_) (λal E=>?_)
       ·refine BC O (λs t g j=>?_);exact⟨_,_,g.sub (kp [6,1,3,4,5] O),j,x,(CB.refl S2 y),E⟩
       refine AU ?_;refine AH O E (λam E=>?_) (λam E=>?_)
       ·refine BC O (λs t g j=>?_);exact⟨_,_,g.sub (kp [6,1] O),j,x,(CB.refl S2 y),E⟩
       refine AU ?_;refine AH O E (λan E=>?_) (λan E=>?_)
       ·refine BC O (λs t g j=>?_);exact⟨_,_,g.sub (kp [6,2,4] O),j,x,(CB.refl S2 y),E⟩
       refine AU ?_;refine AH O E (λao E=>?_) (λao E=>?_)
       ·refine BC O (λs t g j=>?_);exact⟨_,_,g.sub (kp [6,2,4] O),j,x,(CB.refl S2 y),E⟩
       refine AU ?_;refine AH O E (λap E=>?_) (λap E=>?_)
       ·refine BC O (λs t g j=>?_);exact⟨_,_,g.sub (kp [6,4] O),j,x,(CB.refl S2 y),E⟩
       refine AU ?_;refine BC O (λs t g j=>?_);exact⟨_,_,g.sub NA,j,x,(CB.refl S2 y),E⟩
      rintro s t ⟨ca,cb,g,j,C,aq,E⟩;refine AJ ?_ g j;clear g j t s;rw[Km] at E;refine AU ?_;refine BX (.inr ⟨mo,by kernel_rfl⟩) C ?_;have H:=k6.mono aq;obtain⟨cc,_,ar⟩:=H.lv;refine AU ?_;refine CA E O O O kG O (λau M h' o=>So (St.all h') (ar.mono (o.all C.1)) k A M) λau E av=>?_;have aw:=av;have ax:=F.nw;refine CA E O O O kH O (λay Q h' o=>T5 (St.all h') (ax.mono' (o.all C.1)) aw Q) λay E az=>?_;have a0:=az;have a1:=H.fl Fe;have a2:=a1.i;refine AU ?_;refine CA E O O O SF O (λa3 U h' o=>Jw (St.all h') a0 p a2 U) λa3 E a4=>?_;have a5:=a4;have a6:=H.fl Np;have a7:=a6.i;refine AU ?_;refine CA E O O O Q9 O (λa8 V h' o=>Ho (St.all h') a5 a7 V) λa8 E a9=>?_;have cd:=a9;refine AU ?_;exact BK (kp [12] O) λce b1 cf=>RT
     rintro s t ⟨cg,ch,g,j,W,ba,E⟩;refine AJ ?_ g j;clear g j t s;rw[Kn] at E;refine AU ?_;refine BX (.inl O) W ?_;have X:=k6.mono ba;have bb:=X.fl BM.f_Num;have bc:=bb.i;have be:=X.fl Fe;have bf:=be.i;refine AU ?_;refine CA E O O O SF O (λbg Y h' o=>Jw (St.all h') bc p bf Y) λbg E bh=>?_;have ci:=bh;refine AU ?_;exact BK (kp [12] O) λcj b2 ck=>RT
    rintro s t ⟨cl,cm,g,j,G,Z,E⟩;refine AJ ?_ g j;clear g j t s;rw[Ko] at E;refine AU ?_;refine AH O E (λbi E=>?_) (λbi E=>?_)
    ·refine AU ?_;refine BX (.inl O) G ?_;have ab:=k6.mono Z;have bj:=ab.fl BM.f_Num;have bk:=bj.i;have bl:=ab.fl BM.f_Den;have bm:=bl.i;refine AU ?_;refine CA E O O O SF O (λbn ac h' o=>Jw (St.all h') k bk bm ac) λbn E bo=>?_;have cn:=bo;refine AU ?_;exact BK (kp [12] O) λco b3 cp=>RT
    refine AU ?_;refine BC O (λs t g j=>?_);exact⟨_,_,g.sub NA,j,G,Z,E⟩
   rintro s t ⟨cq,cr,g,j,ad,bp,E⟩;refine AJ ?_ g j;clear g j t s;rw[Kp] at E;refine AU ?_;refine AH O E (λbq E=>?_) (λbq E=>?_)
   ·exact RT
   refine AU ?_;refine WF.nil (λs t g j=>?_);exact⟨_,_,g.sub (kp [6,4] O),j,ad,bp,E⟩
  rintro s t ⟨cs,ct,g,j,ae,br,E⟩;refine AJ ?_ g j;clear g j t s;rw[Iu] at E;refine AU ?_;refine BX (.inr ⟨mo,by kernel_rfl⟩) ae ?_;have I:=k6.mono br;have bs:=I.fl M3;have bt:=bs.i;refine AU ?_;refine CA E O O O Qp O (λbu af h' o=>JK (St.all h') k bt af) λbu E bv=>?_;have bw:=bv;refine SV O O O ?_;have bx:=I.fl BM.f_Num;have ag:=bx.i;have ah:=I.fl BM.f_Den;have ai:=ah.i;refine AU ?_;refine CA E O O O SF O (λaj J h' o=>Jw (St.all h') (Ql (iq (n:=0) O) bw) ag ai J) λaj E ak=>?_;have b4:=ak;refine AU ?_;exact BK (kp [12] O) λb5 bz b6=>RT
 rintro s t ⟨b7,b8,g,j,b0,b9,E⟩;refine AJ ?_ g j;clear g j t s;rw[Iv] at E;exact RT
def Tz (H:St S L h) {d:Value}{n:BM}(l:Rd S h BZ d n) {g:Value}{p:AT}(m:Rd S h BL g p) {a:Int}(b:AA a) {c:Int}(j:AA c) {r:Int}(E:MS N n p a c=some r):
 B0 prog 217 #[d,g,vI a,vI c] S h (λv S' h'=>v=vI r∧AA r∧St S' (L) h'):=by
 refine BA 19 func217 O ntmps217 O λB=>?_;rw[MS] at E;refine AU ?_;refine By O l CE O H λY S2 Z t I J=>?_;have K:=m.mono I;refine By O K CE O t λq8 S9 M k u w=>AU ?_;refine BX (.inl O) k ?_;have q:=J.mono u;obtain⟨Q,_,x⟩:=q.lv;have y:=w.fl RC;have z:=y.i;have A:=q.fl Kv;obtain⟨U,_,C⟩:=A.ll;refine AU ?_;refine CA E O O O kV O (λD s h' o=>Sq (St.all h') (x.mono (o.all k.1)) z (C.mono' (o.all k.1)) b j s) λD E F=>?_;have V:=F;refine AU ?_;exact BK (kp [8] O) λW G X=>RT
def JS (g:St S L h) {a:Int}(b:AA a) {r:Int}(E:G8 N a=some r):
 B0 prog 168 #[vI a] S h (λv S' h'=>∃c:Value,v= .func (.func 219) #[] #[c]∧Pt S' h' AB c r∧St S' (L) h'):=by
 refine BA 4 func168 O ntmps168 O λB=>?_;rw[G8] at E;refine AU ?_;refine By O (⟨_,O,O,b⟩:Rd _ _ AB _ a) (λ_=>rfl) O g λj S2 k d l i=>AU ?_;refine Om O O O (AU ?_);cases E;exact KU ⟨_,O,i,d⟩ O O EX
def OR (z:St S L h) {b:Value}{c:(List Int)}(i:Sl S h AB b c) {r:Bool}(E:HA N c=some r):
 B0 prog 242 #[b] S h (λv S' h'=>v= .bool r∧St S' (L) h'):=by
 refine BA 24 func242 O ntmps242 O λB=>?_;rw[HA] at E;refine AU ?_;refine AO (λa w=>IV B S h (24,[]) a w [] (L) λ_ _=>E7 N=some r) ?_ ?_
 ·refine A4 (λx=>λa w=>∃(o:Int) (p:Int),IV B S h (24,[]) a w [(7,vI (↑c.length:Int)),(6,b),(3,vI o),(8,vI p)] (L) λ_ _=>AA o∧AA p∧DE N c (E7 N) x o p=some r) N ?_ ?_ ?_
  ·intro k l d g;exact⟨0,0,_,_,d.sub (kp [7,6,3,8] O),g,z,(CB.refl S h),(iq (n:=0) O),(iq (n:=0) O),E⟩
  ·rintro k l ⟨_,_,_,_,_,_,_,_,_,_,E⟩;rw[DE] at E;cases E
  rintro x k l ⟨o,p,A,C,d,g,j,m,J,K,E⟩;refine AJ ?_ d g;clear d g l k;rw[DE] at E;refine AU ?_;refine AH O E (λq E=>?_) (λq E=>?_)
  ·refine AU ?_;refine A5 (AU ?_);have s:=i.mono' m;refine AZ E O O s sl_29.1 O λt E D F=>AU ?_;refine AH O E (λu E=>?_) (λu E=>?_)
   ·exact RT
   refine AU ?_;refine BE (AU ?_);refine WF.nil (λk l d g=>?_);exact⟨(BD (o+t)),(BD (p+1)),_,_,d.sub (kp [7,6,3,8] O),g,j,m,(BI _),(BI _),E⟩
  refine BC O (λk l d g=>?_);exact⟨_,_,d.sub NA,g,j,m,E⟩
 rintro k l ⟨G,H,d,g,y,I,E⟩;refine AJ ?_ d g;clear d g l k;rw[E7] at E;exact RT
end Go.Proofs.YtedgiljmffngoaaGreat
