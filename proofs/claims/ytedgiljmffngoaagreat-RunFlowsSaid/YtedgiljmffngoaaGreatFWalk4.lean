import Derived.Test.YtedgiljmffngoaaGreatFFacts
import Derived.Test.YtedgiljmffngoaaGreatFForms
import Derived.Test.YtedgiljmffngoaaGreatFInst
import Derived.Test.YtedgiljmffngoaaGreatFSort5
import Derived.Test.YtedgiljmffngoaaGreatFWalk0
import Derived.Test.YtedgiljmffngoaaGreatFWalk1
namespace Go.Proofs.YtedgiljmffngoaaGreat
set_option linter.all false
open Go.RowKit
open Go.Proofs.Tryz
set_option maxRecDepth 10000
set_option maxHeartbeats 2000000
variable {N:Nat}{S:Nat→Prop}{L:List HP}{h:AT}
def MK (hs:St S L h) {m:Value}{d:(List Int)}(s:Sl S h AB m d) {b:Value}{c:(List Int)}(g:Sl S h AB b c) {r:(List Int)}(E:J8 N d c=some r):
 B0 prog 268 #[m,b] S h (λv S' h'=>St S' (OS AB 3 v r::L) h'):=by
 refine BA 30 func268 O ntmps268 O λB=>?_;rw[J8] at E;refine AU ?_;obtain⟨U,E⟩:=LA E;refine I7 (r:=AB) (zx:=0) GC O ⟨O,by unfold AA;omega⟩ O O U O O hs λQ h4 V e6=>AU ?_;have k7:=s.mono' e6;refine SI (r:=AB) (l:=(List.replicate ((↑d.length:Int):Int).toNat (0:Int))) (xs:=d) O O sl_29.1 (Sl.src k7) O V .head λW X ae=>?_;have Y:=g.nw;refine AU ?_;refine AK (λa w=>∃(t:List Int),IV B S W (30,[]) a w [(5,Q)] (OS AB 3 Q t::L) λ_ _=>IE N t=some r) ?_ ?_
 ·refine AY (λn1=>λa w=>∃(k:Int) (o:List Int),IV B S W (30,[]) a w [(15,vI (↑c.length:Int)),(14,b),(5,Q),(16,vI k)] (OS AB 3 Q o::L) λ_ _=>AA k∧Gu N c (IE N) n1 k o=some r) N ?_ ?_ ?_
  ·intro u y p q;exact⟨0,(PT (List.replicate ((↑d.length:Int):Int).toNat (0:Int)) d),_,_,p.sub (kp [15,14,5,16] O),q,X,(B6.refl S W),(iq (n:=0) O),E⟩
  ·rintro u y ⟨_,_,_,_,_,_,_,_,_,E⟩;rw[Gu] at E;cases E
  rintro n1 u y ⟨k,o,af,ag,p,q,j,z,ah,E⟩;refine AI ?_ p q;clear p q y u;rw[Gu] at E;refine AU ?_;refine AF O E (λZ E=>?_) (λZ E=>?_)
  ·refine AU ?_;refine AZ (AU ?_);have ab:=Y.mono' z;refine A9 E O O ab sl_29.1 O λA E ai aj=>AU ?_;obtain⟨ak,C,E⟩:=bd E;refine BT j mh O O sl_29.1 C O λal D=>?_;obtain⟨F,G,E⟩:=bd E;have ac:=j.epAt mh G Co.id D;refine C8 FC (λ_ x=>x) O ac ty_3.1 O λam=>AU ?_;obtain⟨an,H,E⟩:=bd E;refine BT j mh O O sl_29.1 H O λao I=>AU ?_;obtain⟨ad,J,E⟩:=bd E;refine De (r:=AB) (l:=o) (i:=k) (x:=ad) O O (⟨_,O,O,(BF _)⟩:Rd _ _ AB _ (BG (F-A))) I J MT.id ty_3.1 (λ_=>rfl) j .head λap K aq=>AU ?_;refine BD (AU ?_);refine WF.nil (λu y p q=>?_);exact⟨(BG (k+1)),(upd o k (BG (F-A))),_,_,p.sub (kp [15,14,5,16] O),q,K,EX,(BF _),E⟩
  refine A8 O (λu y p q=>?_);exact⟨o,_,_,p.sub (kp [5] O),q,j,z,E⟩
 rintro u y ⟨t,ar,au,p,q,M,av,E⟩;refine AI ?_ p q;clear p q y u;rw[IE] at E;refine AU ?_;cases E;exact KN M O O EX
def Q7 (hs:St S L h) {d:Value}{c:(List Int)}(n:Sl S h AB d c) {b:Int}(g:AA b) {j:Int}(t:AA j) {r:(List Int)×(List Int)}(E:NS N c b j=some r):
 B0 prog 216 #[d,vI b,vI j] S h (λv S' h'=>∃A C:Value,v= .tuple #[A,C]∧St S' (OS AB 3 A r.1::OS AB 3 C r.2::L) h'):=by
 refine BA 27 func216 O ntmps216 O λB=>?_;rw[NS] at E;refine AU ?_;obtain⟨W,E⟩:=LA E;refine I7 (r:=AB) (zx:=0) GC O ⟨O,by unfold AA;omega⟩ O O W O O hs λv3 h4 D e6=>AU ?_;refine BZ (.inl O) D (AU ?_);have k7:=n.mono' e6;refine CC E O O O V2 O (λX Y h' o=>Oz (St.all h') (k7.mono' (o.all D.1)) g Y) λX E r9=>?_;have Z:=r9;refine Tj O O O (AU ?_);refine BL (kp [8,6,0,1] O) λF q aj=>AU ?_;refine EZ (λa w=>∃(z:List Int),IV B S F (27,[]) a w [(6,v3),(0,d)] (OS AB 3 v3 z::L) λ_ _=>KB N c z=some r) ?_ ?_
 ·refine AF O E (λab E=>?_) (λab E=>?_)
  ·refine AU ?_;obtain⟨ak,G,E⟩:=bd E;refine BT q mh O O sl_29.1 G O λal H=>AU ?_;obtain⟨ac,I,E⟩:=bd E;refine De (r:=AB) (l:=(List.replicate ((↑c.length:Int):Int).toNat (0:Int))) (i:=b) (x:=ac) O O (⟨_,O,O,(MM t Z)⟩:Rd _ _ AB _ (min j X)) H I MT.id ty_3.1 (λ_=>rfl) q .head λam J ad=>AU ?_;refine WF.nil (λU V s u=>?_);exact⟨(upd (List.replicate ((↑c.length:Int):Int).toNat (0:Int)) b (min j X)),_,_,s.sub (kp [6,0] O),u,J,ad,E⟩
  refine AU ?_;refine WF.nil (λU V s u=>?_);exact⟨(List.replicate ((↑c.length:Int):Int).toNat (0:Int)),_,_,s.sub (kp [6,0] O),u,q,(B6.refl S F),E⟩
 rintro U V ⟨z,an,ao,s,u,m,ap,E⟩;refine AI ?_ s u;clear s u V U;rw[KB] at E;refine AU ?_;refine B5 (AU ?_);have ae:=n.nw;refine CS E O O O Vt O m (λaf K=>MK (St.all _) (ae.mono m.ea.1 m.ea.2) (m.oslAll mh) K) λaf E aq ar au ai ag ah p=>?_;have M:=p;have y:=m.join ah M ⟨OS.flat (λ{_ _ _ _ _ _} k=>k),trivial⟩;simp only[gZ,gQ] at y;refine AU ?_;refine BS (λU V s u=>?_);have Q:=y.sel [1,0] 0 O;cases E;exact Hk s O u (Eg (GE s (v:=_) O) (Eg (GE s (v:=_) O) Hj)) O ((e6.trans EX).trans ag) ⟨_,_,O,Q⟩
def M2 (q:St S L h) {a:Value}{b:(List Int)}(c:Sl S h AB a b) {d:Value}{l:I0}(g:Pt S h D3 d l) {r:(List Int)×(List Int)}(E:Ee N l b=some r):
 B0 prog 215 #[a,d] S h (λv S' h'=>∃m n:Value,v= .tuple #[m,n]∧St S' (OS AB 3 m r.1::OS AB 3 n r.2::L) h'):=by
 refine BA 13 func215 O ntmps215 O λB=>?_;rw[Ee] at E;refine AU ?_;refine B5 ?_;have y:=g.fl OI;have z:=y.i;have A:=g.fl I0.f_Litres;have C:=A.i;refine AU ?_;refine CS E O O O ZV O q (λD s=>Q7 (St.all _) (c.mono q.ea.1 q.ea.2) z C s) λD E J K F x t u p=>?_;obtain⟨G,H,rfl,o⟩:=p;have j:=q.join u o ⟨OS.flat (λ{_ _ _ _ _ _} k=>k),⟨OS.flat (λ{_ _ _ _ _ _} k=>k),trivial⟩⟩;simp only[gZ,gQ] at j;refine AU ?_;refine BS (λM Q w I=>?_);cases E;exact Hk w O I (Eg (GE w (v:=_) O) (Eg (GE w (v:=_) O) Hj)) O t ⟨_,_,O,j⟩
def N0 {ai:Nat}{p0_w:A5}{V:Value}{ab:Value}{ac:Value}{ad:Value}{ae:Value}{af:Value}{ag:Value}{ah:Value}{u:Value}{z:Value}{D:Value}{t:Value}{M:Value}{c:Value}{d:Value}{g:Value}{i:Value}{j:Value}{k:Value}{m:Value}{p:Value}{q:Value}(hs:St S (Bx ai 160 [.string p0_w.b.C,V,vI p0_w.b.H,ab,ac,ad,ae,af,ag,ah,vI p0_w.b.G,u,z,D,t,M,vI p0_w.s.A,c,d,g,i,j,k,m,p,q]::OS (BB.sl AB) 29 c p0_w.s.F::OS AB 3 d p0_w.s.K::OS A3 121 g p0_w.s.P::OS BK 106 i p0_w.s.Q::OS AB 3 j p0_w.s.O::OS AB 3 k p0_w.s.N::OS BJ 74 m p0_w.moves::OS AB 3 p p0_w.peaks::OS A3 121 q p0_w.sent::L) h) (bb:p0_w.b.C.size≤maxLen) (au:Sl S h BB.str V p0_w.b.I) (bc:AA p0_w.b.H) (am:Sl S h BX ab p0_w.b.E) (be:Sl S h Bu ac p0_w.b.J) (bf:Sl S h DL ad p0_w.b.U) (bg:Sl S h Cw ae p0_w.b.W) (bh:Sl S h DM af p0_w.b.Y) (bi:Sl S h Cd ag p0_w.b.Z) (bj:Sl S h AB ah p0_w.b.X) (a2:AA p0_w.b.G) (a3:Sl S h AB u p0_w.in_.Aa) (a4:Sl S h D0 z p0_w.in_.Ai) (a5:Sl S h H2 D p0_w.in_.Aj) (aq:Sl S h D3 t p0_w.in_.Ak) (a6:Sl S h Ea M p0_w.in_.Ag) (a7:AA p0_w.s.A) {an:Int}(b4:AA an) {r:(List AE)}(E:Jv N p0_w an=some r):
 B0 prog 165 #[vP ai 0,vI an] S h (λv S' h'=>St S' (OS A0 259 v r::Bx ai 160 [.string p0_w.b.C,V,vI p0_w.b.H,ab,ac,ad,ae,af,ag,ah,vI p0_w.b.G,u,z,D,t,M,vI p0_w.s.A,c,d,g,i,j,k,m,p,q]::OS (BB.sl AB) 29 c p0_w.s.F::OS AB 3 d p0_w.s.K::OS A3 121 g p0_w.s.P::OS BK 106 i p0_w.s.Q::OS AB 3 j p0_w.s.O::OS AB 3 k p0_w.s.N::OS BJ 74 m p0_w.moves::OS AB 3 p p0_w.peaks::OS A3 121 q p0_w.sent::L) h'):=by
 refine BA 85 func165 O ntmps165 O λB=>?_;rw[Jv] at E;refine AU ?_;refine AK (λa w=>∃(v2:Value) (l3:List AE),IV B S h (85,[]) a w [(5,v2)] (OS A0 259 v2 l3::Bx ai 160 [.string p0_w.b.C,V,vI p0_w.b.H,ab,ac,ad,ae,af,ag,ah,vI p0_w.b.G,u,z,D,t,M,vI p0_w.s.A,c,d,g,i,j,k,m,p,q]::OS (BB.sl AB) 29 c p0_w.s.F::OS AB 3 d p0_w.s.K::OS A3 121 g p0_w.s.P::OS BK 106 i p0_w.s.Q::OS AB 3 j p0_w.s.O::OS AB 3 k p0_w.s.N::OS BJ 74 m p0_w.moves::OS AB 3 p p0_w.peaks::OS A3 121 q p0_w.sent::L) λ_ _=>FK N l3=some r) ?_ ?_
 ·refine AY (λn1=>λa w=>∃(v8:Value) (l9:List AE) (ar:Int),IV B S h (85,[]) a w [(13,vI (↑p0_w.in_.Ak.length:Int)),(12,t),(0,vP ai 0),(1,vI an),(5,v8),(14,vI ar)] (OS A0 259 v8 l9::Bx ai 160 [.string p0_w.b.C,V,vI p0_w.b.H,ab,ac,ad,ae,af,ag,ah,vI p0_w.b.G,u,z,D,t,M,vI p0_w.s.A,c,d,g,i,j,k,m,p,q]::OS (BB.sl AB) 29 c p0_w.s.F::OS AB 3 d p0_w.s.K::OS A3 121 g p0_w.s.P::OS BK 106 i p0_w.s.Q::OS AB 3 j p0_w.s.O::OS AB 3 k p0_w.s.N::OS BJ 74 m p0_w.moves::OS AB 3 p p0_w.peaks::OS A3 121 q p0_w.sent::L) λ_ _=>AA ar∧Cy N p0_w an (FK N) n1 l9 ar=some r) N ?_ ?_ ?_
  ·intro aa ww hf hw;have bk:=hs.nil A0 259;exact⟨(vN),([]:List AE),0,_,_,hf.sub (kp [13,12,0,1,5,14] O),hw,bk,(B6.refl S h),(iq (n:=0) O),E⟩
  ·rintro aa ww ⟨_,_,_,_,_,_,_,_,_,_,E⟩;rw[Cy] at E;cases E
  rintro n1 aa ww ⟨v8,l9,ar,b5,b6,hf,hw,ay,bl,c4,E⟩;refine AI ?_ hf hw;clear hf hw ww aa;rw[Cy] at E;refine AU ?_;refine AF O E (λb7 E=>?_) (λb7 E=>?_)
  ·refine AU ?_;refine AK (λa w=>∃(av:Value) (aw:List AE),IV B b5 b6 (85,[]) a w [(13,vI (↑p0_w.in_.Ak.length:Int)),(12,t),(0,vP ai 0),(1,vI an),(14,vI ar),(5,av)] (OS A0 259 av aw::Bx ai 160 [.string p0_w.b.C,V,vI p0_w.b.H,ab,ac,ad,ae,af,ag,ah,vI p0_w.b.G,u,z,D,t,M,vI p0_w.s.A,c,d,g,i,j,k,m,p,q]::OS (BB.sl AB) 29 c p0_w.s.F::OS AB 3 d p0_w.s.K::OS A3 121 g p0_w.s.P::OS BK 106 i p0_w.s.Q::OS AB 3 j p0_w.s.O::OS AB 3 k p0_w.s.N::OS BJ 74 m p0_w.moves::OS AB 3 p p0_w.peaks::OS A3 121 q p0_w.sent::L) λ_ _=>FJ N ar (Cy N p0_w an (FK N) n1) aw=some r) ?_ ?_
   ·refine AU ?_;have b8:=aq.mono' bl;refine A9 E O O b8 sl_57.1 O λap E c5 b9=>?_;obtain⟨c6,_,ca⟩:=b9.lv;refine AU ?_;refine CG YR O ay λax c7 bm cb=>?_;have cc:=ca.mono cb;obtain⟨rfl,⟨cd,bn,ce,a8⟩⟩:=D3.ex cc;refine CV O O O O ty_243.1 O bm .head O λc8 bo c9=>AU ?_;refine BZ (.inr ⟨mo,by kernel_rfl⟩) bo (AU ?_);obtain⟨cf,ao,E⟩:=bd E;refine AS 11 33 (.bool cf) ?_ ?_
    ·cases bp:(decide (ap.Ab≠an))
     ·have ao:=Em bp ao;have cg:=au.nw;have ch:=cg.le;refine AU ?_;refine BC ao O O O NZ O (λci bq h' o=>FH (St.all h') bn (Jb ch) bq) λci ao=>AU ?_;cases ao;exact AQ O
     have ao:=El bp ao;cases ao;exact A6 O O
    refine AU ?_;refine BL (kp [38,7,13,12,0,1,5,14] O) λda az db=>AF O E (λcj E=>?_) (λcj E=>?_)
    ·refine A8 O (λaa ww hf hw=>?_);have br:=az.sel [1,1,1,1,1,1,1,1,1,1,1] 1 O;exact⟨v8,l9,_,_,hf.sub (kp [13,12,0,1,14,5] O),hw,br,EX,E⟩
    refine AU ?_;refine BZ (.inr ⟨mo,by kernel_rfl⟩) az (AU ?_);obtain⟨ck,aj,E⟩:=bd E;refine AS 33 75 (.bool ck) ?_ ?_
    ·cases bs:(decide (ap.B≠(-1)))
     ·have aj:=Em bs aj;cases aj;exact A6 O O
     have aj:=El bs aj;have cl:=am.nw;have cm:=cl.le;refine AU ?_;refine BC aj O O O NZ O (λbt bu h' o=>FH (St.all h') a8 (Jb cm) bu) λbt aj=>AU ?_;obtain⟨cn,ak,aj⟩:=bd aj;refine AS 21 74 (.bool cn) ?_ ?_
     ·cases bv:(!bt)
      ·have ak:=Em bv ak;refine AU ?_;have co:=am.nw;refine A9 ak O O co sl_23.1 O λdc ak dd de=>AU ?_;have cp:=am.nw;refine A9 ak O O cp sl_23.1 O λdf ak dg dh=>AU ?_;cases ak;exact AQ O
      have ak:=El bv ak;cases ak;exact A6 O O
     refine AU ?_;cases aj;exact AQ O
    refine BL (kp [75,7,13,12,0,1,5,14] O) λcq a1 di=>AF O E (λcr E=>?_) (λcr E=>?_)
    ·refine A8 O (λaa ww hf hw=>?_);have bw:=a1.sel [1,1,1,1,1,1,1,1,1,1,1] 1 O;exact⟨v8,l9,_,_,hf.sub (kp [13,12,0,1,14,5] O),hw,bw,EX,E⟩
    refine AU ?_;refine Nk O O O (Dd (cs:=[vI ap.B,vI 0,vI (-3),.func (.func 215) #[] #[vP ax 0]]) PG O O O (AU ?_));obtain⟨ct,bx,dj,cu⟩:=a1.pubb (r:=D3) (x:=ap) .head ⟨O,⟨cd,bn,ce,a8⟩⟩;have bz:Rd ct cq (BB.fnr prog (λS h vs (x:(List Int))=>∃w0:Value,vs=[w0]∧Sl S h AB w0 x) (λS h v (y:((List Int)×(List Int)))=>∃w0 w1:Value,v= .tuple #[w0,w1]∧Sl S h AB w0 y.1∧Sl S h AB w1 y.2)) (.func (.func 215) #[] #[(vP ax 0)]) (λx=>Ee N ap x):=MU 215 #[(vP ax 0)] ZW λS' h' s' e' L hs x y vs h1 h2=>by obtain⟨w0,rfl,a0⟩:=h1;exact Ns (M2 hs a0 (cu.mono'' s' e') h2)
    refine Df (cs:=[vI ap.B,vI 0,vI (-3),(.func (.func 215) #[] #[(vP ax 0)])]) L7 O O O O O O O bx λdk dl b0 cv=>?_;obtain⟨b1,E⟩:=LA E;have cw:=bz.mono cv;refine JX (r:=A0) (l:=l9) (xs:=([(⟨ap.B,0,(-3),(λx=>Ee N ap x)⟩:AE)]:List AE)) O O L7 O mh ⟨_,_,O,⟨_,O,a8,(iq (n:=0) O),(iq (n:=(-3)) O),cw⟩,O⟩ O O b1 O b0 (λ_=>(.tail .head)) λcx dm b2 dn=>?_;have b3:=b2.drop .head;refine AU ?_;refine WF.nil (λaa ww hf hw=>?_);exact⟨cx,(l9++([(⟨ap.B,0,(-3),(λx=>Ee N ap x)⟩:AE)]:List AE)),_,_,hf.sub (kp [13,12,0,1,14,5] O),hw,b3,EX,E⟩
   rintro aa ww ⟨av,aw,cy,cz,hf,hw,a9,c0,E⟩;refine AI ?_ hf hw;clear hf hw ww aa;rw[FJ] at E;refine AU ?_;refine WF.nil (λaa ww hf hw=>?_);exact⟨av,aw,(BG (ar+1)),_,_,hf.sub (kp [13,12,0,1,5,14] O),hw,a9,EX,(BF _),E⟩
  refine A8 O (λaa ww hf hw=>?_);exact⟨v8,l9,_,_,hf.sub (kp [5] O),hw,ay,bl,E⟩
 rintro aa ww ⟨v2,l3,c1,c2,hf,hw,ba,c3,E⟩;refine AI ?_ hf hw;clear hf hw ww aa;rw[FK] at E;refine AU ?_;cases E;exact KN ba O O EX
def K0 (i:St S L h) {a:Int}(c:IntKind.has .u64 a) {b:Int}(d:IntKind.has .u64 b) {r:Int×Int}(E:IF N a b=some r):
 B0 prog 266 #[.int .u64 a,.int .u64 b] S h (λv S' h'=>v= .tuple #[.int .u64 r.1,.int .u64 r.2]∧IntKind.has .u64 r.1∧IntKind.has .u64 r.2∧St S' (L) h'):=by
 refine BA 51 func266 O ntmps266 O λB=>?_;rw[IF] at E;refine AU ?_;refine HH (j:=32) O O O O (AU ?_);refine HH (j:=32) O O O O (AU ?_);refine HH (j:=32) O O O O (AU ?_);refine HH (j:=32) O O O O (AU ?_);refine HH (j:=32) O O O O (AU ?_);refine BS (λl m g k=>?_);cases E;exact Hk g O k (Eg (GE g (v:=_) O) (Eg (GE g (v:=_) O) Hj)) O (B6.refl S h) ⟨O,(CT _ _),(CT _ _),i⟩
def N6 (I:St S L h) {d:Int}(g:IntKind.has .u64 d) {r:Int}(E:KC N d=some r):
 B0 prog 302 #[.int .u64 d] S h (λv S' h'=>v=vI r∧AA r∧St S' (L) h'):=by
 refine BA 25 func302 O ntmps302 O λB=>?_;rw[KC] at E;refine AU ?_;refine EZ (λa w=>∃(x:Int) (y:Int),IV B S h (25,[]) a w [(0,.int .u64 x),(2,vI y)] (L) λ_ _=>IntKind.has .u64 x∧AA y∧Gx N x y=some r) ?_ ?_
 ·refine AF O E (λM E=>?_) (λM E=>?_)
  ·refine AU ?_;refine HH (j:=32) O O O O (AU ?_);refine WF.nil (λl m b c=>?_);exact⟨(Dn .u64 d 32),32,_,_,b.sub (kp [0,2] O),c,I,(B6.refl S h),(O1 _ g _),(iq (n:=32) O),E⟩
  refine AU ?_;refine WF.nil (λl m b c=>?_);exact⟨d,0,_,_,b.sub (kp [0,2] O),c,I,(B6.refl S h),g,(iq (n:=0) O),E⟩
 rintro l m ⟨x,y,C,D,b,c,z,e9,J,Q,E⟩;refine AI ?_ b c;clear b c m l;rw[Gx] at E;refine AU ?_;refine EZ (λa w=>∃(i:Int) (k:Int),IV B C D (25,[]) a w [(0,.int .u64 i),(2,vI k)] (L) λ_ _=>IntKind.has .u64 i∧AA k∧Gw N i k=some r) ?_ ?_
 ·refine AF O E (λF E=>?_) (λF E=>?_)
  ·refine AU ?_;refine HH (j:=16) O O O O (AU ?_);refine WF.nil (λl m b c=>?_);exact⟨(Dn .u64 x 16),(BG (y+16)),_,_,b.sub (kp [0,2] O),c,z,(B6.refl C D),(O1 _ J _),(BF _),E⟩
  refine AU ?_;refine WF.nil (λl m b c=>?_);exact⟨x,y,_,_,b.sub (kp [0,2] O),c,z,(B6.refl C D),J,Q,E⟩
 rintro l m ⟨i,k,t,u,b,c,q,U,A,G,E⟩;refine AI ?_ b c;clear b c m l;rw[Gw] at E;refine AU ?_;refine EZ (λa w=>∃(o:Int) (p:Int),IV B t u (25,[]) a w [(0,.int .u64 o),(2,vI p)] (L) λ_ _=>IntKind.has .u64 o∧AA p∧Gv N o p=some r) ?_ ?_
 ·refine AF O E (λH E=>?_) (λH E=>?_)
  ·refine AU ?_;refine HH (j:=8) O O O O (AU ?_);refine WF.nil (λl m b c=>?_);exact⟨(Dn .u64 i 8),(BG (k+8)),_,_,b.sub (kp [0,2] O),c,q,(B6.refl t u),(O1 _ A _),(BF _),E⟩
  refine AU ?_;refine WF.nil (λl m b c=>?_);exact⟨i,k,_,_,b.sub (kp [0,2] O),c,q,(B6.refl t u),A,G,E⟩
 rintro l m ⟨o,p,V,W,b,c,K,X,Y,Z,E⟩;refine AI ?_ b c;clear b c m l;rw[Gv] at E;refine AU ?_;refine Ca O Fi TK O ?_;obtain⟨ab,s,E⟩:=bd E;have ac:=Kj s;exact Kl O O LG s O (Ca O TK Jp O (RT))
def Ku (d:St S L h) {a:Int}(b:IntKind.has .u64 a) {r:Int}(E:GM N a=some r):
 B0 prog 289 #[.int .u64 a] S h (λv S' h'=>v=vI r∧AA r∧St S' (L) h'):=by
 refine BA 6 func289 O ntmps289 O λB=>?_;rw[GM] at E;refine AU ?_;refine BZ (.inl O) d (AU ?_);refine CC E O O O Y7 O (λg c h' o=>N6 (St.all h') b c) λg E i=>?_;have k:=i;refine AU ?_;exact BL (kp [2] O) λl j m=>RT
def K1 (hs:St S L h) {d:Int}(X:IntKind.has .u64 d) {b:Int}(x:IntKind.has .u64 b) {c:Int}(D:IntKind.has .u64 c) {r:Int×Int}(E:IG N d b c=some r):
 B0 prog 267 #[.int .u64 d,.int .u64 b,.int .u64 c] S h (λv S' h'=>v= .tuple #[.int .u64 r.1,.int .u64 r.2]∧IntKind.has .u64 r.1∧IntKind.has .u64 r.2∧St S' (L) h'):=by
 refine BA 135 func267 O ntmps267 O λB=>?_;rw[IG] at E;refine AU ?_;refine AF O E (λc1 E=>?_) (λc1 E=>?_)
 ·cases E
 refine AU ?_;refine AF O E (λc2 E=>?_) (λc2 E=>?_)
 ·cases E
 refine AU ?_;refine AF O E (λc3 E=>?_) (λc3 E=>?_)
 ·refine AU ?_;refine EF (.inr ⟨mo,by kernel_rfl⟩) (AU ?_);obtain⟨z4,Y,E⟩:=bd E;have r5:IntKind.has .u64 z4:=QP Y;refine SD O O O Y (AU ?_);obtain⟨z6,Z,E⟩:=bd E;have r7:IntKind.has .u64 z6:=VX x Z;refine XP O O O Z (AU ?_);refine BS (λq s i l=>?_);cases E;exact Hk i O l (Eg (GE i (v:=_) O) (Eg (GE i (v:=_) O) Hj)) O (B6.refl S h) ⟨O,r5,r7,hs⟩
 refine AU ?_;refine BZ (.inl O) hs (AU ?_);refine CC E O O O ZA O (λF aj h' o=>Ku (St.all h') D aj) λF E r9=>?_;have av:=r9;refine Ca O Jp TL O (AU ?_);refine BL (kp [8,0,1,2] O) λJ ab aw=>AU ?_;obtain⟨g,ac,E⟩:=bd E;refine P7 (j:=g) O O O ac (AU ?_);refine HH (j:=32) O O O O (AU ?_);obtain⟨m,ad,E⟩:=bd E;refine P7 (j:=m) O O O ad (AU ?_);obtain⟨n,ae,E⟩:=bd E;refine HH (j:=n) O O O ae (WM O O O (AU ?_));obtain⟨k,af,E⟩:=bd E;refine P7 (j:=k) O O O af (AU ?_);refine HH (j:=32) O O O O (AU ?_);obtain⟨K,H,E⟩:=bd E;have ak:IntKind.has .u64 K:=QP H;refine SD O O O H (AU ?_);refine AK (λa w=>∃(p:Int),IV B S J (135,[]) a w [(14,.int .u64 (EH .and .u64 (ED .u64 b k) 4294967295)),(13,.int .u64 (Dn .u64 (ED .u64 b k) 32)),(11,.int .u64 (EH .or .u64 (ED .u64 d m) (Dn .u64 b n))),(10,.int .u64 (EH .and .u64 (ED .u64 c g) 4294967295)),(9,.int .u64 (Dn .u64 (ED .u64 c g) 32)),(2,.int .u64 (ED .u64 c g)),(8,.int .u64 (IntKind.wrap .u64 F)),(15,.int .u64 p)] (L) λ_ _=>IntKind.has .u64 p∧Gz N d b c F g m n k p=some r) ?_ ?_
 ·refine AY (λn1=>λa w=>∃(t:Int) (y:Int),IV B S J (135,[]) a w [(14,.int .u64 (EH .and .u64 (ED .u64 b k) 4294967295)),(13,.int .u64 (Dn .u64 (ED .u64 b k) 32)),(11,.int .u64 (EH .or .u64 (ED .u64 d m) (Dn .u64 b n))),(10,.int .u64 (EH .and .u64 (ED .u64 c g) 4294967295)),(9,.int .u64 (Dn .u64 (ED .u64 c g) 32)),(2,.int .u64 (ED .u64 c g)),(8,.int .u64 (IntKind.wrap .u64 F)),(15,.int .u64 t),(16,.int .u64 y)] (L) λ_ _=>IntKind.has .u64 t∧IntKind.has .u64 y∧FV N b c g k (Gz N d b c F g m n k) n1 t y=some r) N ?_ ?_ ?_
  ·intro q s i l;exact⟨K,(IntKind.wrap .u64 ((EH .or .u64 (ED .u64 d m) (Dn .u64 b n))-(IntKind.wrap .u64 (K*(Dn .u64 (ED .u64 c g) 32))))),_,_,i.sub (kp [14,13,11,10,9,2,8,15,16] O),l,ab,(B6.refl S J),ak,(CT _ _),E⟩
  ·rintro q s ⟨_,_,_,_,_,_,_,_,_,_,E⟩;rw[FV] at E;cases E
  rintro n1 q s ⟨t,y,ax,ay,i,l,z,M,al,az,E⟩;refine AI ?_ i l;clear i l s q;rw[FV] at E;refine AU ?_;refine AF O E (λam E=>?_) (λam E=>?_)
  ·refine AU ?_;refine AZ (AU ?_);refine AF O E (λan E=>?_) (λan E=>?_)
   ·refine A8 O (λq s i l=>?_);exact⟨(IntKind.wrap .u64 (t-1)),_,_,i.sub (kp [14,13,11,10,9,2,8,15] O),l,z,M,(CT _ _),E⟩
   refine AU ?_;refine BD (WF.nil (λq s i l=>?_));exact⟨(IntKind.wrap .u64 (t-1)),(IntKind.wrap .u64 (y+(Dn .u64 (ED .u64 c g) 32))),_,_,i.sub (kp [14,13,11,10,9,2,8,15,16] O),l,z,M,(CT _ _),(CT _ _),E⟩
  refine A8 O (λq s i l=>?_);exact⟨t,_,_,i.sub (kp [14,13,11,10,9,2,8,15] O),l,z,M,al,E⟩
 rintro q s ⟨p,Q,U,i,l,ag,a0,a1,E⟩;refine AI ?_ i l;clear i l s q;rw[Gz] at E;refine AU ?_;obtain⟨V,I,E⟩:=bd E;have ao:IntKind.has .u64 V:=QP I;refine SD O O O I (AU ?_);refine AK (λa w=>∃(G:Int),IV B Q U (135,[]) a w [(17,.int .u64 (IntKind.wrap .u64 ((IntKind.wrap .u64 ((IntKind.wrap .u64 ((EH .or .u64 (ED .u64 d m) (Dn .u64 b n))*4294967296))+(Dn .u64 (ED .u64 b k) 32)))-(IntKind.wrap .u64 (p*(ED .u64 c g)))))),(14,.int .u64 (EH .and .u64 (ED .u64 b k) 4294967295)),(2,.int .u64 (ED .u64 c g)),(8,.int .u64 (IntKind.wrap .u64 F)),(15,.int .u64 p),(18,.int .u64 G)] (L) λ_ _=>IntKind.has .u64 G∧Gy N d b c F g m n k p G=some r) ?_ ?_
 ·refine AY (λn3=>λa w=>∃(A:Int) (u:Int),IV B Q U (135,[]) a w [(17,.int .u64 (IntKind.wrap .u64 ((IntKind.wrap .u64 ((IntKind.wrap .u64 ((EH .or .u64 (ED .u64 d m) (Dn .u64 b n))*4294967296))+(Dn .u64 (ED .u64 b k) 32)))-(IntKind.wrap .u64 (p*(ED .u64 c g)))))),(14,.int .u64 (EH .and .u64 (ED .u64 b k) 4294967295)),(10,.int .u64 (EH .and .u64 (ED .u64 c g) 4294967295)),(9,.int .u64 (Dn .u64 (ED .u64 c g) 32)),(2,.int .u64 (ED .u64 c g)),(8,.int .u64 (IntKind.wrap .u64 F)),(15,.int .u64 p),(16,.int .u64 A),(18,.int .u64 u)] (L) λ_ _=>IntKind.has .u64 A∧IntKind.has .u64 u∧FU N b c g k (Gy N d b c F g m n k p) n3 A u=some r) N ?_ ?_ ?_
  ·intro q s i l;exact⟨(IntKind.wrap .u64 ((IntKind.wrap .u64 ((IntKind.wrap .u64 ((IntKind.wrap .u64 ((EH .or .u64 (ED .u64 d m) (Dn .u64 b n))*4294967296))+(Dn .u64 (ED .u64 b k) 32)))-(IntKind.wrap .u64 (p*(ED .u64 c g)))))-(IntKind.wrap .u64 (V*(Dn .u64 (ED .u64 c g) 32))))),V,_,_,i.sub (kp [17,14,10,9,2,8,15,16,18] O),l,ag,(B6.refl Q U),(CT _ _),ao,E⟩
  ·rintro q s ⟨_,_,_,_,_,_,_,_,_,_,E⟩;rw[FU] at E;cases E
  rintro n3 q s ⟨A,u,a2,a3,i,l,C,W,a4,ap,E⟩;refine AI ?_ i l;clear i l s q;rw[FU] at E;refine AU ?_;refine AF O E (λaq E=>?_) (λaq E=>?_)
  ·refine AU ?_;refine AZ (AU ?_);refine AF O E (λar E=>?_) (λar E=>?_)
   ·refine A8 O (λq s i l=>?_);exact⟨(IntKind.wrap .u64 (u-1)),_,_,i.sub (kp [17,14,2,8,15,18] O),l,C,W,(CT _ _),E⟩
   refine AU ?_;refine BD (WF.nil (λq s i l=>?_));exact⟨(IntKind.wrap .u64 (A+(Dn .u64 (ED .u64 c g) 32))),(IntKind.wrap .u64 (u-1)),_,_,i.sub (kp [17,14,10,9,2,8,15,16,18] O),l,C,W,(CT _ _),(CT _ _),E⟩
  refine A8 O (λq s i l=>?_);exact⟨u,_,_,i.sub (kp [17,14,2,8,15,18] O),l,C,W,ap,E⟩
 rintro q s ⟨G,a5,a6,i,l,ah,a7,a8,E⟩;refine AI ?_ i l;clear i l s q;rw[Gy] at E;refine AU ?_;obtain⟨au,ai,E⟩:=bd E;refine HH (j:=au) O O O ai (AU ?_);refine BS (λq s i l=>?_);cases E;exact Hk i O l (Eg (GE i (v:=_) O) (Eg (GE i (v:=_) O) Hj)) O EX ⟨O,(CT _ _),(O1 _ (CT _ _) _),ah⟩
end Go.Proofs.YtedgiljmffngoaaGreat
