import Derived.Test.YtedgiljmffngoaaGreatHInst
import Derived.Test.YtedgiljmffngoaaGreatHWalk1
namespace Go.Proofs.YtedgiljmffngoaaGreat
set_option linter.all false
open Go.RowKit
open Go.Proofs.Tryz
set_option maxRecDepth 10000
set_option maxHeartbeats 2000000
variable {N:Nat}{S:Nat→Prop}{L:List HP}{h:AV}
def Nc (hs:St S L h) {m:Value}{d:(List Int)}(s:Sl S h AC m d) {b:Value}{c:(List Int)}(g:Sl S h AC b c) {r:(List Int)}(E:IC N d c=some r):
 B3 prog 268 #[m,b] S h (λv S' h'=>St S' (OS AC 3 v r::L) h'):=by
 refine BA 30 func268 O ntmps268 O λB=>?_;rw[IC] at E;refine AU ?_;obtain⟨U,E⟩:=LQ E;refine J9 (r:=AC) (zx:=0) HZ O ⟨O,by unfold AB;omega⟩ O O U O O hs λQ h4 V e6=>AU ?_;have k7:=s.mono' e6;refine Vb (r:=AC) (l:=(List.replicate ((↑d.length:Int):Int).toNat (0:Int))) (xs:=d) O O Ct.1 (Sl.src k7) O V .head λW X ae=>?_;have Y:=g.nw;refine AU ?_;refine AO (λa w=>∃(t:List Int),IV B S W (30,[]) a w [(5,Q)] (OS AC 3 Q t::L) λ_ _=>He N t=some r) ?_ ?_
 ·refine AX (λn1=>λa w=>∃(k:Int) (o:List Int),IV B S W (30,[]) a w [(15,vI (↑c.length:Int)),(14,b),(5,Q),(16,vI k)] (OS AC 3 Q o::L) λ_ _=>AB k∧Fk N c (He N) n1 k o=some r) N ?_ ?_ ?_
  ·intro u y p q;exact⟨0,(Pj (List.replicate ((↑d.length:Int):Int).toNat (0:Int)) d),_,_,p.sub (kp [15,14,5,16] O),q,X,(B9.refl S W),(iq (n:=0) O),E⟩
  ·rintro u y ⟨_,_,_,_,_,_,_,_,_,E⟩;rw[Fk] at E;cases E
  rintro n1 u y ⟨k,o,af,ag,p,q,j,z,ah,E⟩;refine AK ?_ p q;clear p q y u;rw[Fk] at E;refine AU ?_;refine AH O E (λZ E=>?_) (λZ E=>?_)
  ·refine AU ?_;refine AY (AU ?_);have ab:=Y.mono' z;refine A6 E O O ab Ct.1 O λA E ai aj=>AU ?_;obtain⟨ak,C,E⟩:=bd E;refine BS j mh O O Ct.1 C O λal D=>?_;obtain⟨F,G,E⟩:=bd E;have ac:=j.epAt mh G F9.id D;refine Gf LD (λ_ x=>x) O ac HA.1 O λam=>AU ?_;obtain⟨an,H,E⟩:=bd E;refine BS j mh O O Ct.1 H O λao I=>AU ?_;obtain⟨ad,J,E⟩:=bd E;refine E9 (r:=AC) (l:=o) (i:=k) (x:=ad) O O (⟨_,O,O,(BH _)⟩:Rd _ _ AC _ (BC (F-A))) I J NT.id HA.1 (λ_=>rfl) j .head λap K aq=>AU ?_;refine BE (AU ?_);refine WF.nil (λu y p q=>?_);exact⟨(BC (k+1)),(upd o k (BC (F-A))),_,_,p.sub (kp [15,14,5,16] O),q,K,EX,(BH _),E⟩
  refine BB O (λu y p q=>?_);exact⟨o,_,_,p.sub (kp [5] O),q,j,z,E⟩
 rintro u y ⟨t,ar,au,p,q,M,av,E⟩;refine AK ?_ p q;clear p q y u;rw[He] at E;refine AU ?_;cases E;exact Kk M O O EX
def Tw (hs:St S L h) {d:Value}{c:(List Int)}(n:Sl S h AC d c) {b:Int}(g:AB b) {j:Int}(t:AB j) {r:(List Int)×(List Int)}(E:Lv N c b j=some r):
 B3 prog 216 #[d,vI b,vI j] S h (λv S' h'=>∃A C:Value,v= .tuple #[A,C]∧St S' (OS AC 3 A r.1::OS AC 3 C r.2::L) h'):=by
 refine BA 27 func216 O ntmps216 O λB=>?_;rw[Lv] at E;refine AU ?_;obtain⟨W,E⟩:=LQ E;refine J9 (r:=AC) (zx:=0) HZ O ⟨O,by unfold AB;omega⟩ O O W O O hs λv3 h4 D e6=>AU ?_;refine BY (.inl O) D (AU ?_);have k7:=n.mono' e6;refine B7 E O O O fJ O (λX Y h' o=>Qq (St.all h') (k7.mono' (o.all D.1)) g Y) λX E r9=>?_;have Z:=r9;refine Xc O O O (AU ?_);refine BJ (kp [8,6,0,1] O) λF q aj=>AU ?_;refine HI (λa w=>∃(z:List Int),IV B S F (27,[]) a w [(6,v3),(0,d)] (OS AC 3 v3 z::L) λ_ _=>Ix N c z=some r) ?_ ?_
 ·refine AH O E (λab E=>?_) (λab E=>?_)
  ·refine AU ?_;obtain⟨ak,G,E⟩:=bd E;refine BS q mh O O Ct.1 G O λal H=>AU ?_;obtain⟨ac,I,E⟩:=bd E;refine E9 (r:=AC) (l:=(List.replicate ((↑c.length:Int):Int).toNat (0:Int))) (i:=b) (x:=ac) O O (⟨_,O,O,(Ni t Z)⟩:Rd _ _ AC _ (min j X)) H I NT.id HA.1 (λ_=>rfl) q .head λam J ad=>AU ?_;refine WF.nil (λU V s u=>?_);exact⟨(upd (List.replicate ((↑c.length:Int):Int).toNat (0:Int)) b (min j X)),_,_,s.sub (kp [6,0] O),u,J,ad,E⟩
  refine AU ?_;refine WF.nil (λU V s u=>?_);exact⟨(List.replicate ((↑c.length:Int):Int).toNat (0:Int)),_,_,s.sub (kp [6,0] O),u,q,(B9.refl S F),E⟩
 rintro U V ⟨z,an,ao,s,u,m,ap,E⟩;refine AK ?_ s u;clear s u V U;rw[Ix] at E;refine AU ?_;refine Bv (AU ?_);have ae:=n.nw;refine CQ E O O O eZ O m (λaf K=>Nc (St.all _) (ae.mono m.ea.1 m.ea.2) (m.oslAll mh) K) λaf E aq ar au ai ag ah p=>?_;have M:=p;have y:=m.join ah M ⟨OS.flat (λ{_ _ _ _ _ _} k=>k),trivial⟩;simp only[Abw,Abj] at y;refine AU ?_;refine Bu (λU V s u=>?_);have Q:=y.sel [1,0] 0 O;cases E;exact JA s O u (G7 (IJ s (v:=_) O) (G7 (IJ s (v:=_) O) I9)) O ((e6.trans EX).trans ag) ⟨_,_,O,Q⟩
def OV (q:St S L h) {a:Value}{b:(List Int)}(c:Sl S h AC a b) {d:Value}{l:Hi}(g:Pt S h Gs d l) {r:(List Int)×(List Int)}(E:DY N l b=some r):
 B3 prog 215 #[a,d] S h (λv S' h'=>∃m n:Value,v= .tuple #[m,n]∧St S' (OS AC 3 m r.1::OS AC 3 n r.2::L) h'):=by
 refine BA 13 func215 O ntmps215 O λB=>?_;rw[DY] at E;refine AU ?_;refine Bv ?_;have y:=g.fl P5;have z:=y.i;have A:=g.fl Hi.f_Litres;have C:=A.i;refine AU ?_;refine CQ E O O O rV O q (λD s=>Tw (St.all _) (c.mono q.ea.1 q.ea.2) z C s) λD E J K F x t u p=>?_;obtain⟨G,H,rfl,o⟩:=p;have j:=q.join u o ⟨OS.flat (λ{_ _ _ _ _ _} k=>k),⟨OS.flat (λ{_ _ _ _ _ _} k=>k),trivial⟩⟩;simp only[Abw,Abj] at j;refine AU ?_;refine Bu (λM Q w I=>?_);cases E;exact JA w O I (G7 (IJ w (v:=_) O) (G7 (IJ w (v:=_) O) I9)) O t ⟨_,_,O,j⟩
def Pn {ac:Nat}{p0_w:AN}{K:Value}{U:Value}{V:Value}{W:Value}{X:Value}{Y:Value}{Z:Value}{ab:Value}{u:Value}{z:Value}{H:Value}{t:Value}{I:Value}{c:Value}{d:Value}{g:Value}{i:Value}{j:Value}{k:Value}{m:Value}{p:Value}{q:Value}(hs:St S (Bx ac 160 [.string p0_w.b.J,K,vI p0_w.b.P,U,V,W,X,Y,Z,ab,vI p0_w.b.Q,u,z,H,t,I,vI p0_w.s.B,c,d,g,i,j,k,m,p,q]::OS (A4.sl AC) 29 c p0_w.s.D::OS AC 3 d p0_w.s.M::OS AS 121 g p0_w.s.E::OS BL 106 i p0_w.s.O::OS AC 3 j p0_w.s.N::OS AC 3 k p0_w.s.L::OS BD 74 m p0_w.moves::OS AC 3 p p0_w.peaks::OS AS 121 q p0_w.sent::L) h) (a5:p0_w.b.J.size≤maxLen) (am:Sl S h A4.str K p0_w.b.F) (a6:AB p0_w.b.P) (af:Sl S h CC U p0_w.b.A) (a7:Sl S h B0 V p0_w.b.G) (a8:Sl S h Hb W p0_w.b.Ac) (a9:Sl S h Er X p0_w.b.Af) (ba:Sl S h G4 Y p0_w.b.Ag) (bb:Sl S h DI Z p0_w.b.Aj) (bc:Sl S h AC ab p0_w.b.Al) (av:AB p0_w.b.Q) (aw:Sl S h AC u p0_w.in_.Aa) (ax:Sl S h Gt z p0_w.in_.Ai) (ay:Sl S h J6 H p0_w.in_.Ak) (aj:Sl S h Gs t p0_w.in_.Ab) (az:Sl S h HJ I p0_w.in_.Ae) (a1:AB p0_w.s.B) {ag:Int}(bx:AB ag) {r:(List AD)}(E:Ib N p0_w ag=some r):
 B3 prog 165 #[vP ac 0,vI ag] S h (λv S' h'=>St S' (OS A3 259 v r::Bx ac 160 [.string p0_w.b.J,K,vI p0_w.b.P,U,V,W,X,Y,Z,ab,vI p0_w.b.Q,u,z,H,t,I,vI p0_w.s.B,c,d,g,i,j,k,m,p,q]::OS (A4.sl AC) 29 c p0_w.s.D::OS AC 3 d p0_w.s.M::OS AS 121 g p0_w.s.E::OS BL 106 i p0_w.s.O::OS AC 3 j p0_w.s.N::OS AC 3 k p0_w.s.L::OS BD 74 m p0_w.moves::OS AC 3 p p0_w.peaks::OS AS 121 q p0_w.sent::L) h'):=by
 refine BA 85 func165 O ntmps165 O λB=>?_;rw[Ib] at E;refine AU ?_;refine AO (λa w=>∃(v2:Value) (l3:List AD),IV B S h (85,[]) a w [(5,v2)] (OS A3 259 v2 l3::Bx ac 160 [.string p0_w.b.J,K,vI p0_w.b.P,U,V,W,X,Y,Z,ab,vI p0_w.b.Q,u,z,H,t,I,vI p0_w.s.B,c,d,g,i,j,k,m,p,q]::OS (A4.sl AC) 29 c p0_w.s.D::OS AC 3 d p0_w.s.M::OS AS 121 g p0_w.s.E::OS BL 106 i p0_w.s.O::OS AC 3 j p0_w.s.N::OS AC 3 k p0_w.s.L::OS BD 74 m p0_w.moves::OS AC 3 p p0_w.peaks::OS AS 121 q p0_w.sent::L) λ_ _=>DE N l3=some r) ?_ ?_
 ·refine AX (λn1=>λa w=>∃(v8:Value) (l9:List AD) (ak:Int),IV B S h (85,[]) a w [(13,vI (↑p0_w.in_.Ab.length:Int)),(12,t),(0,vP ac 0),(1,vI ag),(5,v8),(14,vI ak)] (OS A3 259 v8 l9::Bx ac 160 [.string p0_w.b.J,K,vI p0_w.b.P,U,V,W,X,Y,Z,ab,vI p0_w.b.Q,u,z,H,t,I,vI p0_w.s.B,c,d,g,i,j,k,m,p,q]::OS (A4.sl AC) 29 c p0_w.s.D::OS AC 3 d p0_w.s.M::OS AS 121 g p0_w.s.E::OS BL 106 i p0_w.s.O::OS AC 3 j p0_w.s.N::OS AC 3 k p0_w.s.L::OS BD 74 m p0_w.moves::OS AC 3 p p0_w.peaks::OS AS 121 q p0_w.sent::L) λ_ _=>AB ak∧CH N p0_w ag (DE N) n1 l9 ak=some r) N ?_ ?_ ?_
  ·intro aa ww hf hw;have be:=hs.nil A3 259;exact⟨(vN),([]:List AD),0,_,_,hf.sub (kp [13,12,0,1,5,14] O),hw,be,(B9.refl S h),(iq (n:=0) O),E⟩
  ·rintro aa ww ⟨_,_,_,_,_,_,_,_,_,_,E⟩;rw[CH] at E;cases E
  rintro n1 aa ww ⟨v8,l9,ak,bz,b0,hf,hw,aq,bf,cy,E⟩;refine AK ?_ hf hw;clear hf hw ww aa;rw[CH] at E;refine AU ?_;refine AH O E (λb1 E=>?_) (λb1 E=>?_)
  ·refine AU ?_;refine AO (λa w=>∃(an:Value) (ao:List AD),IV B bz b0 (85,[]) a w [(13,vI (↑p0_w.in_.Ab.length:Int)),(12,t),(0,vP ac 0),(1,vI ag),(14,vI ak),(5,an)] (OS A3 259 an ao::Bx ac 160 [.string p0_w.b.J,K,vI p0_w.b.P,U,V,W,X,Y,Z,ab,vI p0_w.b.Q,u,z,H,t,I,vI p0_w.s.B,c,d,g,i,j,k,m,p,q]::OS (A4.sl AC) 29 c p0_w.s.D::OS AC 3 d p0_w.s.M::OS AS 121 g p0_w.s.E::OS BL 106 i p0_w.s.O::OS AC 3 j p0_w.s.N::OS AC 3 k p0_w.s.L::OS BD 74 m p0_w.moves::OS AC 3 p p0_w.peaks::OS AS 121 q p0_w.sent::L) λ_ _=>GN N ak (CH N p0_w ag (DE N) n1) ao=some r) ?_ ?_
   ·refine AU ?_;have b2:=aj.mono' bf;refine A6 E O O b2 vG.1 O λai E cz b3=>?_;obtain⟨c0,_,b4⟩:=b3.lv;refine AU ?_;refine CF oA O aq λap c1 bg b5=>?_;have b6:=b4.mono b5;obtain⟨rfl,⟨b7,bh,b8,a2⟩⟩:=Gs.ex b6;refine C7 O O O O oQ.1 O bg .head O λc2 bi c3=>AU ?_;refine BY (.inr ⟨mo,by kernel_rfl⟩) bi (AU ?_);obtain⟨b9,ah,E⟩:=bd E;refine AZ 11 33 (.bool b9) ?_ ?_
    ·cases bj:(decide (ai.Aq≠ag))
     ·have ah:=G3 bj ah;have ca:=am.nw;have cb:=ca.le;refine AU ?_;refine A8 ah O O O PH O (λcc bk h' o=>HT (St.all h') bh (KZ cb) bk) λcc ah=>AU ?_;cases ah;exact A0 O
     have ah:=G2 bj ah;cases ah;exact BG O O
    refine AU ?_;refine BJ (kp [38,7,13,12,0,1,5,14] O) λc4 ar c5=>AH O E (λcd E=>?_) (λcd E=>?_)
    ·refine BB O (λaa ww hf hw=>?_);have bl:=ar.sel [1,1,1,1,1,1,1,1,1,1,1] 1 O;exact⟨v8,l9,_,_,hf.sub (kp [13,12,0,1,14,5] O),hw,bl,EX,E⟩
    refine AU ?_;refine BY (.inr ⟨mo,by kernel_rfl⟩) ar (AU ?_);obtain⟨ce,ad,E⟩:=bd E;refine AZ 33 75 (.bool ce) ?_ ?_
    ·cases bm:(decide (ai.C≠(-1)))
     ·have ad:=G3 bm ad;cases ad;exact BG O O
     have ad:=G2 bm ad;have cf:=af.nw;have cg:=cf.le;refine AU ?_;refine A8 ad O O O PH O (λbn bo h' o=>HT (St.all h') a2 (KZ cg) bo) λbn ad=>AU ?_;obtain⟨ch,ae,ad⟩:=bd ad;refine AZ 21 74 (.bool ch) ?_ ?_
     ·cases bp:(!bn)
      ·have ae:=G3 bp ae;refine AU ?_;have ci:=af.nw;refine A6 ae O O ci Md.1 O λc6 ae c7 c8=>AU ?_;have cj:=af.nw;refine A6 ae O O cj Md.1 O λc9 ae da db=>AU ?_;cases ae;exact A0 O
      have ae:=G2 bp ae;cases ae;exact BG O O
     refine AU ?_;cases ad;exact A0 O
    refine BJ (kp [75,7,13,12,0,1,5,14] O) λck au dc=>AH O E (λcl E=>?_) (λcl E=>?_)
    ·refine BB O (λaa ww hf hw=>?_);have bq:=au.sel [1,1,1,1,1,1,1,1,1,1,1] 1 O;exact⟨v8,l9,_,_,hf.sub (kp [13,12,0,1,14,5] O),hw,bq,EX,E⟩
    refine AU ?_;refine PU O O O (FY (cs:=[vI ai.C,vI 0,vI (-3),.func (.func 215) #[] #[vP ap 0]]) RL O O O (AU ?_));obtain⟨cm,br,dd,cn⟩:=au.pubb (r:=Gs) (x:=ai) .head ⟨O,⟨b7,bh,b8,a2⟩⟩;have bs:Rd cm ck (A4.fnr prog (λS h vs (x:(List Int))=>∃w0:Value,vs=[w0]∧Sl S h AC w0 x) (λS h v (y:((List Int)×(List Int)))=>∃w0 w1:Value,v= .tuple #[w0,w1]∧Sl S h AC w0 y.1∧Sl S h AC w1 y.2)) (.func (.func 215) #[] #[(vP ap 0)]) (λx=>DY N ai x):=Nm 215 #[(vP ap 0)] rW λS' h' s' e' L hs x y vs h1 h2=>by obtain⟨w0,rfl,a0⟩:=h1;exact Pd (OV hs a0 (cn.mono'' s' e') h2)
    refine Dn (cs:=[vI ai.C,vI 0,vI (-3),(.func (.func 215) #[] #[(vP ap 0)])]) NP O O O O O O O br λde df bt co=>?_;obtain⟨bu,E⟩:=LQ E;have cp:=bs.mono co;refine Jc (r:=A3) (l:=l9) (xs:=([(⟨ai.C,0,(-3),(λx=>DY N ai x)⟩:AD)]:List AD)) O O NP O mh ⟨_,_,O,⟨_,O,a2,(iq (n:=0) O),(iq (n:=(-3)) O),cp⟩,O⟩ O O bu O bt (λ_=>(.tail .head)) λcq dg bv dh=>?_;have bw:=bv.drop .head;refine AU ?_;refine WF.nil (λaa ww hf hw=>?_);exact⟨cq,(l9++([(⟨ai.C,0,(-3),(λx=>DY N ai x)⟩:AD)]:List AD)),_,_,hf.sub (kp [13,12,0,1,14,5] O),hw,bw,EX,E⟩
   rintro aa ww ⟨an,ao,cr,ct,hf,hw,a3,cu,E⟩;refine AK ?_ hf hw;clear hf hw ww aa;rw[GN] at E;refine AU ?_;refine WF.nil (λaa ww hf hw=>?_);exact⟨an,ao,(BC (ak+1)),_,_,hf.sub (kp [13,12,0,1,5,14] O),hw,a3,EX,(BH _),E⟩
  refine BB O (λaa ww hf hw=>?_);exact⟨v8,l9,_,_,hf.sub (kp [5] O),hw,aq,bf,E⟩
 rintro aa ww ⟨v2,l3,cv,cw,hf,hw,a4,cx,E⟩;refine AK ?_ hf hw;clear hf hw ww aa;rw[DE] at E;refine AU ?_;cases E;exact Kk a4 O O EX
def MD (i:St S L h) {a:Int}(c:IntKind.has .u64 a) {b:Int}(d:IntKind.has .u64 b) {r:Int×Int}(E:Hf N a b=some r):
 B3 prog 266 #[.int .u64 a,.int .u64 b] S h (λv S' h'=>v= .tuple #[.int .u64 r.1,.int .u64 r.2]∧IntKind.has .u64 r.1∧IntKind.has .u64 r.2∧St S' (L) h'):=by
 refine BA 51 func266 O ntmps266 O λB=>?_;rw[Hf] at E;refine AU ?_;refine Jb (j:=32) O O O O (AU ?_);refine Jb (j:=32) O O O O (AU ?_);refine Jb (j:=32) O O O O (AU ?_);refine Jb (j:=32) O O O O (AU ?_);refine Jb (j:=32) O O O O (AU ?_);refine Bu (λl m g k=>?_);cases E;exact JA g O k (G7 (IJ g (v:=_) O) (G7 (IJ g (v:=_) O) I9)) O (B9.refl S h) ⟨O,(Cw _ _),(Cw _ _),i⟩
def Ps (I:St S L h) {d:Int}(g:IntKind.has .u64 d) {r:Int}(E:Ie N d=some r):
 B3 prog 302 #[.int .u64 d] S h (λv S' h'=>v=vI r∧AB r∧St S' (L) h'):=by
 refine BA 25 func302 O ntmps302 O λB=>?_;rw[Ie] at E;refine AU ?_;refine HI (λa w=>∃(x:Int) (y:Int),IV B S h (25,[]) a w [(0,.int .u64 x),(2,vI y)] (L) λ_ _=>IntKind.has .u64 x∧AB y∧GX N x y=some r) ?_ ?_
 ·refine AH O E (λM E=>?_) (λM E=>?_)
  ·refine AU ?_;refine Jb (j:=32) O O O O (AU ?_);refine WF.nil (λl m b c=>?_);exact⟨(EZ .u64 d 32),32,_,_,b.sub (kp [0,2] O),c,I,(B9.refl S h),(Qz _ g _),(iq (n:=32) O),E⟩
  refine AU ?_;refine WF.nil (λl m b c=>?_);exact⟨d,0,_,_,b.sub (kp [0,2] O),c,I,(B9.refl S h),g,(iq (n:=0) O),E⟩
 rintro l m ⟨x,y,C,D,b,c,z,e9,J,Q,E⟩;refine AK ?_ b c;clear b c m l;rw[GX] at E;refine AU ?_;refine HI (λa w=>∃(i:Int) (k:Int),IV B C D (25,[]) a w [(0,.int .u64 i),(2,vI k)] (L) λ_ _=>IntKind.has .u64 i∧AB k∧GW N i k=some r) ?_ ?_
 ·refine AH O E (λF E=>?_) (λF E=>?_)
  ·refine AU ?_;refine Jb (j:=16) O O O O (AU ?_);refine WF.nil (λl m b c=>?_);exact⟨(EZ .u64 x 16),(BC (y+16)),_,_,b.sub (kp [0,2] O),c,z,(B9.refl C D),(Qz _ J _),(BH _),E⟩
  refine AU ?_;refine WF.nil (λl m b c=>?_);exact⟨x,y,_,_,b.sub (kp [0,2] O),c,z,(B9.refl C D),J,Q,E⟩
 rintro l m ⟨i,k,t,u,b,c,q,U,A,G,E⟩;refine AK ?_ b c;clear b c m l;rw[GW] at E;refine AU ?_;refine HI (λa w=>∃(o:Int) (p:Int),IV B t u (25,[]) a w [(0,.int .u64 o),(2,vI p)] (L) λ_ _=>IntKind.has .u64 o∧AB p∧GV N o p=some r) ?_ ?_
 ·refine AH O E (λH E=>?_) (λH E=>?_)
  ·refine AU ?_;refine Jb (j:=8) O O O O (AU ?_);refine WF.nil (λl m b c=>?_);exact⟨(EZ .u64 i 8),(BC (k+8)),_,_,b.sub (kp [0,2] O),c,q,(B9.refl t u),(Qz _ A _),(BH _),E⟩
  refine AU ?_;refine WF.nil (λl m b c=>?_);exact⟨i,k,_,_,b.sub (kp [0,2] O),c,q,(B9.refl t u),A,G,E⟩
 rintro l m ⟨o,p,V,W,b,c,K,X,Y,Z,E⟩;refine AK ?_ b c;clear b c m l;rw[GV] at E;refine AU ?_;refine D9 O Ip Wy O ?_;obtain⟨ab,s,E⟩:=bd E;have ac:=Li s;exact Lk O O Mb s O (D9 O Wy MJ O (RT))
def L6 (d:St S L h) {a:Int}(b:IntKind.has .u64 a) {r:Int}(E:Ez N a=some r):
 B3 prog 289 #[.int .u64 a] S h (λv S' h'=>v=vI r∧AB r∧St S' (L) h'):=by
 refine BA 6 func289 O ntmps289 O λB=>?_;rw[Ez] at E;refine AU ?_;refine BY (.inl O) d (AU ?_);refine B7 E O O O qX O (λg c h' o=>Ps (St.all h') b c) λg E i=>?_;have k:=i;refine AU ?_;exact BJ (kp [2] O) λl j m=>RT
def ME (hs:St S L h) {d:Int}(X:IntKind.has .u64 d) {b:Int}(x:IntKind.has .u64 b) {c:Int}(D:IntKind.has .u64 c) {r:Int×Int}(E:Fl N d b c=some r):
 B3 prog 267 #[.int .u64 d,.int .u64 b,.int .u64 c] S h (λv S' h'=>v= .tuple #[.int .u64 r.1,.int .u64 r.2]∧IntKind.has .u64 r.1∧IntKind.has .u64 r.2∧St S' (L) h'):=by
 refine BA 135 func267 O ntmps267 O λB=>?_;rw[Fl] at E;refine AU ?_;refine AH O E (λc1 E=>?_) (λc1 E=>?_)
 ·cases E
 refine AU ?_;refine AH O E (λc2 E=>?_) (λc2 E=>?_)
 ·cases E
 refine AU ?_;refine AH O E (λc3 E=>?_) (λc3 E=>?_)
 ·refine AU ?_;refine JO (.inr ⟨mo,by kernel_rfl⟩) (AU ?_);obtain⟨z4,Y,E⟩:=bd E;have r5:IntKind.has .u64 z4:=O4 Y;refine VV O O O Y (AU ?_);obtain⟨z6,Z,E⟩:=bd E;have r7:IntKind.has .u64 z6:=cJ x Z;refine lF O O O Z (AU ?_);refine Bu (λq s i l=>?_);cases E;exact JA i O l (G7 (IJ i (v:=_) O) (G7 (IJ i (v:=_) O) I9)) O (B9.refl S h) ⟨O,r5,r7,hs⟩
 refine AU ?_;refine BY (.inl O) hs (AU ?_);refine B7 E O O O rA O (λF aj h' o=>L6 (St.all h') D aj) λF E r9=>?_;have av:=r9;refine D9 O MJ Wz O (AU ?_);refine BJ (kp [8,0,1,2] O) λJ ab aw=>AU ?_;obtain⟨g,ac,E⟩:=bd E;refine Sb (j:=g) O O O ac (AU ?_);refine Jb (j:=32) O O O O (AU ?_);obtain⟨m,ad,E⟩:=bd E;refine Sb (j:=m) O O O ad (AU ?_);obtain⟨n,ae,E⟩:=bd E;refine Jb (j:=n) O O O ae (gI O O O (AU ?_));obtain⟨k,af,E⟩:=bd E;refine Sb (j:=k) O O O af (AU ?_);refine Jb (j:=32) O O O O (AU ?_);obtain⟨K,H,E⟩:=bd E;have ak:IntKind.has .u64 K:=O4 H;refine VV O O O H (AU ?_);refine AO (λa w=>∃(p:Int),IV B S J (135,[]) a w [(14,.int .u64 (FX .and .u64 (Do .u64 b k) 4294967295)),(13,.int .u64 (EZ .u64 (Do .u64 b k) 32)),(11,.int .u64 (FX .or .u64 (Do .u64 d m) (EZ .u64 b n))),(10,.int .u64 (FX .and .u64 (Do .u64 c g) 4294967295)),(9,.int .u64 (EZ .u64 (Do .u64 c g) 32)),(2,.int .u64 (Do .u64 c g)),(8,.int .u64 (IntKind.wrap .u64 F)),(15,.int .u64 p)] (L) λ_ _=>IntKind.has .u64 p∧De N d b c F g m n k p=some r) ?_ ?_
 ·refine AX (λn1=>λa w=>∃(t:Int) (y:Int),IV B S J (135,[]) a w [(14,.int .u64 (FX .and .u64 (Do .u64 b k) 4294967295)),(13,.int .u64 (EZ .u64 (Do .u64 b k) 32)),(11,.int .u64 (FX .or .u64 (Do .u64 d m) (EZ .u64 b n))),(10,.int .u64 (FX .and .u64 (Do .u64 c g) 4294967295)),(9,.int .u64 (EZ .u64 (Do .u64 c g) 32)),(2,.int .u64 (Do .u64 c g)),(8,.int .u64 (IntKind.wrap .u64 F)),(15,.int .u64 t),(16,.int .u64 y)] (L) λ_ _=>IntKind.has .u64 t∧IntKind.has .u64 y∧DH N b c g k (De N d b c F g m n k) n1 t y=some r) N ?_ ?_ ?_
  ·intro q s i l;exact⟨K,(IntKind.wrap .u64 ((FX .or .u64 (Do .u64 d m) (EZ .u64 b n))-(IntKind.wrap .u64 (K*(EZ .u64 (Do .u64 c g) 32))))),_,_,i.sub (kp [14,13,11,10,9,2,8,15,16] O),l,ab,(B9.refl S J),ak,(Cw _ _),E⟩
  ·rintro q s ⟨_,_,_,_,_,_,_,_,_,_,E⟩;rw[DH] at E;cases E
  rintro n1 q s ⟨t,y,ax,ay,i,l,z,M,al,az,E⟩;refine AK ?_ i l;clear i l s q;rw[DH] at E;refine AU ?_;refine AH O E (λam E=>?_) (λam E=>?_)
  ·refine AU ?_;refine AY (AU ?_);refine AH O E (λan E=>?_) (λan E=>?_)
   ·refine BB O (λq s i l=>?_);exact⟨(IntKind.wrap .u64 (t-1)),_,_,i.sub (kp [14,13,11,10,9,2,8,15] O),l,z,M,(Cw _ _),E⟩
   refine AU ?_;refine BE (WF.nil (λq s i l=>?_));exact⟨(IntKind.wrap .u64 (t-1)),(IntKind.wrap .u64 (y+(EZ .u64 (Do .u64 c g) 32))),_,_,i.sub (kp [14,13,11,10,9,2,8,15,16] O),l,z,M,(Cw _ _),(Cw _ _),E⟩
  refine BB O (λq s i l=>?_);exact⟨t,_,_,i.sub (kp [14,13,11,10,9,2,8,15] O),l,z,M,al,E⟩
 rintro q s ⟨p,Q,U,i,l,ag,a0,a1,E⟩;refine AK ?_ i l;clear i l s q;rw[De] at E;refine AU ?_;obtain⟨V,I,E⟩:=bd E;have ao:IntKind.has .u64 V:=O4 I;refine VV O O O I (AU ?_);refine AO (λa w=>∃(G:Int),IV B Q U (135,[]) a w [(17,.int .u64 (IntKind.wrap .u64 ((IntKind.wrap .u64 ((IntKind.wrap .u64 ((FX .or .u64 (Do .u64 d m) (EZ .u64 b n))*4294967296))+(EZ .u64 (Do .u64 b k) 32)))-(IntKind.wrap .u64 (p*(Do .u64 c g)))))),(14,.int .u64 (FX .and .u64 (Do .u64 b k) 4294967295)),(2,.int .u64 (Do .u64 c g)),(8,.int .u64 (IntKind.wrap .u64 F)),(15,.int .u64 p),(18,.int .u64 G)] (L) λ_ _=>IntKind.has .u64 G∧E0 N d b c F g m n k p G=some r) ?_ ?_
 ·refine AX (λn3=>λa w=>∃(A:Int) (u:Int),IV B Q U (135,[]) a w [(17,.int .u64 (IntKind.wrap .u64 ((IntKind.wrap .u64 ((IntKind.wrap .u64 ((FX .or .u64 (Do .u64 d m) (EZ .u64 b n))*4294967296))+(EZ .u64 (Do .u64 b k) 32)))-(IntKind.wrap .u64 (p*(Do .u64 c g)))))),(14,.int .u64 (FX .and .u64 (Do .u64 b k) 4294967295)),(10,.int .u64 (FX .and .u64 (Do .u64 c g) 4294967295)),(9,.int .u64 (EZ .u64 (Do .u64 c g) 32)),(2,.int .u64 (Do .u64 c g)),(8,.int .u64 (IntKind.wrap .u64 F)),(15,.int .u64 p),(16,.int .u64 A),(18,.int .u64 u)] (L) λ_ _=>IntKind.has .u64 A∧IntKind.has .u64 u∧Dd N b c g k (E0 N d b c F g m n k p) n3 A u=some r) N ?_ ?_ ?_
  ·intro q s i l;exact⟨(IntKind.wrap .u64 ((IntKind.wrap .u64 ((IntKind.wrap .u64 ((IntKind.wrap .u64 ((FX .or .u64 (Do .u64 d m) (EZ .u64 b n))*4294967296))+(EZ .u64 (Do .u64 b k) 32)))-(IntKind.wrap .u64 (p*(Do .u64 c g)))))-(IntKind.wrap .u64 (V*(EZ .u64 (Do .u64 c g) 32))))),V,_,_,i.sub (kp [17,14,10,9,2,8,15,16,18] O),l,ag,(B9.refl Q U),(Cw _ _),ao,E⟩
  ·rintro q s ⟨_,_,_,_,_,_,_,_,_,_,E⟩;rw[Dd] at E;cases E
  rintro n3 q s ⟨A,u,a2,a3,i,l,C,W,a4,ap,E⟩;refine AK ?_ i l;clear i l s q;rw[Dd] at E;refine AU ?_;refine AH O E (λaq E=>?_) (λaq E=>?_)
  ·refine AU ?_;refine AY (AU ?_);refine AH O E (λar E=>?_) (λar E=>?_)
   ·refine BB O (λq s i l=>?_);exact⟨(IntKind.wrap .u64 (u-1)),_,_,i.sub (kp [17,14,2,8,15,18] O),l,C,W,(Cw _ _),E⟩
   refine AU ?_;refine BE (WF.nil (λq s i l=>?_));exact⟨(IntKind.wrap .u64 (A+(EZ .u64 (Do .u64 c g) 32))),(IntKind.wrap .u64 (u-1)),_,_,i.sub (kp [17,14,10,9,2,8,15,16,18] O),l,C,W,(Cw _ _),(Cw _ _),E⟩
  refine BB O (λq s i l=>?_);exact⟨u,_,_,i.sub (kp [17,14,2,8,15,18] O),l,C,W,ap,E⟩
 rintro q s ⟨G,a5,a6,i,l,ah,a7,a8,E⟩;refine AK ?_ i l;clear i l s q;rw[E0] at E;refine AU ?_;obtain⟨au,ai,E⟩:=bd E;refine Jb (j:=au) O O O ai (AU ?_);refine Bu (λq s i l=>?_);cases E;exact JA i O l (G7 (IJ i (v:=_) O) (G7 (IJ i (v:=_) O) I9)) O EX ⟨O,(Cw _ _),(Qz _ (Cw _ _) _),ah⟩
def JN (F:St S L h) {d:Int}(s:AB d) {a:Int}(l:AB a) {b:Int}(m:AB b) {r:Int×Int×Bool}(E:Fx N d a b=some r):
 B3 prog 212 #[vI d,vI a,vI b] S h (λv S' h'=>v= .tuple #[vI r.1,vI r.2.1,.bool r.2.2]∧AB r.1∧AB r.2.1∧St S' (L) h'):=by
 refine BA 61 func212 O ntmps212 O λB=>?_;rw[Fx] at E;refine AU ?_;refine AH O E (λG E=>?_) (λG E=>?_)
 ·refine AU ?_;refine Bu (λu w c k=>?_);cases E;exact JA c O k (G7 (IJ c (v:=_) O) (G7 (IJ c (v:=_) O) (G7 (IJ c (v:=_) O) I9))) O (B9.refl S h) ⟨O,(iq (n:=0) O),(iq (n:=0) O),F⟩
 refine AU ?_;refine BY (.inl O) F (AU ?_);refine D9 O MJ Ip O (AU ?_);refine D9 O MJ Ip O ?_;obtain⟨t,x,E⟩:=bd E;refine If (v:= .tuple #[.int .u64 t.1,.int .u64 t.2]) (Ψ:=IntKind.has .u64 t.1∧IntKind.has .u64 t.2) O O O fC O (λh' o=>(MD (St.all h') (Cw _ _) (Cw _ _) x).mono λ_ _ _ _ p=>⟨p.1,⟨p.2.1,p.2.2.1⟩⟩) λH=>?_;obtain⟨I,y⟩:=H;refine AU ?_;refine BJ (kp [10,9,2] O) λJ i z=>AU ?_;refine D9 O MJ Ip O (AU ?_);refine AH O E (λA E=>?_) (λA E=>?_)
 ·refine AU ?_;refine Bu (λu w c k=>?_);cases E;exact JA c O k (G7 (IJ c (v:=_) O) (G7 (IJ c (v:=_) O) (G7 (IJ c (v:=_) O) I9))) O z ⟨O,(iq (n:=0) O),(iq (n:=0) O),i⟩
 refine AU ?_;refine BY (.inl O) i (AU ?_);refine D9 O MJ Ip O ?_;obtain⟨g,q,E⟩:=bd E;refine If (v:= .tuple #[.int .u64 g.1,.int .u64 g.2]) (Ψ:=IntKind.has .u64 g.1∧IntKind.has .u64 g.2) O O O fA O (λh' o=>(ME (St.all h') I y (Cw _ _) q).mono λ_ _ _ _ p=>⟨p.1,⟨p.2.1,p.2.2.1⟩⟩) λC=>?_;obtain⟨K,M⟩:=C;refine AU ?_;refine BJ (kp [12,11] O) λQ j U=>AU ?_;refine AH O E (λD E=>?_) (λD E=>?_)
 ·refine AU ?_;refine Bu (λu w c k=>?_);cases E;exact JA c O k (G7 (IJ c (v:=_) O) (G7 (IJ c (v:=_) O) (G7 (IJ c (v:=_) O) I9))) O EX ⟨O,(iq (n:=0) O),(iq (n:=0) O),j⟩
 refine AU ?_;refine D9 O Ip MJ O (AU ?_);refine D9 O Ip MJ O (AU ?_);refine Bu (λu w c k=>?_);cases E;exact JA c O k (G7 (IJ c (v:=_) O) (G7 (IJ c (v:=_) O) (G7 (IJ c (v:=_) O) I9))) O EX ⟨O,(BH _),(BH _),j⟩
def KD (l:St S L h) {g:Int}(i:AB g) {a:Int}(c:AB a) {b:Int}(d:AB b) {r:Int}(E:Hx N g a b=some r):
 B3 prog 262 #[vI g,vI a,vI b] S h (λv S' h'=>v=vI r∧AB r∧St S' (L) h'):=by
 refine BA 21 func262 O ntmps262 O λB=>?_;rw[Hx] at E;refine AU ?_;refine BY (.inl O) l (AU ?_);obtain⟨j,k,E⟩:=bd E;refine If (v:= .tuple #[vI j.1,vI j.2.1,.bool j.2.2]) (Ψ:=AB j.1∧AB j.2.1) O O O TS O (λh' o=>(JN (St.all h') i c d k).mono λ_ _ _ _ p=>⟨p.1,⟨p.2.1,p.2.2.1⟩⟩) λm=>?_;obtain⟨s,t⟩:=m;refine AU ?_;refine BJ (kp [9,7] O) λu n w=>AU ?_;refine AH O E (λq E=>?_) (λq E=>?_)
 ·exact RT
 exact RT
def Ty (H:St S L h) {d:Value}{k:BO}(j:Rd S h B0 d k) {a:Int}(b:AB a) {c:Int}(g:AB c) {r:Int}(E:Lw N k a c=some r):
 B3 prog 264 #[d,vI a,vI c] S h (λv S' h'=>v=vI r∧AB r∧St S' (L) h'):=by
 refine BA 20 func264 O ntmps264 O λB=>?_;rw[Lw] at E;refine AU ?_;refine By O j CE O H λK S2 M q Q G=>AU ?_;refine AH O E (λs E=>?_) (λs E=>?_)
 ·exact RT
 refine AU ?_;refine BY (.inl O) q ?_;have t:=G.fl JQ;have u:=t.i;have w:=G.fl JR;have x:=w.i;refine AU ?_;refine B7 E O O O TQ O (λy l h' o=>KD (St.all h') g u x l) λy E z=>?_;have A:=z;refine B7 E O O O Rg O (λC m h' o=>JT (St.all h') b A m) λC E D=>?_;have F:=D;refine Td O O O (AU ?_);refine BJ (kp [6] O) λI p J=>?_;cases E;exact Kk ⟨O,(Rc (iq (n:=0) O) F),p⟩ O O EX
def Hk (Y:St S L h) {d:Value}{i:(List BT)}(g:Sl S h B4 d i) {r:Bool}(E:Eb N i=some r):
 B3 prog 232 #[d] S h (λv S' h'=>v= .bool r∧St S' (L) h'):=by
 refine BA 63 func232 O ntmps232 O λB=>?_;rw[Eb] at E;refine AU ?_;refine AH O E (λZ E=>?_) (λZ E=>?_)
 ·exact RT
 refine AU ?_;refine AO (λa w=>IV B S h (63,[]) a w [] (L) λ_ _=>HE N=some r) ?_ ?_
 ·refine AX (λW=>λa w=>∃(p:Int),IV B S h (63,[]) a w [(14,vI (↑i.length:Int)),(13,d),(0,d),(15,vI p)] (L) λ_ _=>AB p∧Ea N i (HE N) W p=some r) N ?_ ?_ ?_
  ·intro m o j k;exact⟨0,_,_,j.sub (kp [14,13,0,15] O),k,Y,(B9.refl S h),(iq (n:=0) O),E⟩
  ·rintro m o ⟨_,_,_,_,_,_,_,_,E⟩;rw[Ea] at E;cases E
  rintro W m o ⟨p,ab,ac,j,k,l,q,r9,E⟩;refine AK ?_ j k;clear j k o m;rw[Ea] at E;refine AU ?_;refine AH O E (λz E=>?_) (λz E=>?_)
  ·refine AU ?_;refine AY (AU ?_);have A:=g.mono' q;refine A6 E O O A M7.1 O λC E ad D=>?_;obtain⟨ae,_,F⟩:=D.lv;refine AU ?_;refine CF Uk O l λaf ag s G=>AU ?_;have H:=F.mono G;obtain⟨rfl,⟨ah,ai⟩⟩:=B4.ex H;refine C7 O O O O Uq.1 O s .head O λaj t ak=>AU ?_;refine AH O E (λI E=>?_) (λI E=>?_)
   ·exact RT
   refine AU ?_;refine JO (.inr ⟨mo,by kernel_rfl⟩) (AU ?_);obtain⟨J,b,E⟩:=bd E;refine AZ 21 61 (.bool J) ?_ ?_
   ·cases u:(decide (0<p))
    ·have b:=G3 u b;cases b;exact BG O O
    have b:=G2 u b;refine AU ?_;have K:=g.nw;refine A6 b O O K M7.1 O λM b am an=>AU ?_;obtain⟨Q,c,b⟩:=bd b;refine AZ 10 60 (.bool Q) ?_ ?_
    ·cases x:(decide (C.R≤M.R))
     ·have c:=G3 x c;refine AU ?_;have U:=g.nw;refine A6 c O O U M7.1 O λao c ap aq=>AU ?_;cases c;exact A0 O
     have c:=G2 x c;cases c;exact BG O O
    refine AU ?_;cases b;exact A0 O
   refine AU ?_;refine AH O E (λV E=>?_) (λV E=>?_)
   ·exact RT
   refine AU ?_;refine BE (AU ?_);refine WF.nil (λm o j k=>?_);have y:=t.drop .head;exact⟨(BC (p+1)),_,_,j.sub (kp [14,13,0,15] O),k,y,EX,(BH _),E⟩
  refine BB O (λm o j k=>?_);exact⟨_,_,j.sub Nx,k,l,q,E⟩
 rintro m o ⟨ar,au,j,k,X,av,E⟩;refine AK ?_ j k;clear j k o m;rw[HE] at E;exact RT
def SF (X:St S L h) {g:Int}(q:AB g) {i:Value}{p:(Int→Option Bool)}(s:Rd S h (A4.fn prog (λx:Int=>([vI x]:List Value)) (λx:Int=>AB x) (λy:Bool=> .bool y) (λy:Bool=>True)) i p) {r:Int}(E:Lc N g p=some r):
 B3 prog 303 #[vI g,i] S h (λv S' h'=>v=vI r∧AB r∧St S' (L) h'):=by
 refine BA 26 func303 O ntmps303 O λB=>?_;rw[Lc] at E;obtain⟨H,I,rfl,J,K⟩:=s.fn;refine AU ?_;refine AO (λa w=>∃(F:Int),IV B S h (26,[]) a w [(5,vI F)] (L) λ_ _=>AB F∧Iu N F=some r) ?_ ?_
 ·refine AX (λV=>λa w=>∃(c:Int) (d:Int),IV B S h (26,[]) a w [(1,(.func (.func H) #[] I)),(5,vI c),(6,vI d)] (L) λ_ _=>AB c∧AB d∧GS N p (Iu N) V c d=some r) N ?_ ?_ ?_
  ·intro u z l m;exact⟨0,g,_,_,l.sub (kp [1,5,6] O),m,X,(B9.refl S h),(iq (n:=0) O),q,E⟩
  ·rintro u z ⟨_,_,_,_,_,_,_,_,_,_,E⟩;rw[GS] at E;cases E
  rintro V u z ⟨c,d,Y,Z,l,m,k,t,C,M,E⟩;refine AK ?_ l m;clear l m z u;rw[GS] at E;refine AU ?_;refine AH O E (λQ E=>?_) (λQ E=>?_)
  ·refine AU ?_;refine AY (AU ?_);refine D9 O MJ Wz O (Jb (j:=1) O O O O (D9 O Wz MJ O (AU ?_)));refine BY (.inl O) k (AU ?_);obtain⟨ab,D,E⟩:=bd E;refine Jt O O O J O (λh' o=>K _ h' (λb G=>Aa9 (k.1 b (t.sub b G)) o.siz) (λb G=>(o.same b (k.1 b (t.sub b G))).trans (t.same b G)) [] (St.all h') _ _ (BH _) D) (AU ?_);refine BJ (kp [21,7,1,5,6] O) λac A ad=>AH O E (λU E=>?_) (λU E=>?_)
   ·refine AU ?_;refine BE (WF.nil (λu z l m=>?_));exact⟨(BC ((BC (EZ .u64 (IntKind.wrap .u64 (BC (c+d))) 1))+1)),d,_,_,l.sub (kp [1,5,6] O),m,A,EX,(BH _),M,E⟩
   refine AU ?_;refine BE (WF.nil (λu z l m=>?_));exact⟨c,(BC (EZ .u64 (IntKind.wrap .u64 (BC (c+d))) 1)),_,_,l.sub (kp [1,5,6] O),m,A,EX,C,(BH _),E⟩
  refine BB O (λu z l m=>?_);exact⟨c,_,_,l.sub (kp [5] O),m,k,t,C,E⟩
 rintro u z ⟨F,ae,af,l,m,W,ag,r6,E⟩;refine AK ?_ l m;clear l m z u;rw[Iu] at E;exact RT
def Q4 (l:St S L h) {a:Int}(i:AB a) {b:Value}{g:(List BT)}(d:Pt S h (A4.sl B4) b g) {c:Value}{c2_:Int}(j:Pt S h AC c c2_) {r:Bool}(E:IW N g c2_ a=some r):
 B3 prog 304 #[vI a,b,c] S h (λv S' h'=>v= .bool r∧St S' (L) h'):=by
 refine BA 12 func304 O ntmps304 O λB=>?_;rw[IW] at E;refine AU ?_;refine JO (.inr ⟨mo,by kernel_rfl⟩) ?_;obtain⟨v1,_,k⟩:=d.ll;refine AU ?_;exact A6 E O O k M7.1 O λm E n o=>RT
def L7 (J:St S L h) {b:Value}{c:(List BT)}(j:Sl S h B4 b c) {a:Int}(k:AB a) {r:Int×Bool}(E:Il N c a=some r):
 B3 prog 288 #[b,vI a] S h (λv S' h'=>v= .tuple #[vI r.1,.bool r.2]∧AB r.1∧St S' (L) h'):=by
 refine BA 63 func288 O ntmps288 O λB=>?_;rw[Il] at E;refine AU ?_;refine By O (OC j) (λ_=>rfl) O J λq1 S2 h3 K e5 k6=>By O (⟨_,O,O,k⟩:Rd _ _ AC _ a) (λ_=>rfl) O K λq7 S8 h9 m M s=>AU ?_;refine BY (.inl O) m ?_;have l:=k6.mono M;obtain⟨ap,_,Q⟩:=l.ll;have U:=Q.le;refine AU ?_;refine PU O O O ?_;have t:Rd S8 h9 (A4.fn prog (λx:Int=>([vI x]:List Value)) (λx:Int=>AB x) (λy:Bool=> .bool y) (λy:Bool=>True)) (.func (.func 304) #[] #[q1,q7]) (λx=>IW N c a x):=Rd.ofFn 304 #[q1,q7] qV λS' h' s' e' L J x y h1 h2=>(Q4 J h1 (l.mono'' s' e') (s.mono'' s' e') h2).mono λ_ _ _ _ p=>⟨p.1,trivial,p.2⟩
 refine B7 E O O O qW O (λV u h' o=>SF (St.all h') (KZ U) (t.mono (o.all m.1)) u) λV E W=>?_;have aq:=W;refine AU ?_;refine BJ (kp [6,3,2] O) λar n w=>AU ?_;refine AH O E (λX E=>?_) (λX E=>?_)
 ·have Y:=l.mono w;obtain⟨au,_,Z⟩:=Y.ll;refine AU ?_;refine A6 E O O Z M7.1 O λav E aw ab=>?_;have ac:=ab.fl Tk;have ad:=ac.i;refine AU ?_;refine Bu (λaa ww d z=>?_);cases E;exact JA d O z (G7 (IJ d (v:=_) O) (G7 (IJ d (v:=_) O) I9)) O EX ⟨O,ad,n⟩
 have A:=l.mono w;obtain⟨ax,_,ae⟩:=A.ll;refine AU ?_;refine A6 E O O ae M7.1 O λay E az af=>?_;obtain⟨a0,_,ag⟩:=af.lv;refine AU ?_;refine CF Uk O n λa1 a2 C ah=>?_;have ai:=ag.mono ah;obtain⟨rfl,⟨a3,aj⟩⟩:=B4.ex ai;refine C7 O O O O Uq.1 O C .head O λa4 q a5=>?_;have D:=A.nw;refine AU ?_;refine AH O E (λak E=>?_) (λak E=>?_)
 ·refine AU ?_;refine Bu (λaa ww d z=>?_);have F:=q.drop .head;cases E;exact JA d O z (G7 (IJ d (v:=_) O) (G7 (IJ d (v:=_) O) I9)) O EX ⟨O,aj,F⟩
 refine AU ?_;refine BY (.inr ⟨mo,by kernel_rfl⟩) q ?_;have a6:=s.nw;obtain⟨a7,_,am⟩:=D.ll;refine AU ?_;refine A6 E O O am M7.1 O λa8 E a9 ba=>?_;obtain⟨bb,_,an⟩:=D.ll;refine AU ?_;refine A6 E O O an M7.1 O λbc E be bf=>AU ?_;obtain⟨g,G,E⟩:=bd E;refine If (v:= .tuple #[vI g.1,vI g.2.1,.bool g.2.2]) (Ψ:=AB g.1∧AB g.2.1) O O O TS O (λh' o=>(JN (St.all h') (BH _) (BH _) (BH _) G).mono λ_ _ _ _ p=>⟨p.1,⟨p.2.1,p.2.2.1⟩⟩) λao=>?_;obtain⟨bg,bh⟩:=ao;refine AU ?_;refine BJ (kp [9,8,7] O) λbi H bj=>AU ?_;refine Bu (λaa ww d z=>?_);have I:=H.drop .head;cases E;exact JA d O z (G7 (IJ d (v:=_) O) (G7 (IJ d (v:=_) O) I9)) O EX ⟨O,(BH _),I⟩
def VJ (l:St S L h) {a:Value}{g:(List BT)}(b:Sl S h B4 a g) {c:Int}(d:AB c) {r:Int}(E:Mn N g c=some r):
 B3 prog 263 #[a,vI c] S h (λv S' h'=>v=vI r∧AB r∧St S' (L) h'):=by
 refine BA 17 func263 O ntmps263 O λB=>?_;rw[Mn] at E;refine AU ?_;refine BY (.inl O) l (AU ?_);refine A8 E O O O QP O (λn j h' o=>Hk (St.all h') (b.mono' (o.all l.1)) j) λn E=>AU ?_;refine BJ (kp [9,0,1] O) λz i p=>AH O E (λq E=>?_) (λq E=>?_)
 ·exact RT
 refine AU ?_;refine BY (.inl O) i (AU ?_);have s:=b.mono' p;refine B7 E O O O XU O (λt k h' o=>L7 (St.all h') (s.mono' (o.all i.1)) d k) λt E u=>?_;have w:=u;refine AU ?_;exact BJ (kp [5] O) λx m y=>RT
def Tz (hs:St S L h) {u:Value}{l:BO}(D:Rd S h B0 u l) {d:Int}(p:AB d) {c:Bool}{q:Value}{z:(List BT)}(F:Sl S h B4 q z) {b:Int}(k:AB b) {m:Int}(A:AB m) {r:Int}(E:Lx N l d c z b m=some r):
 B3 prog 210 #[u,vI d,.bool c,q,vI b,vI m] S h (λv S' h'=>v=vI r∧AB r∧St S' (L) h'):=by
 refine BA 63 func210 O ntmps210 O λB=>?_;rw[Lx] at E;refine AU ?_;refine By O D CE O hs λK S2 y x e5 k6=>AU ?_;refine AO (λa w=>IV B S2 y (63,[]) a w [] (L) λ_ _=>Iz N=some r) ?_ ?_
 ·refine AU ?_;refine AO (λa w=>IV B S2 y (63,[]) a w [(6,K),(4,vI b)] (L) λ_ _=>Iy N l b=some r) ?_ ?_
  ·refine AU ?_;refine AO (λa w=>IV B S2 y (63,[]) a w [(6,K),(2,.bool c),(4,vI b)] (L) λ_ _=>K0 N c (Iy N l b)=some r) ?_ ?_
   ·refine AU ?_;refine AO (λa w=>IV B S2 y (63,[]) a w [(6,K),(2,.bool c),(4,vI b)] (L) λ_ _=>Kz N l c b (Iz N)=some r) ?_ ?_
    ·refine AU ?_;refine AO (λa w=>IV B S2 y (63,[]) a w [(6,K),(1,vI d)] (L) λ_ _=>Ky N l d=some r) ?_ ?_
     ·refine AU ?_;refine AO (λa w=>IV B S2 y (63,[]) a w [(6,K),(1,vI d),(3,q),(4,vI b),(5,vI m)] (L) λ_ _=>Kx N l d z b m=some r) ?_ ?_
      ·refine AU ?_;refine AH O E (λal E=>?_) (λal E=>?_)
       ·refine BB O (λs t g j=>?_);exact⟨_,_,g.sub (kp [6,1,3,4,5] O),j,x,(B9.refl S2 y),E⟩
       refine AU ?_;refine AH O E (λam E=>?_) (λam E=>?_)
       ·refine BB O (λs t g j=>?_);exact⟨_,_,g.sub (kp [6,1] O),j,x,(B9.refl S2 y),E⟩
       refine AU ?_;refine AH O E (λan E=>?_) (λan E=>?_)
       ·refine BB O (λs t g j=>?_);exact⟨_,_,g.sub (kp [6,2,4] O),j,x,(B9.refl S2 y),E⟩
       refine AU ?_;refine AH O E (λao E=>?_) (λao E=>?_)
       ·refine BB O (λs t g j=>?_);exact⟨_,_,g.sub (kp [6,2,4] O),j,x,(B9.refl S2 y),E⟩
       refine AU ?_;refine AH O E (λap E=>?_) (λap E=>?_)
       ·refine BB O (λs t g j=>?_);exact⟨_,_,g.sub (kp [6,4] O),j,x,(B9.refl S2 y),E⟩
       refine AU ?_;refine BB O (λs t g j=>?_);exact⟨_,_,g.sub Nx,j,x,(B9.refl S2 y),E⟩
      rintro s t ⟨ca,cb,g,j,C,aq,E⟩;refine AK ?_ g j;clear g j t s;rw[Kx] at E;refine AU ?_;refine BY (.inr ⟨mo,by kernel_rfl⟩) C ?_;have H:=k6.mono aq;obtain⟨cc,_,ar⟩:=H.lv;refine AU ?_;refine B7 E O O O rJ O (λau M h' o=>Ty (St.all h') (ar.mono (o.all C.1)) k A M) λau E av=>?_;have aw:=av;have ax:=F.nw;refine B7 E O O O rK O (λay Q h' o=>VJ (St.all h') (ax.mono' (o.all C.1)) aw Q) λay E az=>?_;have a0:=az;have a1:=H.fl Fp;have a2:=a1.i;refine AU ?_;refine B7 E O O O TQ O (λa3 U h' o=>KD (St.all h') a0 p a2 U) λa3 E a4=>?_;have a5:=a4;have a6:=H.fl OJ;have a7:=a6.i;refine AU ?_;refine B7 E O O O R6 O (λa8 V h' o=>H1 (St.all h') a5 a7 V) λa8 E a9=>?_;have cd:=a9;refine AU ?_;exact BJ (kp [12] O) λce b1 cf=>RT
     rintro s t ⟨cg,ch,g,j,W,ba,E⟩;refine AK ?_ g j;clear g j t s;rw[Ky] at E;refine AU ?_;refine BY (.inl O) W ?_;have X:=k6.mono ba;have bb:=X.fl BO.f_Num;have bc:=bb.i;have be:=X.fl Fp;have bf:=be.i;refine AU ?_;refine B7 E O O O TQ O (λbg Y h' o=>KD (St.all h') bc p bf Y) λbg E bh=>?_;have ci:=bh;refine AU ?_;exact BJ (kp [12] O) λcj b2 ck=>RT
    rintro s t ⟨cl,cm,g,j,G,Z,E⟩;refine AK ?_ g j;clear g j t s;rw[Kz] at E;refine AU ?_;refine AH O E (λbi E=>?_) (λbi E=>?_)
    ·refine AU ?_;refine BY (.inl O) G ?_;have ab:=k6.mono Z;have bj:=ab.fl BO.f_Num;have bk:=bj.i;have bl:=ab.fl BO.f_Den;have bm:=bl.i;refine AU ?_;refine B7 E O O O TQ O (λbn ac h' o=>KD (St.all h') k bk bm ac) λbn E bo=>?_;have cn:=bo;refine AU ?_;exact BJ (kp [12] O) λco b3 cp=>RT
    refine AU ?_;refine BB O (λs t g j=>?_);exact⟨_,_,g.sub Nx,j,G,Z,E⟩
   rintro s t ⟨cq,cr,g,j,ad,bp,E⟩;refine AK ?_ g j;clear g j t s;rw[K0] at E;refine AU ?_;refine AH O E (λbq E=>?_) (λbq E=>?_)
   ·exact RT
   refine AU ?_;refine WF.nil (λs t g j=>?_);exact⟨_,_,g.sub (kp [6,4] O),j,ad,bp,E⟩
  rintro s t ⟨cs,ct,g,j,ae,br,E⟩;refine AK ?_ g j;clear g j t s;rw[Iy] at E;refine AU ?_;refine BY (.inr ⟨mo,by kernel_rfl⟩) ae ?_;have I:=k6.mono br;have bs:=I.fl NS;have bt:=bs.i;refine AU ?_;refine B7 E O O O Rg O (λbu af h' o=>JT (St.all h') k bt af) λbu E bv=>?_;have bw:=bv;refine Td O O O ?_;have bx:=I.fl BO.f_Num;have ag:=bx.i;have ah:=I.fl BO.f_Den;have ai:=ah.i;refine AU ?_;refine B7 E O O O TQ O (λaj J h' o=>KD (St.all h') (Rc (iq (n:=0) O) bw) ag ai J) λaj E ak=>?_;have b4:=ak;refine AU ?_;exact BJ (kp [12] O) λb5 bz b6=>RT
 rintro s t ⟨b7,b8,g,j,b0,b9,E⟩;refine AK ?_ g j;clear g j t s;rw[Iz] at E;exact RT
def VC (H:St S L h) {d:Value}{n:BO}(l:Rd S h B0 d n) {g:Value}{p:AT}(m:Rd S h BL g p) {a:Int}(b:AB a) {c:Int}(j:AB c) {r:Int}(E:Mm N n p a c=some r):
 B3 prog 217 #[d,g,vI a,vI c] S h (λv S' h'=>v=vI r∧AB r∧St S' (L) h'):=by
 refine BA 19 func217 O ntmps217 O λB=>?_;rw[Mm] at E;refine AU ?_;refine By O l CE O H λY S2 Z t I J=>?_;have K:=m.mono I;refine By O K CE O t λq8 S9 M k u w=>AU ?_;refine BY (.inl O) k ?_;have q:=J.mono u;obtain⟨Q,_,x⟩:=q.lv;have y:=w.fl R8;have z:=y.i;have A:=q.fl K7;obtain⟨U,_,C⟩:=A.ll;refine AU ?_;refine B7 E O O O rY O (λD s h' o=>Tz (St.all h') (x.mono (o.all k.1)) z (C.mono' (o.all k.1)) b j s) λD E F=>?_;have V:=F;refine AU ?_;exact BJ (kp [8] O) λW G X=>RT
def Jh (g:St S L h) {a:Int}(b:AB a) {r:Int}(E:HN N a=some r):
 B3 prog 168 #[vI a] S h (λv S' h'=>∃c:Value,v= .func (.func 219) #[] #[c]∧Pt S' h' AC c r∧St S' (L) h'):=by
 refine BA 4 func168 O ntmps168 O λB=>?_;rw[HN] at E;refine AU ?_;refine By O (⟨_,O,O,b⟩:Rd _ _ AC _ a) (λ_=>rfl) O g λj S2 k d l i=>AU ?_;refine PU O O O (AU ?_);cases E;exact Kk ⟨_,O,i,d⟩ O O EX
def O6 (z:St S L h) {b:Value}{c:(List Int)}(i:Sl S h AC b c) {r:Bool}(E:Id N c=some r):
 B3 prog 242 #[b] S h (λv S' h'=>v= .bool r∧St S' (L) h'):=by
 refine BA 24 func242 O ntmps242 O λB=>?_;rw[Id] at E;refine AU ?_;refine AO (λa w=>IV B S h (24,[]) a w [] (L) λ_ _=>Gz N=some r) ?_ ?_
 ·refine AX (λx=>λa w=>∃(o:Int) (p:Int),IV B S h (24,[]) a w [(7,vI (↑c.length:Int)),(6,b),(3,vI o),(8,vI p)] (L) λ_ _=>AB o∧AB p∧EV N c (Gz N) x o p=some r) N ?_ ?_ ?_
  ·intro k l d g;exact⟨0,0,_,_,d.sub (kp [7,6,3,8] O),g,z,(B9.refl S h),(iq (n:=0) O),(iq (n:=0) O),E⟩
  ·rintro k l ⟨_,_,_,_,_,_,_,_,_,_,E⟩;rw[EV] at E;cases E
  rintro x k l ⟨o,p,A,C,d,g,j,m,J,K,E⟩;refine AK ?_ d g;clear d g l k;rw[EV] at E;refine AU ?_;refine AH O E (λq E=>?_) (λq E=>?_)
  ·refine AU ?_;refine AY (AU ?_);have s:=i.mono' m;refine A6 E O O s Ct.1 O λt E D F=>AU ?_;refine AH O E (λu E=>?_) (λu E=>?_)
   ·exact RT
   refine AU ?_;refine BE (AU ?_);refine WF.nil (λk l d g=>?_);exact⟨(BC (o+t)),(BC (p+1)),_,_,d.sub (kp [7,6,3,8] O),g,j,m,(BH _),(BH _),E⟩
  refine BB O (λk l d g=>?_);exact⟨_,_,d.sub Nx,g,j,m,E⟩
 rintro k l ⟨G,H,d,g,y,I,E⟩;refine AK ?_ d g;clear d g l k;rw[Gz] at E;exact RT
end Go.Proofs.YtedgiljmffngoaaGreat
