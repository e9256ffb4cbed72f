import Derived.Test.YtedgiljmffngoaaGreatPInst
import Derived.Test.YtedgiljmffngoaaGreatPForms
import Derived.Test.YtedgiljmffngoaaGreatPSort5
import Derived.Test.YtedgiljmffngoaaGreatPWalk0
import Derived.Test.YtedgiljmffngoaaGreatPWalk1
namespace Go.Proofs.YtedgiljmffngoaaGreat
set_option linter.all false
open Go.RowKit
open Go.Proofs.Tryz
set_option maxRecDepth 10000
set_option maxHeartbeats 2000000
variable {N:Nat}{S:Nat→Prop}{L:List HP}{h:AS}
def NY (hs:St S L h) {m:Value}{d:(List Int)}(s:Sl S h AB m d) {b:Value}{c:(List Int)}(g:Sl S h AB b c) {r:(List Int)}(E:H2 N d c=some r):
 B6 prog 268 #[m,b] S h (λv S' h'=>St S' (OS AB 3 v r::L) h'):=by
 refine A7 30 func268 O ntmps268 O λB=>?_;rw[H2] at E;refine AU ?_;obtain⟨U,E⟩:=KM E;refine J2 (r:=AB) (zx:=0) H5 O ⟨O,by unfold AA;omega⟩ O O U O O hs λQ h4 V e6=>AU ?_;have k7:=s.mono' e6;refine VR (r:=AB) (l:=(List.replicate ((↑d.length:Int):Int).toNat (0:Int))) (xs:=d) O O Ce.1 (Sl.src k7) O V .head λW X ae=>?_;have Y:=g.nw;refine AU ?_;refine AN (λa w=>∃(t:List Int),IV B S W (30,[]) a w [(5,Q)] (OS AB 3 Q t::L) λ_ _=>HS N t=some r) ?_ ?_
 ·refine AY (λn1=>λa w=>∃(k:Int) (o:List Int),IV B S W (30,[]) a w [(15,vI (↑c.length:Int)),(14,b),(5,Q),(16,vI k)] (OS AB 3 Q o::L) λ_ _=>AA k∧FY N c (HS N) n1 k o=some r) N ?_ ?_ ?_
  ·intro u y p q;exact⟨0,(Pf (List.replicate ((↑d.length:Int):Int).toNat (0:Int)) d),_,_,p.sub (kp [15,14,5,16] O),q,X,(CG.refl S W),(iq (n:=0) O),E⟩
  ·rintro u y ⟨_,_,_,_,_,_,_,_,_,E⟩;rw[FY] at E;cases E
  rintro n1 u y ⟨k,o,af,ag,p,q,j,z,ah,E⟩;refine AK ?_ p q;clear p q y u;rw[FY] at E;refine AU ?_;refine AG O E (λZ E=>?_) (λZ E=>?_)
  ·refine AU ?_;refine A3 (AU ?_);have ab:=Y.mono' z;refine A4 E O O ab Ce.1 O λA E ai aj=>AU ?_;obtain⟨ak,C,E⟩:=bd E;refine BT j mh O O Ce.1 C O λal D=>?_;obtain⟨F,G,E⟩:=bd E;have ac:=j.epAt mh G Ff.id D;refine FU K9 (λ_ x=>x) O ac Gq.1 O λam=>AU ?_;obtain⟨an,H,E⟩:=bd E;refine BT j mh O O Ce.1 H O λao I=>AU ?_;obtain⟨ad,J,E⟩:=bd E;refine FK (r:=AB) (l:=o) (i:=k) (x:=ad) O O (⟨_,O,O,(BF _)⟩:Rd _ _ AB _ (A9 (F-A))) I J Nh.id Gq.1 (λ_=>rfl) j .head λap K aq=>AU ?_;refine BE (AU ?_);refine WF.nil (λu y p q=>?_);exact⟨(A9 (k+1)),(upd o k (A9 (F-A))),_,_,p.sub (kp [15,14,5,16] O),q,K,EX,(BF _),E⟩
  refine A8 O (λu y p q=>?_);exact⟨o,_,_,p.sub (kp [5] O),q,j,z,E⟩
 rintro u y ⟨t,ar,au,p,q,M,av,E⟩;refine AK ?_ p q;clear p q y u;rw[HS] at E;refine AU ?_;cases E;exact KG M O O EX
def Tr (hs:St S L h) {d:Value}{c:(List Int)}(n:Sl S h AB d c) {b:Int}(g:AA b) {j:Int}(t:AA j) {r:(List Int)×(List Int)}(E:Lr N c b j=some r):
 B6 prog 216 #[d,vI b,vI j] S h (λv S' h'=>∃A C:Value,v= .tuple #[A,C]∧St S' (OS AB 3 A r.1::OS AB 3 C r.2::L) h'):=by
 refine A7 27 func216 O ntmps216 O λB=>?_;rw[Lr] at E;refine AU ?_;obtain⟨W,E⟩:=KM E;refine J2 (r:=AB) (zx:=0) H5 O ⟨O,by unfold AA;omega⟩ O O W O O hs λv3 h4 D e6=>AU ?_;refine BY (.inl O) D (AU ?_);have k7:=n.mono' e6;refine B4 E O O O eL O (λX Y h' o=>Qm (St.all h') (k7.mono' (o.all D.1)) g Y) λX E r9=>?_;have Z:=r9;refine XU O O O (AU ?_);refine BG (kp [8,6,0,1] O) λF q aj=>AU ?_;refine Gx (λa w=>∃(z:List Int),IV B S F (27,[]) a w [(6,v3),(0,d)] (OS AB 3 v3 z::L) λ_ _=>Ip N c z=some r) ?_ ?_
 ·refine AG O E (λab E=>?_) (λab E=>?_)
  ·refine AU ?_;obtain⟨ak,G,E⟩:=bd E;refine BT q mh O O Ce.1 G O λal H=>AU ?_;obtain⟨ac,I,E⟩:=bd E;refine FK (r:=AB) (l:=(List.replicate ((↑c.length:Int):Int).toNat (0:Int))) (i:=b) (x:=ac) O O (⟨_,O,O,(Nc t Z)⟩:Rd _ _ AB _ (min j X)) H I Nh.id Gq.1 (λ_=>rfl) q .head λam J ad=>AU ?_;refine WF.nil (λU V s u=>?_);exact⟨(upd (List.replicate ((↑c.length:Int):Int).toNat (0:Int)) b (min j X)),_,_,s.sub (kp [6,0] O),u,J,ad,E⟩
  refine AU ?_;refine WF.nil (λU V s u=>?_);exact⟨(List.replicate ((↑c.length:Int):Int).toNat (0:Int)),_,_,s.sub (kp [6,0] O),u,q,(CG.refl S F),E⟩
 rintro U V ⟨z,an,ao,s,u,m,ap,E⟩;refine AK ?_ s u;clear s u V U;rw[Ip] at E;refine AU ?_;refine B1 (AU ?_);have ae:=n.nw;refine Cf E O O O eC O m (λaf K=>NY (St.all _) (ae.mono m.ea.1 m.ea.2) (m.oslAll mh) K) λaf E aq ar au ai ag ah p=>?_;have M:=p;have y:=m.join ah M ⟨OS.flat (λ{_ _ _ _ _ _} k=>k),trivial⟩;simp only[Aa4,Aav] at y;refine AU ?_;refine B0 (λU V s u=>?_);have Q:=y.sel [1,0] 0 O;cases E;exact JC s O u (G4 (IC s (v:=_) O) (G4 (IC s (v:=_) O) JB)) O ((e6.trans EX).trans ag) ⟨_,_,O,Q⟩
def OP (q:St S L h) {a:Value}{b:(List Int)}(c:Sl S h AB a b) {d:Value}{l:HV}(g:Pt S h Gl d l) {r:(List Int)×(List Int)}(E:DN N l b=some r):
 B6 prog 215 #[a,d] S h (λv S' h'=>∃m n:Value,v= .tuple #[m,n]∧St S' (OS AB 3 m r.1::OS AB 3 n r.2::L) h'):=by
 refine A7 13 func215 O ntmps215 O λB=>?_;rw[DN] at E;refine AU ?_;refine B1 ?_;have y:=g.fl P2;have z:=y.i;have A:=g.fl HV.f_Litres;have C:=A.i;refine AU ?_;refine Cf E O O O qM O q (λD s=>Tr (St.all _) (c.mono q.ea.1 q.ea.2) z C s) λD E J K F x t u p=>?_;obtain⟨G,H,rfl,o⟩:=p;have j:=q.join u o ⟨OS.flat (λ{_ _ _ _ _ _} k=>k),⟨OS.flat (λ{_ _ _ _ _ _} k=>k),trivial⟩⟩;simp only[Aa4,Aav] at j;refine AU ?_;refine B0 (λM Q w I=>?_);cases E;exact JC w O I (G4 (IC w (v:=_) O) (G4 (IC w (v:=_) O) JB)) O t ⟨_,_,O,j⟩
def Pj {ac:Nat}{p0_w:AL}{K:Value}{Q:Value}{U:Value}{V:Value}{W:Value}{X:Value}{Y:Value}{ab:Value}{u:Value}{z:Value}{D:Value}{t:Value}{G:Value}{c:Value}{d:Value}{g:Value}{i:Value}{j:Value}{k:Value}{m:Value}{p:Value}{q:Value}(hs:St S (Bx ac 160 [.string p0_w.b.J,K,vI p0_w.b.P,Q,U,V,W,X,Y,ab,vI p0_w.b.S,u,z,D,t,G,vI p0_w.s.C,c,d,g,i,j,k,m,p,q]::OS (A6.sl AB) 29 c p0_w.s.E::OS AB 3 d p0_w.s.M::OS AZ 121 g p0_w.s.H::OS BJ 106 i p0_w.s.O::OS AB 3 j p0_w.s.N::OS AB 3 k p0_w.s.L::OS BO 74 m p0_w.moves::OS AB 3 p p0_w.peaks::OS AZ 121 q p0_w.sent::L) h) (a5:p0_w.b.J.size≤maxLen) (am:Sl S h A6.str K p0_w.b.I) (a6:AA p0_w.b.P) (af:Sl S h CJ Q p0_w.b.A) (a7:Sl S h B7 U p0_w.b.F) (a8:Sl S h HO V p0_w.b.Ab) (a9:Sl S h Eh W p0_w.b.Ae) (ba:Sl S h Gy X p0_w.b.Af) (bb:Sl S h DD Y p0_w.b.Ai) (bc:Sl S h AB ab p0_w.b.Al) (av:AA p0_w.b.S) (aw:Sl S h AB u p0_w.in_.Aa) (ax:Sl S h Gm z p0_w.in_.Ah) (ay:Sl S h Jy D p0_w.in_.Aj) (aj:Sl S h Gl t p0_w.in_.Z) (az:Sl S h Ha G p0_w.in_.Aq) (a1:AA p0_w.s.C) {ag:Int}(bx:AA ag) {r:(List AD)}(E:HR N p0_w ag=some r):
 B6 prog 165 #[vP ac 0,vI ag] S h (λv S' h'=>St S' (OS A0 259 v r::Bx ac 160 [.string p0_w.b.J,K,vI p0_w.b.P,Q,U,V,W,X,Y,ab,vI p0_w.b.S,u,z,D,t,G,vI p0_w.s.C,c,d,g,i,j,k,m,p,q]::OS (A6.sl AB) 29 c p0_w.s.E::OS AB 3 d p0_w.s.M::OS AZ 121 g p0_w.s.H::OS BJ 106 i p0_w.s.O::OS AB 3 j p0_w.s.N::OS AB 3 k p0_w.s.L::OS BO 74 m p0_w.moves::OS AB 3 p p0_w.peaks::OS AZ 121 q p0_w.sent::L) h'):=by
 refine A7 85 func165 O ntmps165 O λB=>?_;rw[HR] at E;refine AU ?_;refine AN (λa w=>∃(v2:Value) (l3:List AD),IV B S h (85,[]) a w [(5,v2)] (OS A0 259 v2 l3::Bx ac 160 [.string p0_w.b.J,K,vI p0_w.b.P,Q,U,V,W,X,Y,ab,vI p0_w.b.S,u,z,D,t,G,vI p0_w.s.C,c,d,g,i,j,k,m,p,q]::OS (A6.sl AB) 29 c p0_w.s.E::OS AB 3 d p0_w.s.M::OS AZ 121 g p0_w.s.H::OS BJ 106 i p0_w.s.O::OS AB 3 j p0_w.s.N::OS AB 3 k p0_w.s.L::OS BO 74 m p0_w.moves::OS AB 3 p p0_w.peaks::OS AZ 121 q p0_w.sent::L) λ_ _=>Cu N l3=some r) ?_ ?_
 ·refine AY (λn1=>λa w=>∃(v8:Value) (l9:List AD) (ak:Int),IV B S h (85,[]) a w [(13,vI (↑p0_w.in_.Z.length:Int)),(12,t),(0,vP ac 0),(1,vI ag),(5,v8),(14,vI ak)] (OS A0 259 v8 l9::Bx ac 160 [.string p0_w.b.J,K,vI p0_w.b.P,Q,U,V,W,X,Y,ab,vI p0_w.b.S,u,z,D,t,G,vI p0_w.s.C,c,d,g,i,j,k,m,p,q]::OS (A6.sl AB) 29 c p0_w.s.E::OS AB 3 d p0_w.s.M::OS AZ 121 g p0_w.s.H::OS BJ 106 i p0_w.s.O::OS AB 3 j p0_w.s.N::OS AB 3 k p0_w.s.L::OS BO 74 m p0_w.moves::OS AB 3 p p0_w.peaks::OS AZ 121 q p0_w.sent::L) λ_ _=>AA ak∧B5 N p0_w ag (Cu N) n1 l9 ak=some r) N ?_ ?_ ?_
  ·intro aa ww hf hw;have be:=hs.nil A0 259;exact⟨(vN),([]:List AD),0,_,_,hf.sub (kp [13,12,0,1,5,14] O),hw,be,(CG.refl S h),(iq (n:=0) O),E⟩
  ·rintro aa ww ⟨_,_,_,_,_,_,_,_,_,_,E⟩;rw[B5] at E;cases E
  rintro n1 aa ww ⟨v8,l9,ak,bz,b0,hf,hw,aq,bf,cy,E⟩;refine AK ?_ hf hw;clear hf hw ww aa;rw[B5] at E;refine AU ?_;refine AG O E (λb1 E=>?_) (λb1 E=>?_)
  ·refine AU ?_;refine AN (λa w=>∃(an:Value) (ao:List AD),IV B bz b0 (85,[]) a w [(13,vI (↑p0_w.in_.Z.length:Int)),(12,t),(0,vP ac 0),(1,vI ag),(14,vI ak),(5,an)] (OS A0 259 an ao::Bx ac 160 [.string p0_w.b.J,K,vI p0_w.b.P,Q,U,V,W,X,Y,ab,vI p0_w.b.S,u,z,D,t,G,vI p0_w.s.C,c,d,g,i,j,k,m,p,q]::OS (A6.sl AB) 29 c p0_w.s.E::OS AB 3 d p0_w.s.M::OS AZ 121 g p0_w.s.H::OS BJ 106 i p0_w.s.O::OS AB 3 j p0_w.s.N::OS AB 3 k p0_w.s.L::OS BO 74 m p0_w.moves::OS AB 3 p p0_w.peaks::OS AZ 121 q p0_w.sent::L) λ_ _=>Ej N ak (B5 N p0_w ag (Cu N) n1) ao=some r) ?_ ?_
   ·refine AU ?_;have b2:=aj.mono' bf;refine A4 E O O b2 uC.1 O λai E cz b3=>?_;obtain⟨c0,_,b4⟩:=b3.lv;refine AU ?_;refine CP nA O aq λap c1 bg b5=>?_;have b6:=b4.mono b5;obtain⟨rfl,⟨b7,bh,b8,a2⟩⟩:=Gl.ex b6;refine C0 O O O O nQ.1 O bg .head O λc2 bi c3=>AU ?_;refine BY (.inr ⟨mo,by kernel_rfl⟩) bi (AU ?_);obtain⟨b9,ah,E⟩:=bd E;refine AW 11 33 (.bool b9) ?_ ?_
    ·cases bj:(decide (ai.Ar≠ag))
     ·have ah:=Gw bj ah;have ca:=am.nw;have cb:=ca.le;refine AU ?_;refine A5 ah O O O PB O (λcc bk h' o=>HK (St.all h') bh (KU cb) bk) λcc ah=>AU ?_;cases ah;exact AX O
     have ah:=Gv bj ah;cases ah;exact BD O O
    refine AU ?_;refine BG (kp [38,7,13,12,0,1,5,14] O) λc4 ar c5=>AG O E (λcd E=>?_) (λcd E=>?_)
    ·refine A8 O (λaa ww hf hw=>?_);have bl:=ar.sel [1,1,1,1,1,1,1,1,1,1,1] 1 O;exact⟨v8,l9,_,_,hf.sub (kp [13,12,0,1,14,5] O),hw,bl,EX,E⟩
    refine AU ?_;refine BY (.inr ⟨mo,by kernel_rfl⟩) ar (AU ?_);obtain⟨ce,ad,E⟩:=bd E;refine AW 33 75 (.bool ce) ?_ ?_
    ·cases bm:(decide (ai.B≠(-1)))
     ·have ad:=Gw bm ad;cases ad;exact BD O O
     have ad:=Gv bm ad;have cf:=af.nw;have cg:=cf.le;refine AU ?_;refine A5 ad O O O PB O (λbn bo h' o=>HK (St.all h') a2 (KU cg) bo) λbn ad=>AU ?_;obtain⟨ch,ae,ad⟩:=bd ad;refine AW 21 74 (.bool ch) ?_ ?_
     ·cases bp:(!bn)
      ·have ae:=Gw bp ae;refine AU ?_;have ci:=af.nw;refine A4 ae O O ci Kk.1 O λc6 ae c7 c8=>AU ?_;have cj:=af.nw;refine A4 ae O O cj Kk.1 O λc9 ae da db=>AU ?_;cases ae;exact AX O
      have ae:=Gv bp ae;cases ae;exact BD O O
     refine AU ?_;cases ad;exact AX O
    refine BG (kp [75,7,13,12,0,1,5,14] O) λck au dc=>AG O E (λcl E=>?_) (λcl E=>?_)
    ·refine A8 O (λaa ww hf hw=>?_);have bq:=au.sel [1,1,1,1,1,1,1,1,1,1,1] 1 O;exact⟨v8,l9,_,_,hf.sub (kp [13,12,0,1,14,5] O),hw,bq,EX,E⟩
    refine AU ?_;refine PM O O O (FV (cs:=[vI ai.B,vI 0,vI (-3),.func (.func 215) #[] #[vP ap 0]]) RM O O O (AU ?_));obtain⟨cm,br,dd,cn⟩:=au.pubb (r:=Gl) (x:=ai) .head ⟨O,⟨b7,bh,b8,a2⟩⟩;have bs:Rd cm ck (A6.fnr prog (λS h vs (x:(List Int))=>∃w0:Value,vs=[w0]∧Sl S h AB w0 x) (λS h v (y:((List Int)×(List Int)))=>∃w0 w1:Value,v= .tuple #[w0,w1]∧Sl S h AB w0 y.1∧Sl S h AB w1 y.2)) (.func (.func 215) #[] #[(vP ap 0)]) (λx=>DN N ai x):=Ni 215 #[(vP ap 0)] qO λS' h' s' e' L hs x y vs h1 h2=>by obtain⟨w0,rfl,a0⟩:=h1;exact PY (OP hs a0 (cn.mono'' s' e') h2)
    refine Ez (cs:=[vI ai.B,vI 0,vI (-3),(.func (.func 215) #[] #[(vP ap 0)])]) NJ O O O O O O O br λde df bt co=>?_;obtain⟨bu,E⟩:=KM E;have cp:=bs.mono co;refine Jw (r:=A0) (l:=l9) (xs:=([(⟨ai.B,0,(-3),(λx=>DN N ai x)⟩:AD)]:List AD)) O O NJ O mh ⟨_,_,O,⟨_,O,a2,(iq (n:=0) O),(iq (n:=(-3)) O),cp⟩,O⟩ O O bu O bt (λ_=>(.tail .head)) λcq dg bv dh=>?_;have bw:=bv.drop .head;refine AU ?_;refine WF.nil (λaa ww hf hw=>?_);exact⟨cq,(l9++([(⟨ai.B,0,(-3),(λx=>DN N ai x)⟩:AD)]:List AD)),_,_,hf.sub (kp [13,12,0,1,14,5] O),hw,bw,EX,E⟩
   rintro aa ww ⟨an,ao,cr,ct,hf,hw,a3,cu,E⟩;refine AK ?_ hf hw;clear hf hw ww aa;rw[Ej] at E;refine AU ?_;refine WF.nil (λaa ww hf hw=>?_);exact⟨an,ao,(A9 (ak+1)),_,_,hf.sub (kp [13,12,0,1,5,14] O),hw,a3,EX,(BF _),E⟩
  refine A8 O (λaa ww hf hw=>?_);exact⟨v8,l9,_,_,hf.sub (kp [5] O),hw,aq,bf,E⟩
 rintro aa ww ⟨v2,l3,cv,cw,hf,hw,a4,cx,E⟩;refine AK ?_ hf hw;clear hf hw ww aa;rw[Cu] at E;refine AU ?_;cases E;exact KG a4 O O EX
def L7 (i:St S L h) {a:Int}(c:IntKind.has .u64 a) {b:Int}(d:IntKind.has .u64 b) {r:Int×Int}(E:HT N a b=some r):
 B6 prog 266 #[.int .u64 a,.int .u64 b] S h (λv S' h'=>v= .tuple #[.int .u64 r.1,.int .u64 r.2]∧IntKind.has .u64 r.1∧IntKind.has .u64 r.2∧St S' (L) h'):=by
 refine A7 51 func266 O ntmps266 O λB=>?_;rw[HT] at E;refine AU ?_;refine JU (j:=32) O O O O (AU ?_);refine JU (j:=32) O O O O (AU ?_);refine JU (j:=32) O O O O (AU ?_);refine JU (j:=32) O O O O (AU ?_);refine JU (j:=32) O O O O (AU ?_);refine B0 (λl m g k=>?_);cases E;exact JC g O k (G4 (IC g (v:=_) O) (G4 (IC g (v:=_) O) JB)) O (CG.refl S h) ⟨O,(Ct _ _),(Ct _ _),i⟩
def Pq (I:St S L h) {d:Int}(g:IntKind.has .u64 d) {r:Int}(E:IT N d=some r):
 B6 prog 302 #[.int .u64 d] S h (λv S' h'=>v=vI r∧AA r∧St S' (L) h'):=by
 refine A7 25 func302 O ntmps302 O λB=>?_;rw[IT] at E;refine AU ?_;refine Gx (λa w=>∃(x:Int) (y:Int),IV B S h (25,[]) a w [(0,.int .u64 x),(2,vI y)] (L) λ_ _=>IntKind.has .u64 x∧AA y∧GL N x y=some r) ?_ ?_
 ·refine AG O E (λM E=>?_) (λM E=>?_)
  ·refine AU ?_;refine JU (j:=32) O O O O (AU ?_);refine WF.nil (λl m b c=>?_);exact⟨(EJ .u64 d 32),32,_,_,b.sub (kp [0,2] O),c,I,(CG.refl S h),(Qt _ g _),(iq (n:=32) O),E⟩
  refine AU ?_;refine WF.nil (λl m b c=>?_);exact⟨d,0,_,_,b.sub (kp [0,2] O),c,I,(CG.refl S h),g,(iq (n:=0) O),E⟩
 rintro l m ⟨x,y,C,D,b,c,z,e9,J,Q,E⟩;refine AK ?_ b c;clear b c m l;rw[GL] at E;refine AU ?_;refine Gx (λa w=>∃(i:Int) (k:Int),IV B C D (25,[]) a w [(0,.int .u64 i),(2,vI k)] (L) λ_ _=>IntKind.has .u64 i∧AA k∧GK N i k=some r) ?_ ?_
 ·refine AG O E (λF E=>?_) (λF E=>?_)
  ·refine AU ?_;refine JU (j:=16) O O O O (AU ?_);refine WF.nil (λl m b c=>?_);exact⟨(EJ .u64 x 16),(A9 (y+16)),_,_,b.sub (kp [0,2] O),c,z,(CG.refl C D),(Qt _ J _),(BF _),E⟩
  refine AU ?_;refine WF.nil (λl m b c=>?_);exact⟨x,y,_,_,b.sub (kp [0,2] O),c,z,(CG.refl C D),J,Q,E⟩
 rintro l m ⟨i,k,t,u,b,c,q,U,A,G,E⟩;refine AK ?_ b c;clear b c m l;rw[GK] at E;refine AU ?_;refine Gx (λa w=>∃(o:Int) (p:Int),IV B t u (25,[]) a w [(0,.int .u64 o),(2,vI p)] (L) λ_ _=>IntKind.has .u64 o∧AA p∧GJ N o p=some r) ?_ ?_
 ·refine AG O E (λH E=>?_) (λH E=>?_)
  ·refine AU ?_;refine JU (j:=8) O O O O (AU ?_);refine WF.nil (λl m b c=>?_);exact⟨(EJ .u64 i 8),(A9 (k+8)),_,_,b.sub (kp [0,2] O),c,q,(CG.refl t u),(Qt _ A _),(BF _),E⟩
  refine AU ?_;refine WF.nil (λl m b c=>?_);exact⟨i,k,_,_,b.sub (kp [0,2] O),c,q,(CG.refl t u),A,G,E⟩
 rintro l m ⟨o,p,V,W,b,c,K,X,Y,Z,E⟩;refine AK ?_ b c;clear b c m l;rw[GJ] at E;refine AU ?_;refine Dv O If Wp O ?_;obtain⟨ab,s,E⟩:=bd E;have ac:=Lg s;exact Li O O MU s O (Dv O Wp MC O (RT))
def Lz (d:St S L h) {a:Int}(b:IntKind.has .u64 a) {r:Int}(E:Eo N a=some r):
 B6 prog 289 #[.int .u64 a] S h (λv S' h'=>v=vI r∧AA r∧St S' (L) h'):=by
 refine A7 6 func289 O ntmps289 O λB=>?_;rw[Eo] at E;refine AU ?_;refine BY (.inl O) d (AU ?_);refine B4 E O O O pO O (λg c h' o=>Pq (St.all h') b c) λg E i=>?_;have k:=i;refine AU ?_;exact BG (kp [2] O) λl j m=>RT
def L8 (hs:St S L h) {d:Int}(X:IntKind.has .u64 d) {b:Int}(x:IntKind.has .u64 b) {c:Int}(D:IntKind.has .u64 c) {r:Int×Int}(E:FZ N d b c=some r):
 B6 prog 267 #[.int .u64 d,.int .u64 b,.int .u64 c] S h (λv S' h'=>v= .tuple #[.int .u64 r.1,.int .u64 r.2]∧IntKind.has .u64 r.1∧IntKind.has .u64 r.2∧St S' (L) h'):=by
 refine A7 135 func267 O ntmps267 O λB=>?_;rw[FZ] at E;refine AU ?_;refine AG O E (λc1 E=>?_) (λc1 E=>?_)
 ·cases E
 refine AU ?_;refine AG O E (λc2 E=>?_) (λc2 E=>?_)
 ·cases E
 refine AU ?_;refine AG O E (λc3 E=>?_) (λc3 E=>?_)
 ·refine AU ?_;refine I0 (.inr ⟨mo,by kernel_rfl⟩) (AU ?_);obtain⟨z4,Y,E⟩:=bd E;have r5:IntKind.has .u64 z4:=Ox Y;refine VM O O O Y (AU ?_);obtain⟨z6,Z,E⟩:=bd E;have r7:IntKind.has .u64 z6:=bZ x Z;refine kE O O O Z (AU ?_);refine B0 (λq s i l=>?_);cases E;exact JC i O l (G4 (IC i (v:=_) O) (G4 (IC i (v:=_) O) JB)) O (CG.refl S h) ⟨O,r5,r7,hs⟩
 refine AU ?_;refine BY (.inl O) hs (AU ?_);refine B4 E O O O pR O (λF aj h' o=>Lz (St.all h') D aj) λF E r9=>?_;have av:=r9;refine Dv O MC Wq O (AU ?_);refine BG (kp [8,0,1,2] O) λJ ab aw=>AU ?_;obtain⟨g,ac,E⟩:=bd E;refine Sa (j:=g) O O O ac (AU ?_);refine JU (j:=32) O O O O (AU ?_);obtain⟨m,ad,E⟩:=bd E;refine Sa (j:=m) O O O ad (AU ?_);obtain⟨n,ae,E⟩:=bd E;refine JU (j:=n) O O O ae (fH O O O (AU ?_));obtain⟨k,af,E⟩:=bd E;refine Sa (j:=k) O O O af (AU ?_);refine JU (j:=32) O O O O (AU ?_);obtain⟨K,H,E⟩:=bd E;have ak:IntKind.has .u64 K:=Ox H;refine VM O O O H (AU ?_);refine AN (λa w=>∃(p:Int),IV B S J (135,[]) a w [(14,.int .u64 (FJ .and .u64 (Dh .u64 b k) 4294967295)),(13,.int .u64 (EJ .u64 (Dh .u64 b k) 32)),(11,.int .u64 (FJ .or .u64 (Dh .u64 d m) (EJ .u64 b n))),(10,.int .u64 (FJ .and .u64 (Dh .u64 c g) 4294967295)),(9,.int .u64 (EJ .u64 (Dh .u64 c g) 32)),(2,.int .u64 (Dh .u64 c g)),(8,.int .u64 (IntKind.wrap .u64 F)),(15,.int .u64 p)] (L) λ_ _=>IntKind.has .u64 p∧DY N d b c F g m n k p=some r) ?_ ?_
 ·refine AY (λn1=>λa w=>∃(t:Int) (y:Int),IV B S J (135,[]) a w [(14,.int .u64 (FJ .and .u64 (Dh .u64 b k) 4294967295)),(13,.int .u64 (EJ .u64 (Dh .u64 b k) 32)),(11,.int .u64 (FJ .or .u64 (Dh .u64 d m) (EJ .u64 b n))),(10,.int .u64 (FJ .and .u64 (Dh .u64 c g) 4294967295)),(9,.int .u64 (EJ .u64 (Dh .u64 c g) 32)),(2,.int .u64 (Dh .u64 c g)),(8,.int .u64 (IntKind.wrap .u64 F)),(15,.int .u64 t),(16,.int .u64 y)] (L) λ_ _=>IntKind.has .u64 t∧IntKind.has .u64 y∧DC N b c g k (DY N d b c F g m n k) n1 t y=some r) N ?_ ?_ ?_
  ·intro q s i l;exact⟨K,(IntKind.wrap .u64 ((FJ .or .u64 (Dh .u64 d m) (EJ .u64 b n))-(IntKind.wrap .u64 (K*(EJ .u64 (Dh .u64 c g) 32))))),_,_,i.sub (kp [14,13,11,10,9,2,8,15,16] O),l,ab,(CG.refl S J),ak,(Ct _ _),E⟩
  ·rintro q s ⟨_,_,_,_,_,_,_,_,_,_,E⟩;rw[DC] at E;cases E
  rintro n1 q s ⟨t,y,ax,ay,i,l,z,M,al,az,E⟩;refine AK ?_ i l;clear i l s q;rw[DC] at E;refine AU ?_;refine AG O E (λam E=>?_) (λam E=>?_)
  ·refine AU ?_;refine A3 (AU ?_);refine AG O E (λan E=>?_) (λan E=>?_)
   ·refine A8 O (λq s i l=>?_);exact⟨(IntKind.wrap .u64 (t-1)),_,_,i.sub (kp [14,13,11,10,9,2,8,15] O),l,z,M,(Ct _ _),E⟩
   refine AU ?_;refine BE (WF.nil (λq s i l=>?_));exact⟨(IntKind.wrap .u64 (t-1)),(IntKind.wrap .u64 (y+(EJ .u64 (Dh .u64 c g) 32))),_,_,i.sub (kp [14,13,11,10,9,2,8,15,16] O),l,z,M,(Ct _ _),(Ct _ _),E⟩
  refine A8 O (λq s i l=>?_);exact⟨t,_,_,i.sub (kp [14,13,11,10,9,2,8,15] O),l,z,M,al,E⟩
 rintro q s ⟨p,Q,U,i,l,ag,a0,a1,E⟩;refine AK ?_ i l;clear i l s q;rw[DY] at E;refine AU ?_;obtain⟨V,I,E⟩:=bd E;have ao:IntKind.has .u64 V:=Ox I;refine VM O O O I (AU ?_);refine AN (λa w=>∃(G:Int),IV B Q U (135,[]) a w [(17,.int .u64 (IntKind.wrap .u64 ((IntKind.wrap .u64 ((IntKind.wrap .u64 ((FJ .or .u64 (Dh .u64 d m) (EJ .u64 b n))*4294967296))+(EJ .u64 (Dh .u64 b k) 32)))-(IntKind.wrap .u64 (p*(Dh .u64 c g)))))),(14,.int .u64 (FJ .and .u64 (Dh .u64 b k) 4294967295)),(2,.int .u64 (Dh .u64 c g)),(8,.int .u64 (IntKind.wrap .u64 F)),(15,.int .u64 p),(18,.int .u64 G)] (L) λ_ _=>IntKind.has .u64 G∧Ep N d b c F g m n k p G=some r) ?_ ?_
 ·refine AY (λn3=>λa w=>∃(A:Int) (u:Int),IV B Q U (135,[]) a w [(17,.int .u64 (IntKind.wrap .u64 ((IntKind.wrap .u64 ((IntKind.wrap .u64 ((FJ .or .u64 (Dh .u64 d m) (EJ .u64 b n))*4294967296))+(EJ .u64 (Dh .u64 b k) 32)))-(IntKind.wrap .u64 (p*(Dh .u64 c g)))))),(14,.int .u64 (FJ .and .u64 (Dh .u64 b k) 4294967295)),(10,.int .u64 (FJ .and .u64 (Dh .u64 c g) 4294967295)),(9,.int .u64 (EJ .u64 (Dh .u64 c g) 32)),(2,.int .u64 (Dh .u64 c g)),(8,.int .u64 (IntKind.wrap .u64 F)),(15,.int .u64 p),(16,.int .u64 A),(18,.int .u64 u)] (L) λ_ _=>IntKind.has .u64 A∧IntKind.has .u64 u∧DX N b c g k (Ep N d b c F g m n k p) n3 A u=some r) N ?_ ?_ ?_
  ·intro q s i l;exact⟨(IntKind.wrap .u64 ((IntKind.wrap .u64 ((IntKind.wrap .u64 ((IntKind.wrap .u64 ((FJ .or .u64 (Dh .u64 d m) (EJ .u64 b n))*4294967296))+(EJ .u64 (Dh .u64 b k) 32)))-(IntKind.wrap .u64 (p*(Dh .u64 c g)))))-(IntKind.wrap .u64 (V*(EJ .u64 (Dh .u64 c g) 32))))),V,_,_,i.sub (kp [17,14,10,9,2,8,15,16,18] O),l,ag,(CG.refl Q U),(Ct _ _),ao,E⟩
  ·rintro q s ⟨_,_,_,_,_,_,_,_,_,_,E⟩;rw[DX] at E;cases E
  rintro n3 q s ⟨A,u,a2,a3,i,l,C,W,a4,ap,E⟩;refine AK ?_ i l;clear i l s q;rw[DX] at E;refine AU ?_;refine AG O E (λaq E=>?_) (λaq E=>?_)
  ·refine AU ?_;refine A3 (AU ?_);refine AG O E (λar E=>?_) (λar E=>?_)
   ·refine A8 O (λq s i l=>?_);exact⟨(IntKind.wrap .u64 (u-1)),_,_,i.sub (kp [17,14,2,8,15,18] O),l,C,W,(Ct _ _),E⟩
   refine AU ?_;refine BE (WF.nil (λq s i l=>?_));exact⟨(IntKind.wrap .u64 (A+(EJ .u64 (Dh .u64 c g) 32))),(IntKind.wrap .u64 (u-1)),_,_,i.sub (kp [17,14,10,9,2,8,15,16,18] O),l,C,W,(Ct _ _),(Ct _ _),E⟩
  refine A8 O (λq s i l=>?_);exact⟨u,_,_,i.sub (kp [17,14,2,8,15,18] O),l,C,W,ap,E⟩
 rintro q s ⟨G,a5,a6,i,l,ah,a7,a8,E⟩;refine AK ?_ i l;clear i l s q;rw[Ep] at E;refine AU ?_;obtain⟨au,ai,E⟩:=bd E;refine JU (j:=au) O O O ai (AU ?_);refine B0 (λq s i l=>?_);cases E;exact JC i O l (G4 (IC i (v:=_) O) (G4 (IC i (v:=_) O) JB)) O EX ⟨O,(Ct _ _),(Qt _ (Ct _ _) _),ah⟩
def JJ (F:St S L h) {d:Int}(s:AA d) {a:Int}(l:AA a) {b:Int}(m:AA b) {r:Int×Int×Bool}(E:Fk N d a b=some r):
 B6 prog 212 #[vI d,vI a,vI b] S h (λv S' h'=>v= .tuple #[vI r.1,vI r.2.1,.bool r.2.2]∧AA r.1∧AA r.2.1∧St S' (L) h'):=by
 refine A7 61 func212 O ntmps212 O λB=>?_;rw[Fk] at E;refine AU ?_;refine AG O E (λG E=>?_) (λG E=>?_)
 ·refine AU ?_;refine B0 (λu w c k=>?_);cases E;exact JC c O k (G4 (IC c (v:=_) O) (G4 (IC c (v:=_) O) (G4 (IC c (v:=_) O) JB))) O (CG.refl S h) ⟨O,(iq (n:=0) O),(iq (n:=0) O),F⟩
 refine AU ?_;refine BY (.inl O) F (AU ?_);refine Dv O MC If O (AU ?_);refine Dv O MC If O ?_;obtain⟨t,x,E⟩:=bd E;refine H6 (v:= .tuple #[.int .u64 t.1,.int .u64 t.2]) (Ψ:=IntKind.has .u64 t.1∧IntKind.has .u64 t.2) O O O eE O (λh' o=>(L7 (St.all h') (Ct _ _) (Ct _ _) x).mono λ_ _ _ _ p=>⟨p.1,⟨p.2.1,p.2.2.1⟩⟩) λH=>?_;obtain⟨I,y⟩:=H;refine AU ?_;refine BG (kp [10,9,2] O) λJ i z=>AU ?_;refine Dv O MC If O (AU ?_);refine AG O E (λA E=>?_) (λA E=>?_)
 ·refine AU ?_;refine B0 (λu w c k=>?_);cases E;exact JC c O k (G4 (IC c (v:=_) O) (G4 (IC c (v:=_) O) (G4 (IC c (v:=_) O) JB))) O z ⟨O,(iq (n:=0) O),(iq (n:=0) O),i⟩
 refine AU ?_;refine BY (.inl O) i (AU ?_);refine Dv O MC If O ?_;obtain⟨g,q,E⟩:=bd E;refine H6 (v:= .tuple #[.int .u64 g.1,.int .u64 g.2]) (Ψ:=IntKind.has .u64 g.1∧IntKind.has .u64 g.2) O O O eD O (λh' o=>(L8 (St.all h') I y (Ct _ _) q).mono λ_ _ _ _ p=>⟨p.1,⟨p.2.1,p.2.2.1⟩⟩) λC=>?_;obtain⟨K,M⟩:=C;refine AU ?_;refine BG (kp [12,11] O) λQ j U=>AU ?_;refine AG O E (λD E=>?_) (λD E=>?_)
 ·refine AU ?_;refine B0 (λu w c k=>?_);cases E;exact JC c O k (G4 (IC c (v:=_) O) (G4 (IC c (v:=_) O) (G4 (IC c (v:=_) O) JB))) O EX ⟨O,(iq (n:=0) O),(iq (n:=0) O),j⟩
 refine AU ?_;refine Dv O If MC O (AU ?_);refine Dv O If MC O (AU ?_);refine B0 (λu w c k=>?_);cases E;exact JC c O k (G4 (IC c (v:=_) O) (G4 (IC c (v:=_) O) (G4 (IC c (v:=_) O) JB))) O EX ⟨O,(BF _),(BF _),j⟩
def J4 (l:St S L h) {g:Int}(i:AA g) {a:Int}(c:AA a) {b:Int}(d:AA b) {r:Int}(E:Hn N g a b=some r):
 B6 prog 262 #[vI g,vI a,vI b] S h (λv S' h'=>v=vI r∧AA r∧St S' (L) h'):=by
 refine A7 21 func262 O ntmps262 O λB=>?_;rw[Hn] at E;refine AU ?_;refine BY (.inl O) l (AU ?_);obtain⟨j,k,E⟩:=bd E;refine H6 (v:= .tuple #[vI j.1,vI j.2.1,.bool j.2.2]) (Ψ:=AA j.1∧AA j.2.1) O O O TQ O (λh' o=>(JJ (St.all h') i c d k).mono λ_ _ _ _ p=>⟨p.1,⟨p.2.1,p.2.2.1⟩⟩) λm=>?_;obtain⟨s,t⟩:=m;refine AU ?_;refine BG (kp [9,7] O) λu n w=>AU ?_;refine AG O E (λq E=>?_) (λq E=>?_)
 ·exact RT
 exact RT
def Tu (H:St S L h) {d:Value}{k:BL}(j:Rd S h B7 d k) {a:Int}(b:AA a) {c:Int}(g:AA c) {r:Int}(E:Ls N k a c=some r):
 B6 prog 264 #[d,vI a,vI c] S h (λv S' h'=>v=vI r∧AA r∧St S' (L) h'):=by
 refine A7 20 func264 O ntmps264 O λB=>?_;rw[Ls] at E;refine AU ?_;refine Bz O j CE O H λK S2 M q Q G=>AU ?_;refine AG O E (λs E=>?_) (λs E=>?_)
 ·exact RT
 refine AU ?_;refine BY (.inl O) q ?_;have t:=G.fl JL;have u:=t.i;have w:=G.fl JM;have x:=w.i;refine AU ?_;refine B4 E O O O TO O (λy l h' o=>J4 (St.all h') g u x l) λy E z=>?_;have A:=z;refine B4 E O O O Rm O (λC m h' o=>JN (St.all h') b A m) λC E D=>?_;have F:=D;refine Td O O O (AU ?_);refine BG (kp [6] O) λI p J=>?_;cases E;exact KG ⟨O,(Rh (iq (n:=0) O) F),p⟩ O O EX
def HX (Y:St S L h) {d:Value}{i:(List BU)}(g:Sl S h CA d i) {r:Bool}(E:EM N i=some r):
 B6 prog 232 #[d] S h (λv S' h'=>v= .bool r∧St S' (L) h'):=by
 refine A7 63 func232 O ntmps232 O λB=>?_;rw[EM] at E;refine AU ?_;refine AG O E (λZ E=>?_) (λZ E=>?_)
 ·exact RT
 refine AU ?_;refine AN (λa w=>IV B S h (63,[]) a w [] (L) λ_ _=>G8 N=some r) ?_ ?_
 ·refine AY (λW=>λa w=>∃(p:Int),IV B S h (63,[]) a w [(14,vI (↑i.length:Int)),(13,d),(0,d),(15,vI p)] (L) λ_ _=>AA p∧EL N i (G8 N) W p=some r) N ?_ ?_ ?_
  ·intro m o j k;exact⟨0,_,_,j.sub (kp [14,13,0,15] O),k,Y,(CG.refl S h),(iq (n:=0) O),E⟩
  ·rintro m o ⟨_,_,_,_,_,_,_,_,E⟩;rw[EL] at E;cases E
  rintro W m o ⟨p,ab,ac,j,k,l,q,r9,E⟩;refine AK ?_ j k;clear j k o m;rw[EL] at E;refine AU ?_;refine AG O E (λz E=>?_) (λz E=>?_)
  ·refine AU ?_;refine A3 (AU ?_);have A:=g.mono' q;refine A4 E O O A M4.1 O λC E ad D=>?_;obtain⟨ae,_,F⟩:=D.lv;refine AU ?_;refine CP Ue O l λaf ag s G=>AU ?_;have H:=F.mono G;obtain⟨rfl,⟨ah,ai⟩⟩:=CA.ex H;refine C0 O O O O Uh.1 O s .head O λaj t ak=>AU ?_;refine AG O E (λI E=>?_) (λI E=>?_)
   ·exact RT
   refine AU ?_;refine I0 (.inr ⟨mo,by kernel_rfl⟩) (AU ?_);obtain⟨J,b,E⟩:=bd E;refine AW 21 61 (.bool J) ?_ ?_
   ·cases u:(decide (0<p))
    ·have b:=Gw u b;cases b;exact BD O O
    have b:=Gv u b;refine AU ?_;have K:=g.nw;refine A4 b O O K M4.1 O λM b am an=>AU ?_;obtain⟨Q,c,b⟩:=bd b;refine AW 10 60 (.bool Q) ?_ ?_
    ·cases x:(decide (C.R≤M.R))
     ·have c:=Gw x c;refine AU ?_;have U:=g.nw;refine A4 c O O U M4.1 O λao c ap aq=>AU ?_;cases c;exact AX O
     have c:=Gv x c;cases c;exact BD O O
    refine AU ?_;cases b;exact AX O
   refine AU ?_;refine AG O E (λV E=>?_) (λV E=>?_)
   ·exact RT
   refine AU ?_;refine BE (AU ?_);refine WF.nil (λm o j k=>?_);have y:=t.drop .head;exact⟨(A9 (p+1)),_,_,j.sub (kp [14,13,0,15] O),k,y,EX,(BF _),E⟩
  refine A8 O (λm o j k=>?_);exact⟨_,_,j.sub Nv,k,l,q,E⟩
 rintro m o ⟨ar,au,j,k,X,av,E⟩;refine AK ?_ j k;clear j k o m;rw[G8] at E;exact RT
def SG (X:St S L h) {g:Int}(q:AA g) {i:Value}{p:(Int→Option Bool)}(s:Rd S h (A6.fn prog (λx:Int=>([vI x]:List Value)) (λx:Int=>AA x) (λy:Bool=> .bool y) (λy:Bool=>True)) i p) {r:Int}(E:LY N g p=some r):
 B6 prog 303 #[vI g,i] S h (λv S' h'=>v=vI r∧AA r∧St S' (L) h'):=by
 refine A7 26 func303 O ntmps303 O λB=>?_;rw[LY] at E;obtain⟨H,I,rfl,J,K⟩:=s.fn;refine AU ?_;refine AN (λa w=>∃(F:Int),IV B S h (26,[]) a w [(5,vI F)] (L) λ_ _=>AA F∧Ij N F=some r) ?_ ?_
 ·refine AY (λV=>λa w=>∃(c:Int) (d:Int),IV B S h (26,[]) a w [(1,(.func (.func H) #[] I)),(5,vI c),(6,vI d)] (L) λ_ _=>AA c∧AA d∧GI N p (Ij N) V c d=some r) N ?_ ?_ ?_
  ·intro u z l m;exact⟨0,g,_,_,l.sub (kp [1,5,6] O),m,X,(CG.refl S h),(iq (n:=0) O),q,E⟩
  ·rintro u z ⟨_,_,_,_,_,_,_,_,_,_,E⟩;rw[GI] at E;cases E
  rintro V u z ⟨c,d,Y,Z,l,m,k,t,C,M,E⟩;refine AK ?_ l m;clear l m z u;rw[GI] at E;refine AU ?_;refine AG O E (λQ E=>?_) (λQ E=>?_)
  ·refine AU ?_;refine A3 (AU ?_);refine Dv O MC Wq O (JU (j:=1) O O O O (Dv O Wq MC O (AU ?_)));refine BY (.inl O) k (AU ?_);obtain⟨ab,D,E⟩:=bd E;refine K3 O O O J O (λh' o=>K _ h' (λb G=>Aak (k.1 b (t.sub b G)) o.siz) (λb G=>(o.same b (k.1 b (t.sub b G))).trans (t.same b G)) [] (St.all h') _ _ (BF _) D) (AU ?_);refine BG (kp [21,7,1,5,6] O) λac A ad=>AG O E (λU E=>?_) (λU E=>?_)
   ·refine AU ?_;refine BE (WF.nil (λu z l m=>?_));exact⟨(A9 ((A9 (EJ .u64 (IntKind.wrap .u64 (A9 (c+d))) 1))+1)),d,_,_,l.sub (kp [1,5,6] O),m,A,EX,(BF _),M,E⟩
   refine AU ?_;refine BE (WF.nil (λu z l m=>?_));exact⟨c,(A9 (EJ .u64 (IntKind.wrap .u64 (A9 (c+d))) 1)),_,_,l.sub (kp [1,5,6] O),m,A,EX,C,(BF _),E⟩
  refine A8 O (λu z l m=>?_);exact⟨c,_,_,l.sub (kp [5] O),m,k,t,C,E⟩
 rintro u z ⟨F,ae,af,l,m,W,ag,r6,E⟩;refine AK ?_ l m;clear l m z u;rw[Ij] at E;exact RT
def Qz (l:St S L h) {a:Int}(i:AA a) {b:Value}{g:(List BU)}(d:Pt S h (A6.sl CA) b g) {c:Value}{c2_:Int}(j:Pt S h AB c c2_) {r:Bool}(E:IL N g c2_ a=some r):
 B6 prog 304 #[vI a,b,c] S h (λv S' h'=>v= .bool r∧St S' (L) h'):=by
 refine A7 12 func304 O ntmps304 O λB=>?_;rw[IL] at E;refine AU ?_;refine I0 (.inr ⟨mo,by kernel_rfl⟩) ?_;obtain⟨v1,_,k⟩:=d.ll;refine AU ?_;exact A4 E O O k M4.1 O λm E n o=>RT
def L0 (J:St S L h) {b:Value}{c:(List BU)}(j:Sl S h CA b c) {a:Int}(k:AA a) {r:Int×Bool}(E:Ic N c a=some r):
 B6 prog 288 #[b,vI a] S h (λv S' h'=>v= .tuple #[vI r.1,.bool r.2]∧AA r.1∧St S' (L) h'):=by
 refine A7 63 func288 O ntmps288 O λB=>?_;rw[Ic] at E;refine AU ?_;refine Bz O (Pg j) (λ_=>rfl) O J λq1 S2 h3 K e5 k6=>Bz O (⟨_,O,O,k⟩:Rd _ _ AB _ a) (λ_=>rfl) O K λq7 S8 h9 m M s=>AU ?_;refine BY (.inl O) m ?_;have l:=k6.mono M;obtain⟨ap,_,Q⟩:=l.ll;have U:=Q.le;refine AU ?_;refine PM O O O ?_;have t:Rd S8 h9 (A6.fn prog (λx:Int=>([vI x]:List Value)) (λx:Int=>AA x) (λy:Bool=> .bool y) (λy:Bool=>True)) (.func (.func 304) #[] #[q1,q7]) (λx=>IL N c a x):=Rd.ofFn 304 #[q1,q7] pM λS' h' s' e' L J x y h1 h2=>(Qz J h1 (l.mono'' s' e') (s.mono'' s' e') h2).mono λ_ _ _ _ p=>⟨p.1,trivial,p.2⟩
 refine B4 E O O O pN O (λV u h' o=>SG (St.all h') (KU U) (t.mono (o.all m.1)) u) λV E W=>?_;have aq:=W;refine AU ?_;refine BG (kp [6,3,2] O) λar n w=>AU ?_;refine AG O E (λX E=>?_) (λX E=>?_)
 ·have Y:=l.mono w;obtain⟨au,_,Z⟩:=Y.ll;refine AU ?_;refine A4 E O O Z M4.1 O λav E aw ab=>?_;have ac:=ab.fl Tj;have ad:=ac.i;refine AU ?_;refine B0 (λaa ww d z=>?_);cases E;exact JC d O z (G4 (IC d (v:=_) O) (G4 (IC d (v:=_) O) JB)) O EX ⟨O,ad,n⟩
 have A:=l.mono w;obtain⟨ax,_,ae⟩:=A.ll;refine AU ?_;refine A4 E O O ae M4.1 O λay E az af=>?_;obtain⟨a0,_,ag⟩:=af.lv;refine AU ?_;refine CP Ue O n λa1 a2 C ah=>?_;have ai:=ag.mono ah;obtain⟨rfl,⟨a3,aj⟩⟩:=CA.ex ai;refine C0 O O O O Uh.1 O C .head O λa4 q a5=>?_;have D:=A.nw;refine AU ?_;refine AG O E (λak E=>?_) (λak E=>?_)
 ·refine AU ?_;refine B0 (λaa ww d z=>?_);have F:=q.drop .head;cases E;exact JC d O z (G4 (IC d (v:=_) O) (G4 (IC d (v:=_) O) JB)) O EX ⟨O,aj,F⟩
 refine AU ?_;refine BY (.inr ⟨mo,by kernel_rfl⟩) q ?_;have a6:=s.nw;obtain⟨a7,_,am⟩:=D.ll;refine AU ?_;refine A4 E O O am M4.1 O λa8 E a9 ba=>?_;obtain⟨bb,_,an⟩:=D.ll;refine AU ?_;refine A4 E O O an M4.1 O λbc E be bf=>AU ?_;obtain⟨g,G,E⟩:=bd E;refine H6 (v:= .tuple #[vI g.1,vI g.2.1,.bool g.2.2]) (Ψ:=AA g.1∧AA g.2.1) O O O TQ O (λh' o=>(JJ (St.all h') (BF _) (BF _) (BF _) G).mono λ_ _ _ _ p=>⟨p.1,⟨p.2.1,p.2.2.1⟩⟩) λao=>?_;obtain⟨bg,bh⟩:=ao;refine AU ?_;refine BG (kp [9,8,7] O) λbi H bj=>AU ?_;refine B0 (λaa ww d z=>?_);have I:=H.drop .head;cases E;exact JC d O z (G4 (IC d (v:=_) O) (G4 (IC d (v:=_) O) JB)) O EX ⟨O,(BF _),I⟩
def U9 (l:St S L h) {a:Value}{g:(List BU)}(b:Sl S h CA a g) {c:Int}(d:AA c) {r:Int}(E:Mj N g c=some r):
 B6 prog 263 #[a,vI c] S h (λv S' h'=>v=vI r∧AA r∧St S' (L) h'):=by
 refine A7 17 func263 O ntmps263 O λB=>?_;rw[Mj] at E;refine AU ?_;refine BY (.inl O) l (AU ?_);refine A5 E O O O QM O (λn j h' o=>HX (St.all h') (b.mono' (o.all l.1)) j) λn E=>AU ?_;refine BG (kp [9,0,1] O) λz i p=>AG O E (λq E=>?_) (λq E=>?_)
 ·exact RT
 refine AU ?_;refine BY (.inl O) i (AU ?_);have s:=b.mono' p;refine B4 E O O O XM O (λt k h' o=>L0 (St.all h') (s.mono' (o.all i.1)) d k) λt E u=>?_;have w:=u;refine AU ?_;exact BG (kp [5] O) λx m y=>RT
def Tv (hs:St S L h) {u:Value}{l:BL}(D:Rd S h B7 u l) {d:Int}(p:AA d) {c:Bool}{q:Value}{z:(List BU)}(F:Sl S h CA q z) {b:Int}(k:AA b) {m:Int}(A:AA m) {r:Int}(E:Lt N l d c z b m=some r):
 B6 prog 210 #[u,vI d,.bool c,q,vI b,vI m] S h (λv S' h'=>v=vI r∧AA r∧St S' (L) h'):=by
 refine A7 63 func210 O ntmps210 O λB=>?_;rw[Lt] at E;refine AU ?_;refine Bz O D CE O hs λK S2 y x e5 k6=>AU ?_;refine AN (λa w=>IV B S2 y (63,[]) a w [] (L) λ_ _=>Ir N=some r) ?_ ?_
 ·refine AU ?_;refine AN (λa w=>IV B S2 y (63,[]) a w [(6,K),(4,vI b)] (L) λ_ _=>Iq N l b=some r) ?_ ?_
  ·refine AU ?_;refine AN (λa w=>IV B S2 y (63,[]) a w [(6,K),(2,.bool c),(4,vI b)] (L) λ_ _=>Ky N c (Iq N l b)=some r) ?_ ?_
   ·refine AU ?_;refine AN (λa w=>IV B S2 y (63,[]) a w [(6,K),(2,.bool c),(4,vI b)] (L) λ_ _=>Kx N l c b (Ir N)=some r) ?_ ?_
    ·refine AU ?_;refine AN (λa w=>IV B S2 y (63,[]) a w [(6,K),(1,vI d)] (L) λ_ _=>Kw N l d=some r) ?_ ?_
     ·refine AU ?_;refine AN (λa w=>IV B S2 y (63,[]) a w [(6,K),(1,vI d),(3,q),(4,vI b),(5,vI m)] (L) λ_ _=>Kv N l d z b m=some r) ?_ ?_
      ·refine AU ?_;refine AG O E (λal E=>?_) (λal E=>?_)
       ·refine A8 O (λs t g j=>?_);exact⟨_,_,g.sub (kp [6,1,3,4,5] O),j,x,(CG.refl S2 y),E⟩
       refine AU ?_;refine AG O E (λam E=>?_) (λam E=>?_)
       ·refine A8 O (λs t g j=>?_);exact⟨_,_,g.sub (kp [6,1] O),j,x,(CG.refl S2 y),E⟩
       refine AU ?_;refine AG O E (λan E=>?_) (λan E=>?_)
       ·refine A8 O (λs t g j=>?_);exact⟨_,_,g.sub (kp [6,2,4] O),j,x,(CG.refl S2 y),E⟩
       refine AU ?_;refine AG O E (λao E=>?_) (λao E=>?_)
       ·refine A8 O (λs t g j=>?_);exact⟨_,_,g.sub (kp [6,2,4] O),j,x,(CG.refl S2 y),E⟩
       refine AU ?_;refine AG O E (λap E=>?_) (λap E=>?_)
       ·refine A8 O (λs t g j=>?_);exact⟨_,_,g.sub (kp [6,4] O),j,x,(CG.refl S2 y),E⟩
       refine AU ?_;refine A8 O (λs t g j=>?_);exact⟨_,_,g.sub Nv,j,x,(CG.refl S2 y),E⟩
      rintro s t ⟨ca,cb,g,j,C,aq,E⟩;refine AK ?_ g j;clear g j t s;rw[Kv] at E;refine AU ?_;refine BY (.inr ⟨mo,by kernel_rfl⟩) C ?_;have H:=k6.mono aq;obtain⟨cc,_,ar⟩:=H.lv;refine AU ?_;refine B4 E O O O qA O (λau M h' o=>Tu (St.all h') (ar.mono (o.all C.1)) k A M) λau E av=>?_;have aw:=av;have ax:=F.nw;refine B4 E O O O qC O (λay Q h' o=>U9 (St.all h') (ax.mono' (o.all C.1)) aw Q) λay E az=>?_;have a0:=az;have a1:=H.fl Fb;have a2:=a1.i;refine AU ?_;refine B4 E O O O TO O (λa3 U h' o=>J4 (St.all h') a0 p a2 U) λa3 E a4=>?_;have a5:=a4;have a6:=H.fl OD;have a7:=a6.i;refine AU ?_;refine B4 E O O O Q0 O (λa8 V h' o=>HH (St.all h') a5 a7 V) λa8 E a9=>?_;have cd:=a9;refine AU ?_;exact BG (kp [12] O) λce b1 cf=>RT
     rintro s t ⟨cg,ch,g,j,W,ba,E⟩;refine AK ?_ g j;clear g j t s;rw[Kw] at E;refine AU ?_;refine BY (.inl O) W ?_;have X:=k6.mono ba;have bb:=X.fl BL.f_Num;have bc:=bb.i;have be:=X.fl Fb;have bf:=be.i;refine AU ?_;refine B4 E O O O TO O (λbg Y h' o=>J4 (St.all h') bc p bf Y) λbg E bh=>?_;have ci:=bh;refine AU ?_;exact BG (kp [12] O) λcj b2 ck=>RT
    rintro s t ⟨cl,cm,g,j,G,Z,E⟩;refine AK ?_ g j;clear g j t s;rw[Kx] at E;refine AU ?_;refine AG O E (λbi E=>?_) (λbi E=>?_)
    ·refine AU ?_;refine BY (.inl O) G ?_;have ab:=k6.mono Z;have bj:=ab.fl BL.f_Num;have bk:=bj.i;have bl:=ab.fl BL.f_Den;have bm:=bl.i;refine AU ?_;refine B4 E O O O TO O (λbn ac h' o=>J4 (St.all h') k bk bm ac) λbn E bo=>?_;have cn:=bo;refine AU ?_;exact BG (kp [12] O) λco b3 cp=>RT
    refine AU ?_;refine A8 O (λs t g j=>?_);exact⟨_,_,g.sub Nv,j,G,Z,E⟩
   rintro s t ⟨cq,cr,g,j,ad,bp,E⟩;refine AK ?_ g j;clear g j t s;rw[Ky] at E;refine AU ?_;refine AG O E (λbq E=>?_) (λbq E=>?_)
   ·exact RT
   refine AU ?_;refine WF.nil (λs t g j=>?_);exact⟨_,_,g.sub (kp [6,4] O),j,ad,bp,E⟩
  rintro s t ⟨cs,ct,g,j,ae,br,E⟩;refine AK ?_ g j;clear g j t s;rw[Iq] at E;refine AU ?_;refine BY (.inr ⟨mo,by kernel_rfl⟩) ae ?_;have I:=k6.mono br;have bs:=I.fl NN;have bt:=bs.i;refine AU ?_;refine B4 E O O O Rm O (λbu af h' o=>JN (St.all h') k bt af) λbu E bv=>?_;have bw:=bv;refine Td O O O ?_;have bx:=I.fl BL.f_Num;have ag:=bx.i;have ah:=I.fl BL.f_Den;have ai:=ah.i;refine AU ?_;refine B4 E O O O TO O (λaj J h' o=>J4 (St.all h') (Rh (iq (n:=0) O) bw) ag ai J) λaj E ak=>?_;have b4:=ak;refine AU ?_;exact BG (kp [12] O) λb5 bz b6=>RT
 rintro s t ⟨b7,b8,g,j,b0,b9,E⟩;refine AK ?_ g j;clear g j t s;rw[Ir] at E;exact RT
def U4 (H:St S L h) {d:Value}{n:BL}(l:Rd S h B7 d n) {g:Value}{p:AQ}(m:Rd S h BJ g p) {a:Int}(b:AA a) {c:Int}(j:AA c) {r:Int}(E:LN N n p a c=some r):
 B6 prog 217 #[d,g,vI a,vI c] S h (λv S' h'=>v=vI r∧AA r∧St S' (L) h'):=by
 refine A7 19 func217 O ntmps217 O λB=>?_;rw[LN] at E;refine AU ?_;refine Bz O l CE O H λY S2 Z t I J=>?_;have K:=m.mono I;refine Bz O K CE O t λq8 S9 M k u w=>AU ?_;refine BY (.inl O) k ?_;have q:=J.mono u;obtain⟨Q,_,x⟩:=q.lv;have y:=w.fl R9;have z:=y.i;have A:=q.fl K4;obtain⟨U,_,C⟩:=A.ll;refine AU ?_;refine B4 E O O O qQ O (λD s h' o=>Tv (St.all h') (x.mono (o.all k.1)) z (C.mono' (o.all k.1)) b j s) λD E F=>?_;have V:=F;refine AU ?_;exact BG (kp [8] O) λW G X=>RT
def JX (g:St S L h) {a:Int}(b:AA a) {r:Int}(E:Ga N a=some r):
 B6 prog 168 #[vI a] S h (λv S' h'=>∃c:Value,v= .func (.func 219) #[] #[c]∧Pt S' h' AB c r∧St S' (L) h'):=by
 refine A7 4 func168 O ntmps168 O λB=>?_;rw[Ga] at E;refine AU ?_;refine Bz O (⟨_,O,O,b⟩:Rd _ _ AB _ a) (λ_=>rfl) O g λj S2 k d l i=>AU ?_;refine PM O O O (AU ?_);cases E;exact KG ⟨_,O,i,d⟩ O O EX
def Oz (z:St S L h) {b:Value}{c:(List Int)}(i:Sl S h AB b c) {r:Bool}(E:IS N c=some r):
 B6 prog 242 #[b] S h (λv S' h'=>v= .bool r∧St S' (L) h'):=by
 refine A7 24 func242 O ntmps242 O λB=>?_;rw[IS] at E;refine AU ?_;refine AN (λa w=>IV B S h (24,[]) a w [] (L) λ_ _=>Gs N=some r) ?_ ?_
 ·refine AY (λx=>λa w=>∃(o:Int) (p:Int),IV B S h (24,[]) a w [(7,vI (↑c.length:Int)),(6,b),(3,vI o),(8,vI p)] (L) λ_ _=>AA o∧AA p∧EH N c (Gs N) x o p=some r) N ?_ ?_ ?_
  ·intro k l d g;exact⟨0,0,_,_,d.sub (kp [7,6,3,8] O),g,z,(CG.refl S h),(iq (n:=0) O),(iq (n:=0) O),E⟩
  ·rintro k l ⟨_,_,_,_,_,_,_,_,_,_,E⟩;rw[EH] at E;cases E
  rintro x k l ⟨o,p,A,C,d,g,j,m,J,K,E⟩;refine AK ?_ d g;clear d g l k;rw[EH] at E;refine AU ?_;refine AG O E (λq E=>?_) (λq E=>?_)
  ·refine AU ?_;refine A3 (AU ?_);have s:=i.mono' m;refine A4 E O O s Ce.1 O λt E D F=>AU ?_;refine AG O E (λu E=>?_) (λu E=>?_)
   ·exact RT
   refine AU ?_;refine BE (AU ?_);refine WF.nil (λk l d g=>?_);exact⟨(A9 (o+t)),(A9 (p+1)),_,_,d.sub (kp [7,6,3,8] O),g,j,m,(BF _),(BF _),E⟩
  refine A8 O (λk l d g=>?_);exact⟨_,_,d.sub Nv,g,j,m,E⟩
 rintro k l ⟨G,H,d,g,y,I,E⟩;refine AK ?_ d g;clear d g l k;rw[Gs] at E;exact RT
end Go.Proofs.YtedgiljmffngoaaGreat
