import Derived.Test.YtibidnaedddfdaaGreatEFacts
import Derived.Test.YtibidnaedddfdaaGreatEForms
import Derived.Test.YtibidnaedddfdaaGreatEInsert
import Derived.Test.YtibidnaedddfdaaGreatEWalk7
namespace Go.Proofs.YtibidnaedddfdaaGreat
set_option linter.all false
open Go.RowKit
open Go.Proofs.Tryz
set_option maxRecDepth 10000
set_option maxHeartbeats 2000000
variable {N:Nat}{S:Nat→Prop}{L:List HP}{h:AX}
def SR (hs:St S L h) {g:Value}{s:AF}(n:Rd S h B7 g s) {i:Value}{t:BV}(o:Rd S h DL i t) {j:Value}{u:Ci}(p:Rd S h GR j u) {b:Value}{k:(List BT)}(m:Sl S h D2 b k) {a:Value}{c:(List Bool)}(d:Sl S h BU.bool a c) {l:Int}(q:AA l) {r:BV×Int×(List BT)×AF×(List Bool)×Ci}(E:LE N s t u k c l=some r):
 CD prog 57 #[g,i,j,b,a,vI l] S h (λv S' h'=>∃w x y z A C:Value,v= .func (.func 119) #[] #[w,x,y,z,A,C]∧Pt S' h' DL w r.1∧Pt S' h' AY x r.2.1∧Pt S' h' (BU.sl D2) y r.2.2.1∧Pt S' h' B7 z r.2.2.2.1∧Pt S' h' (BU.sl BU.bool) A r.2.2.2.2.1∧Pt S' h' GR C r.2.2.2.2.2∧St S' (L) h'):=by
 refine A7 14 func57 O ntmps57 O λB=>?_;rw[LE] at E;refine AU ?_;refine AT O n CE O hs λq1 S2 h3 J e5 k6=>?_;have k7:=o.mono e5;refine AT O k7 CE O J λq8 S9 ag D ah K=>?_;have M:=p.nw;refine AT O M CE O D λai aj ak F al Q=>?_;have U:=m.nw;refine AT O (Se U) (λ_=>rfl) O F λam an ao G V W=>?_;have X:=d.mono' ((e5.trans EX).trans V);refine AT O (Se X) (λ_=>rfl) O G λap aq ar H au Y=>AT O (⟨_,O,O,q⟩:Rd _ _ AY _ l) (λ_=>rfl) O H λav aw ax I Z aa=>AU ?_;refine Ma O O O (AU ?_);have ab:=K.nw;have ac:=W.nw;have ad:=k6.nw;have ae:=Y.mono Z;have af:=Q.nw;cases E;exact Kt ⟨_,_,_,_,_,_,O,ab,aa,ac,ad,ae,af,I⟩ O O EX
def V8 (W:St S L h) {d:Value}{k:Ci}(i:Rd S h GR d k) {c:Int}(m:AA c) {b:Int}(j:AA b) {r:(List AB)}(E:K0 N k c b=some r):
 CD prog 120 #[d,vI c,vI b] S h (λv S' h'=>St S' (OS AC 51 v r::L) h'):=by
 refine A7 43 func120 O ntmps120 O λB=>?_;rw[K0] at E;refine AU ?_;refine AT O i CE O W λq1 V h3 q e5 X=>AU ?_;refine AE O E (λY E=>?_) (λY E=>?_)
 ·refine AU ?_;have A:=q.nil AC 51;cases E;exact Kt A O O EX
 refine AU ?_;obtain⟨s,E⟩:=RM E;refine Tc (r:=AC) (zx:=(⟨0,0⟩:AB)) Nw O ⟨O,by unfold AB.ok AA;simp [IntKind.has,IntKind.min,IntKind.max,IntKind.bits,IntKind.signed]⟩ O O s O O q λt u g C=>?_;have D:=X.mono C;refine AU ?_;refine AE O E (λF E=>?_) (λF E=>?_)
 ·refine AU ?_;cases E;exact Kt g O O EX
 refine AU ?_;refine Er (λa w=>∃(n:List AB),IV B V u (43,[]) a w [(7,t)] (OS AC 51 t n::L) λ_ _=>Kz N n=some r) ?_ ?_
 ·refine AE O E (λG E=>?_) (λG E=>?_)
  ·have H:=D.fl Ci.f_Rain;obtain⟨Z,_,I⟩:=H.ll;refine AU ?_;refine AN E O O I sl_121.1 O λx E ab J=>?_;obtain⟨ac,_,K⟩:=J.ll;refine AU ?_;refine nF (r:=AC) (l:=(List.replicate (b:Int).toNat ((⟨0,0⟩:AB):AB))) (xs:=x) O O sl_32.1 (Sl.src K) O g .head λad y M=>AU ?_;refine WF.nil (λQ U o p=>?_);exact⟨(aC (List.replicate (b:Int).toNat ((⟨0,0⟩:AB):AB)) x),_,_,o.sub (kp [7] O),p,y,M,E⟩
  refine AU ?_;refine WF.nil (λQ U o p=>?_);exact⟨(List.replicate (b:Int).toNat ((⟨0,0⟩:AB):AB)),_,_,o.sub (kp [7] O),p,g,(Cc.refl V u),E⟩
 rintro Q U ⟨n,ae,af,o,p,z,ag,E⟩;refine AI ?_ o p;clear o p U Q;rw[Kz] at E;refine AU ?_;cases E;exact Kt z O O EX
def RA {σ:Type}{yv:Value}{Y:Bool→σ→HP}{am:(Int×(List AB))→σ→Option (Bool×σ)}{S0:Nat→Prop}{h0:AX}(yc:YC prog yv Y (VH AC) am S0 h0) (e0:Cc S0 h0 S h) {s:σ}(hs:St S (Y true s::L) h) {an:Value}{ah:BV}(cb:Pt S h DL an ah) {ao:Value}{c2_:Int}(cc:Pt S h AY ao c2_) {C:Value}{c3_:(List BT)}(cd:Pt S h (BU.sl D2) C c3_) {F:Value}{y:AF}(ap:Pt S h B7 F y) {G:Value}{af:(List Bool)}(ce:Pt S h (BU.sl BU.bool) G af) {H:Value}{ag:Ci}(cf:Pt S h GR H ag) {r:Bool×σ}(E:Jj N ah c2_ c3_ y af ag am s=some r):
 CD prog 119 #[yv,an,ao,C,F,G,H] S h (λv S' h'=>v= .tuple #[]∧St S' (Y r.1 r.2::L) h'):=by
 refine A7 51 func119 O ntmps119 O λB=>?_;rw[Jj] at E;refine WF.sl (G3 1 (Il KP hs.1 O cb ty_36.1 CE O λv1 k2=>Dk (BZ VM O hs λb3 h4 f1 e6=>?_)));have k7:=k2.mono e6;obtain⟨f2,f3,f4,rfl,r9,f5,f6,f7⟩:=DL.ex k7;refine Hv O O O ON ty_36.1 O f1 .head O λc1 bq cg=>HA (kp [8,0,2,3,4,5,6] O) (Lo ?_);have f8:=cc.nw;refine GS KP bq.1 O f8 ty_3.1 O λii=>C9 O (Jb (kp [16,15,8,0,3,4,5,6] O) (BQ (BJ (λn0=>λa w=>∃(J:Int) (z:Int) (ai:Value) (aq:List AB) (aj:Value) (ar:List AZ) (ak:Value) (au:List AH) (av:σ),IV B S c1 (51,[]) a w [(15,vI c2_),(8,vP b3 0),(0,yv),(3,C),(4,F),(5,G),(6,H),(16,vI J)] (Bx b3 36 [vI z,ai,aj,ak]::Y true av::L) λS' h'=>AA J∧AA z∧Sl S' h' AC ai aq∧Sl S' h' BS aj ar∧Sl S' h' AM ak au∧Dm N am c2_ c3_ y af ag n0 J z aq ar au av=some r) N ?_ ?_ ?_)))
 ·intro aa ww M W;have f9:=f5.mono' cg;have ga:=f6.mono' cg;have gb:=f7.mono' cg;exact⟨0,ah.I,f2,ah.K,f3,ah.N,f4,ah.D,s,_,_,M.sub (kp [15,8,0,3,4,5,6,16] O),W,bq,(Cc.refl S c1),(iq (n:=0) O),r9,f9,ga,gb,E⟩
 ·rintro aa ww ⟨_,_,_,_,_,_,_,_,_,_,_,_,_,_,_,_,_,_,_,_,E⟩;rw[Dm] at E;cases E
 rintro n0 aa ww ⟨J,z,ai,aq,aj,ar,ak,au,av,c2,ij,M,W,br,ik,gc,c3,ge,gf,gg,E⟩;refine AI ?_ M W;clear M W ww aa;rw[Dm] at E;refine Lo (RH O (Jb (kp [17,15,8,0,3,4,5,6,16] O) (ET (AE O E (λgh E=>?_) (λgh E=>?_)))))
 ·refine Kd (ET (BQ (Lo (C9 O (Md O (kp [9,15,8,0,3,4,5,6,16] O) (WF.sl (G3 1 (B6 (cs:=[vN,vN,vN,vN,vN]) fU O O O (Dk (BZ fQ O br λch il c4 im=>?_))))))))));refine AW O O O O ty_42.1 O c4 .head O λc5 Z io=>HA (kp [10,9,15,8,0,3,4,5,6,16] O) (ET (Lo (C9 O ?_)));have c6:=cd.nw;refine U9 KP Z.1 O c6 ty_60.1 O λip gi=>U8 O gi sl_60.1 O λir=>RH O (Jb (kp [23,10,9,15,8,0,3,4,5,6,16] O) (Er (λa w=>∃(aw:Value) (bl:List Int) (ax:Value) (bm:List KF) (ay:Value) (bn:List Nl) (az:Value) (bo:List IL) (a0:Value) (bp:List L3),IV B c2 c5 (51,[]) a w [(10,vP ch 0),(9,vI J),(15,vI c2_),(8,vP b3 0),(0,yv),(3,C),(4,F),(5,G),(6,H),(16,vI J)] (Bx ch 42 [aw,ax,ay,az,a0]::Bx b3 36 [vI z,ai,aj,ak]::Y true av::L) λS' h'=>Sl S' h' AY aw bl∧Sl S' h' JB ax bm∧Sl S' h' KI ay bn∧Sl S' h' FX az bo∧Sl S' h' KZ a0 bp∧IK N am y af ag J z aq ar au av (Dm N am c2_ c3_ y af ag n0) bl bm bn bo bp=some r) ?_ ?_))
  ·refine AE O E (λgj E=>?_) (λgj E=>?_)
   ·refine Ej (G3 4 (U9 KP Z.1 O c6 ty_60.1 O λit gk=>C9 O ?_));refine AN E O O gk sl_60.1 O λa1 E iu gl=>Il KP Z.1 O gl ty_42.1 CE O λiv gm=>Dk ?_;obtain⟨gn,gp,gq,gr,c7,rfl,gs,gu,gv,c8,c9⟩:=D2.ex gm;refine Hv O O O ON ty_42.1 O Z .head O λg3 ci Q=>HA (kp [10,9,15,8,0,3,4,5,6,16] O) (WF.nil (λaa ww M W=>?_));have da:=gs.mono' Q;have db:=gu.mono' Q;have dc:=gv.mono' Q;have dd:=c8.mono' Q;have de:=c9.mono' Q;exact⟨gn,a1.Am,gp,a1.Bc,gq,a1.Bb,gr,a1.Ag,c7,a1.Bq,_,_,M.sub (kp [10,9,15,8,0,3,4,5,6,16] O),W,ci,Q,da,db,dc,dd,de,E⟩
   refine Kd (WF.nil (λaa ww M W=>?_));exact⟨vN,[],vN,[],vN,[],vN,[],vN,[],_,_,M.sub (kp [10,9,15,8,0,3,4,5,6,16] O),W,Z,(Cc.refl c2 c5),(.inl ⟨O,O⟩),(.inl ⟨O,O⟩),(.inl ⟨O,O⟩),(.inl ⟨O,O⟩),(.inl ⟨O,O⟩),E⟩
  rintro aa ww ⟨aw,bl,ax,bm,ay,bn,az,bo,a0,bp,g,t,M,W,c,g4,gw,gx,gy,gz,g0,E⟩;refine AI ?_ M W;clear M W ww aa;rw[IK] at E;refine ET ?_;obtain⟨bs,cj,E⟩:=bd E;obtain⟨d,ck,E⟩:=bd E;refine Xz (m:=[(10,vP ch 0),(9,vI J),(15,vI c2_),(8,vP b3 0),(0,yv),(3,C),(4,F),(5,G),(6,H),(16,vI J)]) [17,18,19] [14,15] [16] (λX i v l=>match i with|0=>Rd g l B7 v y|1=>v= .agg #[vI z,ai,aj,ak]∧AA z|2=>v= .agg #[aw,ax,ay,az,a0]|3=>Sl g l BU.bool v af|4=>Rd g l GR v ag|5=>v=vP b3 0|6=>v=vI z∧AA z|7=>Pt g l (BU.sl B4) v y.E|8=>Sl g l B4 v y.E|9=>v=vI (↑y.E.length:Int)∧AA (↑y.E.length:Int)|10=>Sl (SX g t l X) l AC v bs|11=>∃w0 w1 w2:Value,v= .tuple #[w0,w1,w2]∧(Rd (SX g t l X) l DL w0 d.1)∧(Sl (SX g t l X) l AC w1 d.2.1)∧(Sl (SX g t l X) l AC w2 d.2.2)|12=>∃w0 w1 w2:Value,v= .tuple #[w0,w1,w2]∧(Rd (SX g t l X) l DL w0 d.1)∧(Sl (SX g t l X) l AC w1 d.2.1)∧(Sl (SX g t l X) l AC w2 d.2.2)|13=>Rd (SX g t l X) l DL v d.1|14=>Sl (SX g t l X) l AC v d.2.1|15=>Sl (SX g t l X) l AC v d.2.2|16=>RP t 36 [vI 0,vN,vN,vN] v l|_=>False) [[],[],[],[],[],[],[(5,34)],[],[(7,36)],[(8,37)],[(4,33),(6,35),(9,38)],[(0,29),(1,30),(2,31),(3,32),(10,39)],[(11,40)],[(12,28)],[(12,28)],[(12,28)],[],[],[],[]] [(13,41),(14,42),(15,43),(16,11)] mo (by kernel_rfl) [10,9,15,8,0,3,4,5,6,16] O (by kernel_rfl) (by kernel_rfl) (by kernel_rfl) O (kp [10,9,15,8,0,3,4,5,6,16] O) (λi v h1 h2 X X' o1 o2 u1 u2 u=>?_) (by kernel_rfl) (WC (T:=36) (λ_=>rfl) Xw) ?_ ?_ ?_
  ·match i,u with
    |0,u|4,u=>exact(Rd.mono u (o2.ext λb hb=>vB (c.1 b hb) o1.siz))
    |1,u|2,u|5,u|6,u|9,u=>exact u
    |3,u|8,u=>exact(Sl.mono' u (o2.ext λb hb=>vB (c.1 b hb) o1.siz))
    |7,u=>exact(NK.mono u (o2.ext λb hb=>vB (c.1 b hb) o1.siz))
    |10,u|14,u|15,u=>exact(Sl.mono' u (SX.mono c.1 o1 o2 u1 u2))
    |11,u|12,u=>obtain⟨w0,w1,w2,e,k0,k1,k2⟩:=u;exact⟨w0,w1,w2,e,(Rd.mono k0 (SX.mono c.1 o1 o2 u1 u2)),(Sl.mono' k1 (SX.mono c.1 o1 o2 u1 u2)),(Sl.mono' k2 (SX.mono c.1 o1 o2 u1 u2))⟩
    |13,u=>exact(Rd.mono u (SX.mono c.1 o1 o2 u1 u2))
    |16,u=>exact u.mono o2
    |_+17,u=>exact u.elim
  ·refine Oa.cons [(12,28)] (by kernel_rfl) O O (by kernel_rfl) ?_ ?_
   ·intro X mq l o;intro g5 df;obtain⟨dg,bt,dh,rfl,bu,a2,bv⟩:=df;have bu:Rd _ _ DL dg d.1:=bu;have a2:Sl _ _ AC bt d.2.1:=a2;have bv:Sl _ _ AC dh d.2.2:=bv;intro a M;exact⟨bt,Mv M O O,a2⟩
   refine Oa.cons [(12,28)] (by kernel_rfl) O O (by kernel_rfl) ?_ ?_
   ·intro X mq l o;intro g6 di;obtain⟨dj,dk,bw,rfl,bx,bz,a3⟩:=di;have bx:Rd _ _ DL dj d.1:=bx;have bz:Sl _ _ AC dk d.2.1:=bz;have a3:Sl _ _ AC bw d.2.2:=a3;intro a M;exact⟨bw,Mv M O O,a3⟩
   exact trivial
  ·refine Eo.cons O O O ?_ ?_
   ·intro X mq l o A;have j:=o.st c;refine G3 1 ?_;have dl:=ap.nw;exact Il KP j.1 O dl ty_31.1 CE O λg7 dm=>Dk (B0 dm)
   refine Eo.cons O O O ?_ ?_
   ·intro X mq l o A;have j:=o.st c;exact G3 1 (Mb (vs:=[vI z,ai,aj,ak]) KP j O (mt mh) O O ty_36.1 O O (Dk (B0 ⟨O,c3⟩)))
   refine Eo.cons O O O ?_ ?_
   ·intro X mq l o A;have j:=o.st c;exact G3 1 (Mb (vs:=[aw,ax,ay,az,a0]) KP j O mh O O ty_42.1 O O (Dk (B0 O)))
   refine Eo.cons O O O ?_ ?_
   ·intro X mq l o A;have j:=o.st c;refine G3 1 ?_;have dn:=ce.nw;exact U9 KP j.1 O dn ty_43.1 O λg8 dp=>Dk (B0 dp)
   refine Eo.cons O O O ?_ ?_
   ·intro X mq l o A;have j:=o.st c;refine G3 1 ?_;have dq:=cf.nw;exact Il KP j.1 O dq ty_123.1 CE O λg9 dr=>Dk (B0 dr)
   refine Eo.cons O O O ?_ ?_
   ·intro X mq l o A;have j:=o.st c;exact G3 1 (HJ O fa_36_0.1 O (Dk (B0 O)))
   refine Eo.cons O O O ?_ ?_
   ·intro X mq l o A;intro ha ds;have j:=o.st c;cases ds;exact G3 1 (Kb KP j O (mt mh) O ty_3.1 O (Dk (B0 ⟨O,c3⟩)))
   refine Eo.cons O O O ?_ ?_
   ·intro X mq l o A;have j:=o.st c;refine G3 1 ?_;have dt:=ap.nw;exact Lb O dt Ck fa_31_3.1 O λhc du=>Dk (B0 du)
   refine Eo.cons O O O ?_ ?_
   ·intro X mq l o A;intro dv a4;have j:=o.st c;have a4:Pt _ _ (BU.sl B4) dv y.E:=a4;exact G3 1 (U9 KP j.1 O a4 ty_23.1 O λhd dw=>Dk (B0 dw))
   refine Eo.cons O O O ?_ ?_
   ·intro X mq l o A;intro dx a5;have j:=o.st c;have a5:Sl _ _ B4 dx y.E:=a5;exact G3 1 (U8 O a5 sl_23.1 O λdy=>Dk (B0 ⟨O,(M0 dy)⟩))
   refine Eo.cons O O O ?_ ?_
   ·intro X mq l o A;intro dz ab he d0 hg d1;have j:=MA (X:=X) c o;have ab:=Rd.mono (S':=(SX g t l X)) ab ⟨λb hb=>(SX.ext c.1 o A).sub b hb,λ_ _=>rfl,uW _⟩;have ab:Rd _ _ GR dz ag:=ab;obtain⟨rfl,d2⟩:=d0;obtain⟨rfl,d3⟩:=d1;have a6:=j.fz;refine EQ O O O lP O a6 (V8 (St.all _) (ab.mono a6.ea) d2 d3 cj) λhi hj hk g1 hl d4 p=>?_;have cl:=p;have a7:=a6.join d4 cl ⟨OS.flat (λ{_ _ _ _ _ _} k=>k),trivial⟩;simp only[wZ,wB] at a7;obtain⟨hm,cm,hn,d5⟩:=a7.pubs .head;have a8:=SX.done o A EX cm;exact EB a8.1 (Sl.mono' d5 a8.2)
   refine Eo.cons O O O ?_ ?_
   ·intro X mq l o A;intro d6 ac ho d7 hp d8 d9 ad eb a9;have j:=MA (X:=X) c o;have ac:=Rd.mono (S':=(SX g t l X)) ac ⟨λb hb=>(SX.ext c.1 o A).sub b hb,λ_ _=>rfl,uW _⟩;have ac:Rd _ _ B7 d6 y:=ac;obtain⟨rfl,ec⟩:=d7;cases d8;have ad:=Sl.mono' (S':=(SX g t l X)) ad ⟨λb hb=>(SX.ext c.1 o A).sub b hb,λ_ _=>rfl,uW _⟩;have ad:Sl _ _ BU.bool d9 af:=ad;have a9:Sl _ _ AC eb bs:=a9;have a6:=j.fz;have ed:=ge.nw;have ee:=gf.nw;have ef:=gg.nw;have eg:=gw.mono' (SX.ext c.1 o A);have eh:=gx.mono' (SX.ext c.1 o A);have ei:=gy.mono' (SX.ext c.1 o A);have ej:=gz.mono' (SX.ext c.1 o A);have ek:=g0.mono' (SX.ext c.1 o A);refine LP O O O rH O (Tn a6 ac (DL.mk (x:=(⟨z,aq,ar,au⟩:BV)) ec ed ee ef) (D2.mk (x:=(⟨bl,bm,bn,bo,bp⟩:BT)) eg eh ei ej ek) ad a9 ck) λhq ht hu hv p=>?_;obtain⟨hx,hy,hz,rfl,el,cn⟩:=p;obtain⟨h3,co,h5,em⟩:=cn.pubs .head;obtain⟨h6,cp,en,eo⟩:=co.pubs .head;have ep:=el.nw;have eq:=em.mono' en;have U:=SX.done o A EX cp;exact EB U.1 ⟨_,_,_,O,(Rd.mono ep U.2),(Sl.mono' eq U.2),(Sl.mono' eo U.2)⟩
   refine Eo.cons O O O ?_ ?_
   ·intro X mq l o A;intro h7 er;have j:=MA (X:=X) c o;obtain⟨es,eu,ev,rfl,ba,bb,bc⟩:=er;have ba:Rd _ _ DL es d.1:=ba;have bb:Sl _ _ AC eu d.2.1:=bb;have bc:Sl _ _ AC ev d.2.2:=bc;exact G3 1 (C9 O (Dk (B0 ⟨_,_,_,O,ba,bb,bc⟩)))
   refine Eo.cons O O O ?_ ?_
   ·intro X mq l o A;intro h8 ew;have j:=MA (X:=X) c o;obtain⟨ey,ez,e1,rfl,be,b0,b1⟩:=ew;have be:Rd _ _ DL ey d.1:=be;have b0:Sl _ _ AC ez d.2.1:=b0;have b1:Sl _ _ AC e1 d.2.2:=b1;exact G3 1 (VA O (Dk (B0 be)))
   refine Eo.cons O O O ?_ ?_
   ·intro X mq l o A;intro h9 e2;have j:=MA (X:=X) c o;obtain⟨e3,e4,e5,rfl,b2,bf,b4⟩:=e2;have b2:Rd _ _ DL e3 d.1:=b2;have bf:Sl _ _ AC e4 d.2.1:=bf;have b4:Sl _ _ AC e5 d.2.2:=b4;exact G3 1 (VA O (Dk (B0 bf)))
   refine Eo.cons O O O ?_ ?_
   ·intro X mq l o A;intro ia e7;have j:=MA (X:=X) c o;obtain⟨e8,e9,fb,rfl,b5,b6,bg⟩:=e7;have b5:Rd _ _ DL e8 d.1:=b5;have b6:Sl _ _ AC e9 d.2.1:=b6;have bg:Sl _ _ AC fb d.2.2:=bg;exact G3 1 (VA O (Dk (B0 bg)))
   exact Eo.al (λ_=>rfl) VM O (Eo.skip (by kernel_rfl) (Eo.skip (by kernel_rfl) (Eo.skip (by kernel_rfl) (trivial))))
  intro ib ic fc cq fd bh fe bi ff b7 id fg g2 cr;obtain⟨ie,rfl,fh,fi,fj⟩:=fg;have ct:=(cO.cons (cO.nil c fc cq) fh fi fj vD (cr.at_ (s:=11) (by kernel_rfl) O O)).st;have bh:Rd _ _ DL fd d.1:=bh;have bi:Sl _ _ AC fe d.2.1:=bi;have b7:Sl _ _ AC ff d.2.2:=b7;obtain⟨b8,b9,ca,rfl,fk,fl,fm,fn⟩:=DL.ex bh;refine Hv O O O ON ty_36.1 O ct .head O λig cu fo=>G3 1 (Tb O (Dk (G3 1 (Tb O (Dk (HA (kp [12,11,9,15,8,0,3,4,5,6,16] O) (ET (ET (bW (ND 3 Px (C9 O (C9 O (C9 O (NE ?_))))))))))))));have fp:=bi.mono' fo;have cv:=cu.pick (.tail (.tail (.tail .head)));obtain⟨fq,cw,E⟩:=bd E;refine Xx yc O O cw EX cv ⟨_,O,gc,fp⟩ O (λbj fr fs ft V=>?_) (λbj fr fs ft V=>?_)
  ·have E:=H7 bj E;refine ND 1 Px (Mr O (NE (YL.nil (kp [48,11,15,8,0,3,4,5,6,16] O) (U3 O (Kd (Ej (G3 1 (Mb (vs:=[vI d.1.I,b8,b9,ca]) KP V O (mt mh) O O ty_36.1 O O (Dk ?_)))))))));have fu:=fn.nw;have fv:=fm.nw;have fw:=fl.nw;refine Hv O O O ON ty_36.1 O V (.tail (.tail (.tail .head))) O λih cx bk=>HA (kp [15,8,0,3,4,5,6,16] O) (B3 (Ix (.inl O) (RK O (C9 O (Jb (kp [16,15,8,0,3,4,5,6] O) (WF.nil (λaa ww M W=>?_)))))));have cy:=cx.sel [3,0] 2 O;have fx:=fw.mono' bk;have fy:=fv.mono' bk;have f0:=fu.mono' bk;exact⟨(BR (J+1)),d.1.I,b8,d.1.K,b9,d.1.N,ca,d.1.D,fq.2,_,_,M.sub (kp [15,8,0,3,4,5,6,16] O),W,cy,EX,(B1 _),fk,fx,fy,f0,E⟩
  have E:=H8 bj E;refine ND 1 Px (Mr O (NE (YL.nil (kp [48,11,15,8,0,3,4,5,6,16] O) (Qe O (WF.ret (λaa ww M W=>?_))))));have cz:=V.sel [0] 3 O;cases E;exact IS M O W ID O EX ⟨O,cz⟩
 refine LG O (WF.nil (λaa ww M W=>?_));have c0:=br.sel [1] 1 O;cases E;exact IS M O W ID O EX ⟨O,c0⟩
def SS (hs:St S L h) {ak:Value}{Z:AF}(ay:Rd S h B7 ak Z) {A:Int}(bl:AA A) {am:Value}{ab:BV}(az:Rd S h DL am ab) {m:Value}{y:(List Ci)}(z:Sl S h GR m y) {g:Value}{u:(List BT)}(ao:Sl S h D2 g u) {d:Value}{o:(List Bool)}(ah:Sl S h BU.bool d o) {c:Int}(ac:AA c) {r:Do}(E:KX N Z A ab y u o c=some r):
 CD prog 18 #[ak,vI A,am,m,g,d,vI c] S h (λv S' h'=>v= .agg #[vI r.Au,.bool r.Ay]∧Do.ok r∧St S' (L) h'):=by
 refine A7 87 func18 O ntmps18 O λB=>?_;rw[KX] at E;have d4:=bZ hs;refine AU ?_;refine AT O ay CE O d4 λq1 S2 h3 d5 e5 k6=>?_;have k7:=az.mono e5;refine AT O k7 CE O d5 λq8 S9 fn b9 fo d6=>BZ Y7 O b9 λI fp a0 fq=>?_;have fr:=k6.nw;refine AU ?_;refine AE O E (λd7 E=>?_) (λd7 E=>?_)
 ·refine AU ?_;refine B6 (cs:=[vI (-1),.bool false]) O4 O O O (AU ?_);refine AW O O O O ty_64.1 O a0 .head O λfs ca ft=>AU ?_;refine WF.ret (λJ K q s=>?_);have cb:=ca.sel [1,0] 0 O;refine dF (vs:=[.agg #[vI (-1),.bool false]]) q O s cb O EX λw9 fu bm a1 fv=>?_;have cc:=a1.drop .head;cases E;exact⟨(GB (K5 q bm a1 O mh ty_64.1 O) ID),⟨O,(iq (n:=(-1)) O),cc⟩⟩
 have cd:=k6.nw;have d8:=cd.fl GT;obtain⟨fw,_,d9⟩:=d8.ll;refine AU ?_;refine AN E O O d9 sl_25.1 O λb E fx ea=>?_;obtain⟨fy,_,eb⟩:=ea.lv;refine AU ?_;refine BZ Sf O a0 λC fz ce ec=>?_;have ed:=eb.mono ec;obtain⟨rfl,⟨f0,f1,f2,f3,f4,f5,f6⟩⟩:=Dn.ex ed;refine AW O O O O ty_114.1 O ce .head O λcf a2 f7=>?_;have f8:=z.nw;refine AU ?_;refine Er (λa w=>∃(ap:Value) (ai:List Ci),IV B S9 cf (87,OQ ([])) a w [(15,vP C 0),(14,vP I 0),(9,q8),(7,q1),(4,g),(5,d),(6,vI c),(16,ap)] (Bx C 114 [.string b.M,vI b.Ah,vI b.Bd,vI b.Bf,vI b.Bj,vI b.Be,vI b.Ay]::Bx I 64 [vI 0,.bool false]::WL ([])::L) λS' h'=>Sl S' h' GR ap ai∧Fh N Z ab u o c b ai=some r) ?_ ?_
 ·refine AE O E (λee E=>?_) (λee E=>?_)
  ·refine AU ?_;refine B6 (cs:=[vI 0,vI 0,vN]) ZO O O O (AU ?_);refine Io (cs:=[vI 0,vI 0,vN]) gJ O O O O O O O a2 λef f9 cg ga=>AU ?_;refine WF.nil (λJ K q s=>?_);have ch:=cg.bxos (r:=GR) (l:=([(⟨0,0,[]⟩:Ci)]:List Ci)) .head ⟨_,_,O,⟨_,O,(iq (n:=0) O),(iq (n:=0) O),(.inl ⟨O,O⟩)⟩,O⟩ (by simp [maxLen]);obtain⟨gb,ci,gc,eg⟩:=ch.pubs .head;exact⟨(.slice (some ⟨ef,0,none⟩) 1 1),([(⟨0,0,[]⟩:Ci)]:List Ci),_,_,q.sub (kp [15,14,9,7,4,5,6,16] O),s,ci,EX,eg,E⟩
  refine AU ?_;refine WF.nil (λJ K q s=>?_);have eh:=z.nw;exact⟨m,y,_,_,q.sub (kp [15,14,9,7,4,5,6,16] O),s,a2,(Cc.refl S9 cf),eh,E⟩
 rintro J K ⟨ap,ai,bn,ge,q,s,cj,gf,ei,E⟩;refine AI ?_ q s;clear q s K J;rw[Fh] at E;refine AU ?_;refine BZ cU O cj λD gg ck gh=>?_;refine AW O O O O ty_3.1 O ck .head O λgi cl gj=>AU ?_;refine Ka O O O (AU ?_);refine BZ cU O cl λV gk cm gl=>?_;refine AW O O O O ty_3.1 O cm .head O λbo cn gm=>?_;have ej:=ei.nw;refine AU ?_;refine AQ (λa w=>∃(Q:Int) (aj:List Nat),IV B bn bo (87,OQ aj) a w [(17,vP D 0),(14,vP I 0)] (Bx D 3 [vI Q]::Bx I 64 [vI 0,.bool false]::WL aj::L) λ_ _=>AA Q∧D9 N Q=some r) ?_ ?_
 ·refine BJ (λn2=>λa w=>∃(F:Int) (ad:Int) (U:Int) (j:List Nat),IV B bn bo (87,OQ j) a w [(47,vI (↑ai.length:Int)),(46,ap),(18,vP V 0),(17,vP D 0),(15,vP C 0),(14,vP I 0),(9,q8),(7,q1),(4,g),(5,d),(48,vI F)] (Bx V 3 [vI ad]::Bx D 3 [vI U]::Bx C 114 [.string b.M,vI b.Ah,vI b.Bd,vI b.Bf,vI b.Bj,vI b.Be,vI b.Ay]::Bx I 64 [vI 0,.bool false]::WL j::L) λ_ _=>AA F∧AA ad∧AA U∧DK N Z ab u o b ai (D9 N) n2 F ad U=some r) N ?_ ?_ ?_
  ·intro J K q s;exact⟨0,(min c 24),(-1),([]),_,_,q.sub (kp [47,46,18,17,15,14,9,7,4,5,48] O),s,cn,(Cc.refl bn bo),(iq (n:=0) O),(G4 ac (iq (n:=24) O)),(iq (n:=(-1)) O),E⟩
  ·rintro J K ⟨_,_,_,_,_,_,_,_,_,_,_,_,_,E⟩;rw[DK] at E;cases E
  rintro n2 J K ⟨F,ad,U,j,co,cp,q,s,aq,a3,em,a4,a5,E⟩;refine AI ?_ q s;clear q s K J;rw[DK] at E;refine AU ?_;refine AE O E (λcq E=>?_) (λcq E=>?_)
  ·refine AU ?_;refine AQ (λa w=>∃(ae:Int) (af:Int) (W:List Nat),IV B co cp (87,OQ W) a w [(47,vI (↑ai.length:Int)),(46,ap),(18,vP V 0),(17,vP D 0),(15,vP C 0),(14,vP I 0),(9,q8),(7,q1),(4,g),(5,d),(48,vI F)] (Bx V 3 [vI ae]::Bx D 3 [vI af]::Bx C 114 [.string b.M,vI b.Ah,vI b.Bd,vI b.Bf,vI b.Bj,vI b.Be,vI b.Ay]::Bx I 64 [vI 0,.bool false]::WL W::L) λ_ _=>AA ae∧AA af∧JQ N F (DK N Z ab u o b ai (D9 N) n2) ae af=some r) ?_ ?_
   ·refine AU ?_;have cr:=ej.mono' a3;refine AN E O O cr sl_59.1 O λag E en ct=>?_;obtain⟨eo,_,cu⟩:=ct.lv;refine AU ?_;refine BZ iF O aq λa6 ep bp cv=>?_;have cw:=cu.mono cv;obtain⟨a7,rfl,cx,cy,cz⟩:=GR.ex cw;refine Hv O O O ON ty_123.1 O bp .head O λeq bq c0=>AU ?_;refine Ej ?_;have c1:=cd.nw;obtain⟨er,_,c2⟩:=c1.lv;have c3:=d6.nw;obtain⟨es,_,c4⟩:=c3.lv;refine AU ?_;have c5:=cz.mono' c0;have c6:=ao.nw;have c7:=ah.nw;obtain⟨eu,br,E⟩:=bd E;refine LP O O O qF O (SR bq c2 c4 (GR.mk (x:=ag) cx cy c5) c6 c7 a4 br) λev ew ey ez p=>?_;obtain⟨a8,a9,ba,bb,bc,be,rfl,c8,c9,da,db,dc,dd,bs⟩:=p;refine AU ?_;refine BQ ?_;have bt:=bs.sel [1,1,1,2,0,0] 0 O;obtain⟨i,bu,E⟩:=bd E;refine bX (Ds:=j) 2 (λ(ss:Int×Int)=>[Pu (AA ss.1∧AA ss.2),Bx V 3 [vI ss.1],Bx D 3 [vI ss.2],Bx C 114 [.string b.M,vI b.Ah,vI b.Bd,vI b.Bf,vI b.Bj,vI b.Be,vI b.Ay]]) (ad,U) (VH AC) (λxx ss=>Gr N b xx.1 xx.2 ss.1 ss.2) i (λvs=>[(21,vs.getD 0 undef),(22,vs.getD 1 undef),(18,vP V 0),(17,vP D 0),(15,vP C 0)]) O lQ (by kernel_rfl) (RC bt ⟨a4,a5⟩) (λk=>VH.len k) (λk e=>VH.mono k e) ?_ ?_ ?_ ?_ ?_
    ·intro yv Y S1 h1 L1 e1 yc ek;have de:=c8.mono e1;have df:=c9.mono e1;have dg:=da.mono e1;have dh:=db.mono e1;have di:=dc.mono e1;have dj:=dd.mono e1;rw[show ((#[yv]:Array Value)++ #[a8,a9,ba,bb,bc,be])= #[yv,a8,a9,ba,bb,bc,be] from rM _ _];exact(RA yc (Cc.refl _ _) ek de df dg dh di dj bu).mono λ_ _ _ _ p=>p.2
    ·intro vs B h1 hl
     match vs,hl with
     |[v0,v1],_=>
      refine Lo ?_;refine Md O (kp [21,59,60,18,17,15] O) ?_;refine Ix (.inl O) ?_;refine Md O (kp [22,21,59,60,18,17,15] O) ?_;refine WF.nil (λJ K q s=>?_);exact⟨q.sub (kp [21,22,18,17,15] O),s⟩
    ·rintro ⟨bf,ar⟩ ⟨au,av⟩ el vs bg bh dk B bv e0 bw bx;have E:Gr N b bf ar au av=some el:=bv;rw[Gr] at E;obtain⟨dl,rfl,an,aw⟩:=bw;have an:AA bf:=an;have aw:Sl _ _ _ dl ar:=aw;have X:St bg (Pu (AA au∧AA av)::Bx V 3 [vI au]::Bx D 3 [vI av]::Bx C 114 [.string b.M,vI b.Ah,vI b.Bd,vI b.Bf,vI b.Bj,vI b.Be,vI b.Ay]::dk) bh:=bx;obtain⟨⟨dm,dn⟩,X⟩:=WE X;refine BQ (AU ?_);refine Ix (.inr ⟨mo,by kernel_rfl⟩) (AU ?_);obtain⟨dp,t,E⟩:=bd E;refine A6 10 81 (.bool dp) ?_ ?_
     ·cases bi:((decide (0≤b.Ah))&&(decide (b.Ah<(↑ar.length:Int))))
      ·have t:=H8 bi t;cases t;exact BO O O
      have t:=H7 bi t;refine AU ?_;refine AN t O O aw sl_32.1 O λe2 t e3 e4=>AU ?_;cases t;exact A5 O
     refine AU ?_;refine AE O E (λdq E=>?_) (λdq E=>?_)
     ·refine AU ?_;refine AW O O O O ty_3.1 O X (.tail .head) O λe6 bz e7=>?_;refine AW O O O O ty_3.1 O bz .head O λe8 b0 e9=>AU ?_;refine WF.exit O (λJ K q s=>?_);cases E;exact⟨O,_,_,s,EX,(RC b0 ⟨an,an⟩)⟩
     refine AU ?_;refine B3 (WF.nil (λJ K q s=>?_));cases E;exact⟨O,_,_,s,(Cc.refl bg bh),(RC X ⟨dm,dn⟩)⟩
    ·intro dr ds dt bj fa G;have E:=H7 dr E;have G:St ds (Pu (AA i.2.1∧AA i.2.2)::Bx V 3 [vI i.2.1]::Bx D 3 [vI i.2.2]::Bx C 114 [.string b.M,vI b.Ah,vI b.Bd,vI b.Bf,vI b.Bj,vI b.Be,vI b.Ay]::WL (bj::j)::Bx a6 123 [vI ag.Bm,vI ag.P,a7]::Bx I 64 [vI 0,.bool false]::L) dt:=G;obtain⟨⟨du,dv⟩,G⟩:=WE G;refine B3 (WF.nil (λJ K q s=>?_));have b1:=G.sel [0,0,0,2,0] 1 O;exact⟨i.2.1,i.2.2,(bj::j),_,_,q.sub (kp [47,46,18,17,15,14,9,7,4,5,48] O),s,b1,EX,du,dv,E⟩
    intro dw dx dy bk fb H;have E:=H8 dw E;have H:St dx (Pu (AA i.2.1∧AA i.2.2)::Bx V 3 [vI i.2.1]::Bx D 3 [vI i.2.2]::Bx C 114 [.string b.M,vI b.Ah,vI b.Bd,vI b.Bf,vI b.Bj,vI b.Be,vI b.Ay]::WL (bk::j)::Bx a6 123 [vI ag.Bm,vI ag.P,a7]::Bx I 64 [vI 0,.bool false]::L) dy:=H;obtain⟨⟨dz,d0⟩,H⟩:=WE H;refine LG O (WF.nil (λJ K q s=>?_));have b2:=H.sel [0,0,0,2,0] 1 O;exact⟨i.2.1,i.2.2,(bk::j),_,_,q.sub (kp [47,46,18,17,15,14,9,7,4,5,48] O),s,b2,EX,dz,d0,E⟩
   rintro J K ⟨ae,af,W,fc,fd,q,s,b3,fe,d1,d2,E⟩;refine AI ?_ q s;clear q s K J;rw[JQ] at E;refine AU ?_;refine WF.nil (λJ K q s=>?_);exact⟨(BR (F+1)),ae,af,W,_,_,q.sub (kp [47,46,18,17,15,14,9,7,4,5,48] O),s,b3,EX,(B1 _),d1,d2,E⟩
  refine WF.exit O (λJ K q s=>?_);have b4:=aq.sel [1,2,2] 2 O;exact⟨U,j,_,_,q.sub (kp [17,14] O),s,b4,a3,a5,E⟩
 rintro J K ⟨Q,aj,ff,fg,q,s,b5,fh,d3,E⟩;refine AI ?_ q s;clear q s K J;rw[D9] at E;refine AU ?_;refine B6 (cs:=[vI Q,.bool false]) O4 O O O (AU ?_);refine AW O O O O ty_64.1 O b5 (.tail .head) O λfi b6 fj=>AU ?_;refine WF.ret (λJ K q s=>?_);have b7:=b6.sel [2,1] 1 O;refine dF (vs:=[.agg #[vI Q,.bool false]]) q O s b7 O EX λw9 fk bm ax fm=>?_;have b8:=ax.drop .head;cases E;exact⟨(GB (K5 q bm ax O mh ty_64.1 O) ID),⟨O,d3,b8⟩⟩
end Go.Proofs.YtibidnaedddfdaaGreat
