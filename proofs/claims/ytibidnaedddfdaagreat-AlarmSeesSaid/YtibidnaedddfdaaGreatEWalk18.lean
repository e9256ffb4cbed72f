import Derived.Test.YtibidnaedddfdaaGreatEFacts
import Derived.Test.YtibidnaedddfdaaGreatEForms
import Derived.Test.YtibidnaedddfdaaGreatEInsert
import Derived.Test.YtibidnaedddfdaaGreatEWalk16
namespace Go.Proofs.YtibidnaedddfdaaGreat
set_option linter.all false
open Go.RowKit
open Go.Proofs.Tryz
set_option maxRecDepth 10000
set_option maxHeartbeats 2000000
variable {N:Nat}{S:Nat→Prop}{L:List HP}{h:AX}
def NM {w:Nat}{p0_w:AJ}{j:Value}{k:Value}{l:Value}{m:Value}{n:Value}{p:Value}{q:Value}{s:Value}{a:Value}{b:Value}{c:Value}{d:Value}(hs:St S (Bx w 141 [.string p0_w.G.M,j,vI p0_w.G.S,k,l,m,n,p,q,s,vI p0_w.G.T,vI p0_w.J.I,a,b,c,d]::OS AC 51 a p0_w.J.K::OS BS 93 b p0_w.J.N::OS AM 97 c p0_w.J.D::OS AC 51 d p0_w.Aj::L) h) (U:p0_w.G.M.size≤maxLen) (A:Sl S h BU.str j p0_w.G.Aq) (V:AA p0_w.G.S) (t:Sl S h B4 k p0_w.G.E) (W:Sl S h BI l p0_w.G.D) (X:Sl S h Dn m p0_w.G.Ad) (Y:Sl S h De n p0_w.G.Ab) (Z:Sl S h GQ p p0_w.G.Ar) (aa:Sl S h DB q p0_w.G.At) (ab:Sl S h AY s p0_w.G.As) (H:AA p0_w.G.T) (Q:AA p0_w.J.I) {x:Value}{y:IL}(F:Rd S h FX x y) {z:Int}(af:AA z) {r:Bool}(E:Ig N p0_w y z=some r):
 CD prog 160 #[vP w 0,x,vI z] S h (λv S' h'=>v= .bool r∧St S' (Bx w 141 [.string p0_w.G.M,j,vI p0_w.G.S,k,l,m,n,p,q,s,vI p0_w.G.T,vI p0_w.J.I,a,b,c,d]::OS AC 51 a p0_w.J.K::OS BS 93 b p0_w.J.N::OS AM 97 c p0_w.J.D::OS AC 51 d p0_w.Aj::L) h'):=by
 refine A7 69 func160 O ntmps160 O λB=>?_;rw[Ig] at E;refine AU ?_;refine AT O F CE O hs λq1 S2 h3 ag e5 k6=>AU ?_;refine WF.rc (.inr ⟨mo,by kernel_rfl⟩) ag (AU ?_);obtain⟨ah,u,E⟩:=bd E;refine A6 11 22 (.bool ah) ?_ ?_
 ·cases ac:(decide (y.Ah≠z))
  ·have u:=H8 ac u;have ai:=k6.fl QG;have aj:=ai.i;have ak:=A.mono' e5;have al:=ak.le;refine AU ?_;refine BC u O O O aH O (λam ad h' o=>LR (St.all h') aj (M0 al) ad) λam u=>AU ?_;cases u;exact A5 O
  have u:=H7 ac u;cases u;exact BO O O
 have av:=t.mono' e5;refine AU ?_;refine BD (kp [43,4,0,2] O) λaw au an=>AE O E (λao E=>?_) (λao E=>?_)
 ·exact RT
 refine AU ?_;refine Ix (.inr ⟨mo,by kernel_rfl⟩) ?_;have ax:=k6.mono an;refine AU ?_;obtain⟨ap,g,E⟩:=bd E;refine A6 21 68 (.bool ap) ?_ ?_
 ·cases ae:(decide (y.C=(-1)))
  ·have g:=H8 ae g;refine AU ?_;have aq:=t.nw;refine AN g O O aq sl_23.1 O λay g az a0=>AU ?_;have ar:=t.nw;refine AN g O O ar sl_23.1 O λa1 g a2 a3=>AU ?_;cases g;exact A5 O
  have g:=H7 ae g;cases g;exact BO O O
 exact RT
def NB {j:Nat}{p0_w:AJ}{k:Value}{q:Value}{s:Value}{t:Value}{u:Value}{x:Value}{y:Value}{z:Value}{b:Value}{c:Value}{d:Value}{g:Value}(hs:St S (Bx j 141 [.string p0_w.G.M,k,vI p0_w.G.S,q,s,t,u,x,y,z,vI p0_w.G.T,vI p0_w.J.I,b,c,d,g]::OS AC 51 b p0_w.J.K::OS BS 93 c p0_w.J.N::OS AM 97 d p0_w.J.D::OS AC 51 g p0_w.Aj::L) h) (ay:p0_w.G.M.size≤maxLen) (az:Sl S h BU.str k p0_w.G.Aq) (a0:AA p0_w.G.S) (ai:Sl S h B4 q p0_w.G.E) (ac:Sl S h BI s p0_w.G.D) (a1:Sl S h Dn t p0_w.G.Ad) (a2:Sl S h De u p0_w.G.Ab) (a3:Sl S h GQ x p0_w.G.Ar) (a4:Sl S h DB y p0_w.G.At) (a5:Sl S h AY z p0_w.G.As) (ao:AA p0_w.G.T) (ap:AA p0_w.J.I) {A:Int}(bm:AA A) {am:Value}{F:BT}(a6:Rd S h D2 am F) {r:(List AD)}(E:Fg N p0_w A F=some r):
 CD prog 131 #[vP j 0,vI A,am] S h (λv S' h'=>St S' (OS AL 204 v r::Bx j 141 [.string p0_w.G.M,k,vI p0_w.G.S,q,s,t,u,x,y,z,vI p0_w.G.T,vI p0_w.J.I,b,c,d,g]::OS AC 51 b p0_w.J.K::OS BS 93 c p0_w.J.N::OS AM 97 d p0_w.J.D::OS AC 51 g p0_w.Aj::L) h'):=by
 refine A7 112 func131 O ntmps131 O λB=>?_;rw[Fg] at E;refine AU ?_;refine AT O a6 CE O hs λq1 S2 h3 ei e5 k6=>AU ?_;refine AQ (λa w=>∃(v7:Value) (l8:List AD),IV B S2 h3 (112,[]) a w [(0,vP j 0),(1,vI A),(7,v7)] (OS AL 204 v7 l8::Bx j 141 [.string p0_w.G.M,k,vI p0_w.G.S,q,s,t,u,x,y,z,vI p0_w.G.T,vI p0_w.J.I,b,c,d,g]::OS AC 51 b p0_w.J.K::OS BS 93 c p0_w.J.N::OS AM 97 d p0_w.J.D::OS AC 51 g p0_w.Aj::L) λ_ _=>C7 N p0_w A l8=some r) ?_ ?_
 ·refine BJ (λn1=>λa w=>∃(aq:Value) (ar:List AD) (ag:Int),IV B S2 h3 (112,[]) a w [(5,q1),(0,vP j 0),(1,vI A),(7,aq),(8,vI ag)] (OS AL 204 aq ar::Bx j 141 [.string p0_w.G.M,k,vI p0_w.G.S,q,s,t,u,x,y,z,vI p0_w.G.T,vI p0_w.J.I,b,c,d,g]::OS AC 51 b p0_w.J.K::OS BS 93 c p0_w.J.N::OS AM 97 d p0_w.J.D::OS AC 51 g p0_w.Aj::L) λ_ _=>AA ag∧CR N p0_w A F (C7 N p0_w A) n1 ar ag=some r) N ?_ ?_ ?_
  ·intro aa ww U V;have cv:=ei.nil AL 204;exact⟨(vN),([]:List AD),0,_,_,U.sub (kp [5,0,1,7,8] O),V,cv,(Cc.refl S2 h3),(iq (n:=0) O),E⟩
  ·rintro aa ww ⟨_,_,_,_,_,_,_,_,_,_,E⟩;rw[CR] at E;cases E
  rintro n1 aa ww ⟨aq,ar,ag,ej,ek,U,V,bp,cw,h2,E⟩;refine AI ?_ U V;clear U V ww aa;rw[CR] at E;have bu:=k6.mono cw;refine AU ?_;refine AE O E (λel E=>?_) (λel E=>?_)
  ·refine AU ?_;refine AQ (λa w=>∃(bn:Value) (bo:List AD),IV B ej ek (112,[]) a w [(5,q1),(0,vP j 0),(1,vI A),(8,vI ag),(7,bn)] (OS AL 204 bn bo::Bx j 141 [.string p0_w.G.M,k,vI p0_w.G.S,q,s,t,u,x,y,z,vI p0_w.G.T,vI p0_w.J.I,b,c,d,g]::OS AC 51 b p0_w.J.K::OS BS 93 c p0_w.J.N::OS AM 97 d p0_w.J.D::OS AC 51 g p0_w.Aj::L) λ_ _=>F9 N ag (CR N p0_w A F (C7 N p0_w A) n1) bo=some r) ?_ ?_
   ·refine AU ?_;refine Ej ?_;have em:=bu.fl Kw;obtain⟨h4,_,en⟩:=em.ll;refine AU ?_;refine AN E O O en sl_39.1 O λh5 E h6 eo=>?_;obtain⟨h7,_,ep⟩:=eo.lv;refine AU ?_;have cx:=bp.sel [1,1,1,1,1,0] 0 O;have eq:=az.nw;have er:=ai.nw;have es:=ac.nw;have eu:=a1.nw;have ev:=a2.nw;have ew:=a3.nw;have ey:=a4.nw;have ez:=a5.nw;refine GA E O O O kY O (λe0 cy=>NM (p0_w:=p0_w) cx ay eq a0 er es eu ev ew ey ez ao ap ep bm cy) λe0 E h8 ak e1 e2 p=>?_;obtain⟨rfl,W⟩:=p;refine AU ?_;refine AE O E (λe3 E=>?_) (λe3 E=>?_)
    ·obtain ⟨Y,cz,E⟩:=bd E;obtain⟨Z,c0,E⟩:=bd E;refine QC (m:=[(5,q1),(0,vP j 0),(1,vI A),(7,aq),(8,vI ag)]) 15 (λi v hh=>match i with|0=>v=aq|1=>Pt ak hh (BU.sl FX) v F.Ag|2=>Sl ak hh FX v F.Ag|3=>v=vI ag∧AA ag|4=>Pt ak hh FX v Y|5=>Pt ak hh AY v Y.Al|6=>v=vI Y.Al∧AA Y.Al|7=>Pt ak hh (BU.sl FX) v F.Ag|8=>Sl ak hh FX v F.Ag|9=>v=vI ag∧AA ag|10=>Pt ak hh FX v Z|11=>Pt ak hh AY v Z.C|12=>v=vI Z.C∧AA Z.C|13=>v= .agg #[vI Y.Al,vI 0,vI Z.C,vI 0]∧AA Y.Al∧AA 0∧AA Z.C∧AA 0|14=>Sl (SN ak e1 hh) hh AL v ([(⟨Y.Al,0,Z.C,0⟩:AD)]:List AD)∧∃ad,v= .slice (some ad) 1 1|_=>False) [[],[],[(1,28)],[],[(2,29),(3,30)],[(4,31)],[(5,32)],[],[(7,34)],[],[(8,35),(9,36)],[(10,37)],[(11,38)],[(6,33),(12,39)],[(13,40)]] [(0,27),(14,41)] mo (by kernel_rfl) [5,0,1,7,8] O (by kernel_rfl) (by kernel_rfl) (by kernel_rfl) (kp [5,0,1,7,8] O) MO ?_ ?_
     ·refine BM.cons O EY (BM.cons O ?_ ?_)
      ·intro mq hh o;have ah:=o.st W;have e4:=bu.nw;have e6:=e4.fl Kw;refine AU ?_;exact B0 e6
      refine BM.cons O ?_ ?_
      ·intro mq hh o;intro e7 bv;have ah:=o.st W;have bv:Pt _ _ (BU.sl FX) e7 F.Ag:=bv;obtain⟨h9,_,e8⟩:=bv.ll;refine AU ?_;exact B0 e8
      refine BM.cons O EY (BM.cons O ?_ ?_)
      ·intro mq hh o;intro e9 bw ia fa;have ah:=o.st W;have bw:Sl _ _ FX e9 F.Ag:=bw;obtain⟨rfl,ib⟩:=fa;refine AU ?_;refine Mc O O bw sl_39.1 cz O λic fb=>AU ?_;exact B0 fb
      refine BM.cons O ?_ ?_
      ·intro mq hh o;intro c1 a7;have ah:=o.st W;have a7:Pt _ _ FX c1 Y:=a7;have c2:=a7.fl IL.f_Litres;refine AU ?_;exact B0 c2
      refine BM.cons O ?_ ?_
      ·intro mq hh o;intro c3 a8;have ah:=o.st W;have a8:Pt _ _ AY c3 Y.Al:=a8;have c4:=a8.i;refine AU ?_;exact B0 ⟨O,c4⟩
      refine BM.cons O ?_ ?_
      ·intro mq hh o;have ah:=o.st W;have c5:=bu.nw;have c6:=c5.fl Kw;refine AU ?_;exact B0 c6
      refine BM.cons O ?_ ?_
      ·intro mq hh o;intro c7 a9;have ah:=o.st W;have a9:Pt _ _ (BU.sl FX) c7 F.Ag:=a9;obtain⟨fe,_,c8⟩:=a9.ll;refine AU ?_;exact B0 c8
      refine BM.cons O EY (BM.cons O ?_ ?_)
      ·intro mq hh o;intro c9 ba ff da;have ah:=o.st W;have ba:Sl _ _ FX c9 F.Ag:=ba;obtain⟨rfl,fg⟩:=da;refine AU ?_;refine Mc O O ba sl_39.1 c0 O λfh db=>AU ?_;exact B0 db
      refine BM.cons O ?_ ?_
      ·intro mq hh o;intro dc bb;have ah:=o.st W;have bb:Pt _ _ FX dc Z:=bb;have dd:=bb.fl IL.f_To;refine AU ?_;exact B0 dd
      refine BM.cons O ?_ ?_
      ·intro mq hh o;intro de bc;have ah:=o.st W;have bc:Pt _ _ AY de Z.C:=bc;have df:=bc.i;refine AU ?_;exact B0 ⟨O,df⟩
      refine BM.cons O ?_ ?_
      ·intro mq hh o;intro fi dg fj dh;have ah:=o.st W;obtain⟨rfl,di⟩:=dg;obtain⟨rfl,dj⟩:=dh;refine AU ?_;refine B6 (cs:=[vI Y.Al,vI 0,vI Z.C,vI 0]) UU O O O (AU ?_);exact B0 ⟨O,di,(iq (n:=0) O),dj,(iq (n:=0) O)⟩
      refine BM.cons O ?_ ?_
      ·intro mq hh o;intro fk dk;have ah:=SN.st W o;obtain⟨rfl,dl,dm,dn,dp⟩:=dk;have fc:=ah.fz;refine Io (cs:=[vI Y.Al,vI 0,vI Z.C,vI 0]) PN O O O O O O O fc λfm fn bx fo=>?_;have bz:=bx.bxos (r:=AL) (l:=([(⟨Y.Al,0,Z.C,0⟩:AD)]:List AD)) .head ⟨_,_,O,⟨O,⟨dl,dm,dn,dp⟩⟩,O⟩ (by simp [maxLen]);obtain⟨fp,b0,fq,dq⟩:=bz.pubs .head;have be:=Fz.done o EX b0;exact EB be.1 ⟨Sl.mono' dq be.2,_,O⟩
      exact trivial
     intro fr dr fs ds ft bf;have b1:=SN.st W dr;cases ds;obtain⟨bf,fd,rfl⟩:=bf;obtain⟨b2,E⟩:=RM E;refine OL (r:=AL) (l:=ar) (xs:=([(⟨Y.Al,0,Z.C,0⟩:AD)]:List AD)) O O PN O (Sl.src bf) O b2 O b1 (λ_=>(.tail (.tail (.tail (.tail (.tail .head)))))) λdt fu b3 fv=>AU ?_;refine WF.nil (λaa ww U V=>?_);have b4:=b3.sel [5,0,0,0,0,0] 0 O;exact⟨dt,(ar++([(⟨Y.Al,0,Z.C,0⟩:AD)]:List AD)),_,_,U.sub (kp [5,0,1,8,7] O),V,b4,EX,E⟩
    refine AU ?_;refine WF.nil (λaa ww U V=>?_);have b5:=W.sel [5,0,0,0,0,0] 0 O;exact⟨aq,ar,_,_,U.sub (kp [5,0,1,8,7] O),V,b5,e2,E⟩
   rintro aa ww ⟨bn,bo,fw,fx,U,V,b6,fy,E⟩;refine AI ?_ U V;clear U V ww aa;rw[F9] at E;refine AU ?_;refine WF.nil (λaa ww U V=>?_);exact⟨bn,bo,(BR (ag+1)),_,_,U.sub (kp [5,0,1,7,8] O),V,b6,EX,(B1 _),E⟩
  refine WF.exit O (λaa ww U V=>?_);exact⟨aq,ar,_,_,U.sub (kp [0,1,7] O),V,bp,cw,E⟩
 rintro aa ww ⟨v7,l8,bg,bh,U,V,b7,f0,E⟩;refine AI ?_ U V;clear U V ww aa;rw[C7] at E;refine AU ?_;refine AQ (λa w=>∃(av:Value) (aj:List AD),IV B bg bh (112,[]) a w [(0,vP j 0),(1,vI A),(7,av)] (OS AL 204 av aj::Bx j 141 [.string p0_w.G.M,k,vI p0_w.G.S,q,s,t,u,x,y,z,vI p0_w.G.T,vI p0_w.J.I,b,c,d,g]::OS AC 51 b p0_w.J.K::OS BS 93 c p0_w.J.N::OS AM 97 d p0_w.J.D::OS AC 51 g p0_w.Aj::L) λ_ _=>C6 N p0_w A aj=some r) ?_ ?_
 ·refine BJ (λn4=>λa w=>∃(an:Value) (ab:List AD) (Q:Int),IV B bg bh (112,[]) a w [(0,vP j 0),(1,vI A),(7,an),(9,vI Q)] (OS AL 204 an ab::Bx j 141 [.string p0_w.G.M,k,vI p0_w.G.S,q,s,t,u,x,y,z,vI p0_w.G.T,vI p0_w.J.I,b,c,d,g]::OS AC 51 b p0_w.J.K::OS BS 93 c p0_w.J.N::OS AM 97 d p0_w.J.D::OS AC 51 g p0_w.Aj::L) λ_ _=>AA Q∧CC N p0_w A (C6 N p0_w A) n4 ab Q=some r) N ?_ ?_ ?_
  ·intro aa ww U V;exact⟨v7,l8,0,_,_,U.sub (kp [0,1,7,9] O),V,b7,(Cc.refl bg bh),(iq (n:=0) O),E⟩
  ·rintro aa ww ⟨_,_,_,_,_,_,_,_,_,_,E⟩;rw[CC] at E;cases E
  rintro n4 aa ww ⟨an,ab,Q,du,dv,U,V,bi,dw,bq,E⟩;refine AI ?_ U V;clear U V ww aa;rw[CC] at E;have f1:=ac.nw;refine AU ?_;refine AE O E (λdx E=>?_) (λdx E=>?_)
  ·refine AU ?_;refine AQ (λa w=>∃(aw:Value) (ax:List AD),IV B du dv (112,[]) a w [(0,vP j 0),(1,vI A),(9,vI Q),(7,aw)] (OS AL 204 aw ax::Bx j 141 [.string p0_w.G.M,k,vI p0_w.G.S,q,s,t,u,x,y,z,vI p0_w.G.T,vI p0_w.J.I,b,c,d,g]::OS AC 51 b p0_w.J.K::OS BS 93 c p0_w.J.N::OS AM 97 d p0_w.J.D::OS AC 51 g p0_w.Aj::L) λ_ _=>El N Q (CC N p0_w A (C6 N p0_w A) n4) ax=some r) ?_ ?_
   ·refine AU ?_;have dy:=ac.nw;refine AN E O O dy sl_24.1 O λH E f2 dz=>?_;obtain⟨f3,_,d0⟩:=dz.lv;refine AU ?_;refine BZ Nb O bi λf4 f5 b8 d1=>?_;have d2:=d0.mono d1;obtain⟨f6,f7,f8,rfl,f9,ga,d3,d4,gb,gc,ge,gf,gg,gh,gi,gj,gk,gl,gm,gn,gp,br⟩:=BI.ex d2;refine Hv O O O ON ty_102.1 O b8 .head O λgq au gr=>AU ?_;refine AE O E (λd5 E=>?_) (λd5 E=>?_)
    ·refine AU ?_;refine B6 (cs:=[vI 0,vI Q,vI H.C,vI H.X]) UU O O O (AU ?_);refine Io (cs:=[vI 0,vI Q,vI H.C,vI H.X]) PN O O O O O O O au λgs gu b9 gv=>?_;obtain⟨ca,E⟩:=RM E;refine J2 (r:=AL) (l:=ab) (xs:=([(⟨0,Q,H.C,H.X⟩:AD)]:List AD)) O O PN O mh ⟨_,_,O,⟨O,⟨(iq (n:=0) O),bq,d4,br⟩⟩,O⟩ O O ca O b9 (λ_=>(.tail (.tail .head))) λd6 gw cb gx=>?_;have cc:=cb.drop .head;refine AU ?_;refine WF.nil (λaa ww U V=>?_);have cd:=cc.sel [1,1,1,1,1,1] 1 O;exact⟨d6,(ab++([(⟨0,Q,H.C,H.X⟩:AD)]:List AD)),_,_,U.sub (kp [0,1,9,7] O),V,cd,EX,E⟩
    refine AU ?_;refine AE O E (λd7 E=>?_) (λd7 E=>?_)
    ·refine AU ?_;refine B6 (cs:=[vI 0,vI Q,vI H.P,vI H.X]) UU O O O (AU ?_);refine Io (cs:=[vI 0,vI Q,vI H.P,vI H.X]) PN O O O O O O O au λgy gz ce g0=>?_;obtain⟨cf,E⟩:=RM E;refine J2 (r:=AL) (l:=ab) (xs:=([(⟨0,Q,H.P,H.X⟩:AD)]:List AD)) O O PN O mh ⟨_,_,O,⟨O,⟨(iq (n:=0) O),bq,d3,br⟩⟩,O⟩ O O cf O ce (λ_=>(.tail (.tail .head))) λd8 g1 cg g2=>?_;have ch:=cg.drop .head;refine AU ?_;refine WF.nil (λaa ww U V=>?_);have ci:=ch.sel [1,1,1,1,1,1] 1 O;exact⟨d8,(ab++([(⟨0,Q,H.P,H.X⟩:AD)]:List AD)),_,_,U.sub (kp [0,1,9,7] O),V,ci,EX,E⟩
    refine AU ?_;refine WF.nil (λaa ww U V=>?_);have cj:=au.sel [1,1,1,1,1,1] 1 O;exact⟨an,ab,_,_,U.sub (kp [0,1,9,7] O),V,cj,EX,E⟩
   rintro aa ww ⟨aw,ax,g3,g4,U,V,ck,g5,E⟩;refine AI ?_ U V;clear U V ww aa;rw[El] at E;refine AU ?_;refine WF.nil (λaa ww U V=>?_);exact⟨aw,ax,(BR (Q+1)),_,_,U.sub (kp [0,1,7,9] O),V,ck,EX,(B1 _),E⟩
  refine WF.exit O (λaa ww U V=>?_);exact⟨an,ab,_,_,U.sub (kp [0,1,7] O),V,bi,dw,E⟩
 rintro aa ww ⟨av,aj,bs,g6,U,V,cl,g7,E⟩;refine AI ?_ U V;clear U V ww aa;rw[C6] at E;refine AU ?_;have d9:=ai.nw;refine AN E O O d9 sl_23.1 O λaf E g8 ea=>?_;obtain⟨g9,_,eb⟩:=ea.lv;refine AU ?_;refine BZ Qh O cl λha hb cm ec=>?_;have ed:=eb.mono ec;obtain⟨hc,hd,he,rfl,hg,hi,hj,hk,hl,hm,hn,ho,ee,ef,hp,hq⟩:=B4.ex ed;refine Hv O O O ON ty_57.1 O cm .head O λbt bj hr=>AU ?_;refine Er (λa w=>∃(bk:Value) (bl:List AD),IV B bs bt (112,[]) a w [(7,bk)] (OS AL 204 bk bl::Bx j 141 [.string p0_w.G.M,k,vI p0_w.G.S,q,s,t,u,x,y,z,vI p0_w.G.T,vI p0_w.J.I,b,c,d,g]::OS AC 51 b p0_w.J.K::OS BS 93 c p0_w.J.N::OS AM 97 d p0_w.J.D::OS AC 51 g p0_w.Aj::L) λ_ _=>F8 N bl=some r) ?_ ?_
 ·refine AE O E (λeg E=>?_) (λeg E=>?_)
  ·refine AU ?_;refine B6 (cs:=[vI 0,vI (-1),vI af.Ap,vI af.X]) UU O O O (AU ?_);refine Io (cs:=[vI 0,vI (-1),vI af.Ap,vI af.X]) PN O O O O O O O bj λht hu cn hv=>?_;obtain⟨co,E⟩:=RM E;refine J2 (r:=AL) (l:=aj) (xs:=([(⟨0,(-1),af.Ap,af.X⟩:AD)]:List AD)) O O PN O mh ⟨_,_,O,⟨O,⟨(iq (n:=0) O),(iq (n:=(-1)) O),ee,ef⟩⟩,O⟩ O O co O cn (λ_=>(.tail (.tail .head))) λeh hx cp hy=>?_;have cq:=cp.drop .head;refine AU ?_;refine WF.nil (λaa ww U V=>?_);have cr:=cq.sel [1,1,1,1,1,1] 1 O;exact⟨eh,(aj++([(⟨0,(-1),af.Ap,af.X⟩:AD)]:List AD)),_,_,U.sub (kp [7] O),V,cr,EX,E⟩
  refine AU ?_;refine WF.nil (λaa ww U V=>?_);have ct:=bj.sel [1,1,1,1,1,1] 1 O;exact⟨av,aj,_,_,U.sub (kp [7] O),V,ct,(Cc.refl bs bt),E⟩
 rintro aa ww ⟨bk,bl,hz,h0,U,V,cu,h1,E⟩;refine AI ?_ U V;clear U V ww aa;rw[F8] at E;refine AU ?_;cases E;exact Kt cu O O EX
def Jc (hs:St S L h) {g:Int}(I:AA g) {c:Int}(A:AA c) {b:Int}(C:AA b) {r:Int×Int×Bool}(E:Fk N g c b=some r):
 CD prog 178 #[vI g,vI c,vI b] S h (λv S' h'=>v= .tuple #[vI r.1,vI r.2.1,.bool r.2.2]∧AA r.1∧AA r.2.1∧St S' (L) h'):=by
 refine A7 61 func178 O ntmps178 O λB=>?_;rw[Fk] at E;refine AU ?_;refine AE O E (λc6 E=>?_) (λc6 E=>?_)
 ·refine AU ?_;refine WF.ret (λl m d i=>?_);cases E;exact IS d O i (GB (KG d (v:=_) O) (GB (KG d (v:=_) O) (GB (KG d (v:=_) O) ID))) O (Cc.refl S h) ⟨O,(iq (n:=0) O),(iq (n:=0) O),hs⟩
 refine AU ?_;refine AQ (λa w=>∃(J:Int) (K:Int),IV B S h (61,[]) a w [(9,vI J),(10,vI K)] (L) λ_ _=>AA J∧AA K∧FQ N J K=some r) ?_ ?_
 ·refine BJ (λM=>λa w=>∃(j:Int) (k:Int) (o:Int),IV B S h (61,[]) a w [(0,vI g),(1,vI c),(2,vI b),(9,vI j),(10,vI k),(11,vI o)] (L) λ_ _=>AA j∧AA k∧AA o∧Ce N g c b (FQ N) M j k o=some r) N ?_ ?_ ?_
  ·intro l m d i;exact⟨0,0,1125899906842624,_,_,d.sub (kp [0,1,2,9,10,11] O),i,hs,(Cc.refl S h),(iq (n:=0) O),(iq (n:=0) O),(iq (n:=1125899906842624) O),E⟩
  ·rintro l m ⟨_,_,_,_,_,_,_,_,_,_,_,_,E⟩;rw[Ce] at E;cases E
  rintro M l m ⟨j,k,o,y,z,d,i,p,Q,U,V,af,E⟩;refine AI ?_ d i;clear d i m l;rw[Ce] at E;refine AU ?_;refine AE O E (λW E=>?_) (λW E=>?_)
  ·refine AU ?_;refine BQ (AU ?_);refine Er (λa w=>∃(q:Int),IV B y z (61,[]) a w [(9,vI (BR (2*j))),(0,vI g),(1,vI c),(2,vI b),(11,vI o),(10,vI q)] (L) λ_ _=>AA q∧Gn N b j o (Ce N g c b (FQ N) M) q=some r) ?_ ?_
   ·refine AE O E (λX E=>?_) (λX E=>?_)
    ·refine AU ?_;refine WF.nil (λl m d i=>?_);exact⟨(BR ((BR (2*k))+g)),_,_,d.sub (kp [9,0,1,2,11,10] O),i,p,(Cc.refl y z),(B1 _),E⟩
    refine AU ?_;refine WF.nil (λl m d i=>?_);exact⟨(BR (2*k)),_,_,d.sub (kp [9,0,1,2,11,10] O),i,p,(Cc.refl y z),(B1 _),E⟩
   rintro l m ⟨q,ag,ah,d,i,s,ai,Y,E⟩;refine AI ?_ d i;clear d i m l;rw[Gn] at E;refine AU ?_;obtain⟨D,t,E⟩:=bd E;have aj:IntKind.has .i64 D:=MF t;refine Ps O O O t (AU ?_);obtain⟨F,u,E⟩:=bd E;have Z:IntKind.has .i64 F:=Vf (Qz.2 Y) u;refine YE O O O u (AU ?_);refine AE O E (λab E=>?_) (λab E=>?_)
   ·refine AU ?_;refine WF.ret (λl m d i=>?_);cases E;exact IS d O i (GB (KG d (v:=_) O) (GB (KG d (v:=_) O) (GB (KG d (v:=_) O) ID))) O EX ⟨O,(iq (n:=0) O),(iq (n:=0) O),s⟩
   refine AU ?_;refine B3 (AU ?_);obtain⟨G,x,E⟩:=bd E;have ac:IntKind.has .i64 G:=MF x;refine Ps O O O x (AU ?_);refine WF.nil (λl m d i=>?_);exact⟨(BR ((BR (2*j))+D)),F,G,_,_,d.sub (kp [0,1,2,9,10,11] O),i,s,EX,(B1 _),(Qz.1 Z),(Qz.1 ac),E⟩
  refine WF.exit O (λl m d i=>?_);exact⟨j,k,_,_,d.sub (kp [9,10] O),i,p,Q,U,V,E⟩
 rintro l m ⟨J,K,ak,al,d,i,H,ad,r8,ae,E⟩;refine AI ?_ d i;clear d i m l;rw[FQ] at E;refine AU ?_;refine WF.ret (λl m d i=>?_);cases E;exact IS d O i (GB (KG d (v:=_) O) (GB (KG d (v:=_) O) (GB (KG d (v:=_) O) ID))) O ad ⟨O,r8,ae,H⟩
def Ly (W:St S L h) {d:Value}{j:EU}(m:Rd S h B4 d j) {q:Int}(t:AA q) {b:Int}(k:AA b) {r:Int×Int}(E:H1 N j q b=some r):
 CD prog 162 #[d,vI q,vI b] S h (λv S' h'=>v= .tuple #[vI r.1,vI r.2]∧AA r.1∧AA r.2∧St S' (L) h'):=by
 refine A7 51 func162 O ntmps162 O λB=>?_;rw[H1] at E;refine AU ?_;refine AT O m CE O W λX F h3 G e5 D=>AU ?_;refine WF.rc (.inl O) G ?_;have Y:=D.fl EU.f_Num;have Z:=Y.i;have H:=D.fl EU.f_Den;have I:=H.i;refine AU ?_;obtain⟨g,C,E⟩:=bd E;refine Hu (v:= .tuple #[vI g.1,vI g.2.1,.bool g.2.2]) (Ψ:=AA g.1∧AA g.2.1) O O O Uu O (λh' o=>(Jc (St.all h') t Z I C).mono λ_ _ _ _ p=>⟨p.1,⟨p.2.1,p.2.2.1⟩⟩) λJ=>?_;obtain⟨K,ab⟩:=J;refine AU ?_;refine BD (kp [10,9,8,3,2] O) λy s M=>AU ?_;refine AE O E (λQ E=>?_) (λQ E=>?_)
 ·refine AU ?_;refine WF.ret (λz A c l=>?_);cases E;exact IS c O l (GB (KG c (v:=_) O) (GB (KG c (v:=_) O) ID)) O EX ⟨O,(iq (n:=0) O),(iq (n:=0) O),s⟩
 have ac:=D.mono M;refine AU ?_;refine Er (λa w=>∃(u:Int),IV B F y (51,[]) a w [(9,vI g.2.1),(8,vI g.1),(3,X),(11,vI u)] (L) λ_ _=>AA u∧Iz N j g u=some r) ?_ ?_
 ·refine AE O E (λU E=>?_) (λU E=>?_)
  ·refine AU ?_;refine WF.nil (λz A c l=>?_);exact⟨0,_,_,c.sub (kp [9,8,3,11] O),l,s,(Cc.refl F y),(iq (n:=0) O),E⟩
  refine AU ?_;refine WF.nil (λz A c l=>?_);exact⟨b,_,_,c.sub (kp [9,8,3,11] O),l,s,(Cc.refl F y),k,E⟩
 rintro z A ⟨u,ad,ae,c,l,x,af,ag,E⟩;refine AI ?_ c l;clear c l A z;rw[Iz] at E;have ah:=D.nw;refine AU ?_;refine AE O E (λV E=>?_) (λV E=>?_)
 ·refine AU ?_;refine WF.ret (λz A c l=>?_);cases E;exact IS c O l (GB (KG c (v:=_) O) (GB (KG c (v:=_) O) ID)) O EX ⟨O,K,(B1 _),x⟩
 refine AU ?_;refine Ix (.inr ⟨mo,by kernel_rfl⟩) (AU ?_);refine WF.ret (λz A c l=>?_);cases E;exact IS c O l (GB (KG c (v:=_) O) (GB (KG c (v:=_) O) ID)) O EX ⟨O,(B1 _),(B1 _),x⟩
end Go.Proofs.YtibidnaedddfdaaGreat
