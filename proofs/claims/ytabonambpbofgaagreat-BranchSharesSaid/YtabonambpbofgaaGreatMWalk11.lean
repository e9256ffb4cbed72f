import Derived.Test.YtabonambpbofgaaGreatMInst
import Derived.Test.YtabonambpbofgaaGreatMForms
import Derived.Test.YtabonambpbofgaaGreatMSort5
import Derived.Test.YtabonambpbofgaaGreatMCore47
import Derived.Test.YtabonambpbofgaaGreatMSortD
import Derived.Test.YtabonambpbofgaaGreatMWalk1
import Derived.Test.YtabonambpbofgaaGreatMWalk6
import Derived.Test.YtabonambpbofgaaGreatMWalk9
namespace Go.Proofs.YtabonambpbofgaaGreat
set_option linter.all false
open Go.RowKit
open Go.Proofs.Tryz
set_option maxRecDepth 10000
set_option maxHeartbeats 20000000
variable {N:Nat}{S:Nat→Prop}{L:List HP}{h:AO}
def Nl (hs:St S L h) {j:Value}{b:(List Int)}(s:Sl S h AB j b) {d:Value}{c:(List Int)}(t:Sl S h AB d c) {r:(List Int)}(E:HY N b c=some r):
 CJ prog 119 #[j,d] S h (λv S' h'=>St S' (OS AB 3 v r::L) h'):=by
 refine CJ.go 35 func119 O ntmps119 O λB=>?_;rw[HY] at E;refine AU ?_;refine RI O O O (AU ?_);obtain⟨X,E⟩:=LX E;refine LE (r:=AB) (zx:=0) H5 O ⟨O,by unfold AA;omega⟩ O O X O O hs λW h5 Y e7=>AU ?_;have k8:=s.mono' e7;refine VA (r:=AB) (l:=(List.replicate ((max (↑b.length:Int) (↑c.length:Int)):Int).toNat (0:Int))) (xs:=b) O O CQ.1 (Sl.src k8) O Y .head λZ D al=>?_;have ab:=t.nw;refine AU ?_;refine AS (λa w=>∃(y:List Int),IV B S Z (35,[]) a w [(5,W)] (OS AB 3 W y::L) λ_ _=>IG N y=some r) ?_ ?_
 ·refine A6 (λn1=>λa w=>∃(g:Int) (m:List Int),IV B S Z (35,[]) a w [(18,vI (↑c.length:Int)),(17,d),(5,W),(19,vI g)] (OS AB 3 W m::L) λ_ _=>AA g∧Gc N c (IG N) n1 g m=some r) N ?_ ?_ ?_
  ·intro z A o q;exact⟨0,(PI (List.replicate ((max (↑b.length:Int) (↑c.length:Int)):Int).toNat (0:Int)) b),_,_,o.sub (kp [18,17,5,19] O),q,D,(BF.refl S Z),(iq (n:=0) O),E⟩
  ·rintro z A ⟨_,_,_,_,_,_,_,_,_,E⟩;rw[Gc] at E;cases E
  rintro n1 z A ⟨g,m,am,an,o,q,k,F,ao,E⟩;refine AL ?_ o q;clear o q A z;rw[Gc] at E;refine AU ?_;refine AH O E (λac E=>?_) (λac E=>?_)
  ·refine AU ?_;refine A4 (AU ?_);have ad:=ab.mono' F;refine BH E O O ad CQ.1 O λap E aq ae=>?_;have af:=ae.i;refine AU ?_;refine DK (AU ?_);obtain⟨ar,G,E⟩:=bd E;refine BS k mh O O CQ.1 G O λau H=>?_;obtain⟨av,I,E⟩:=bd E;have ag:=k.epAt mh I Fd.id H;refine Ez Hi (λ_ x=>x) O ag FE.1 O λah=>AU ?_;refine DN E O O O WG O k (λC J=>Ka (St.all _) ah af J) λC E aw ax ay u az a0 p=>?_;obtain⟨rfl,ai,ak⟩:=p;refine AU ?_;obtain⟨a1,K,E⟩:=bd E;refine BS u mh O O CQ.1 K O λa2 M=>AU ?_;obtain⟨aj,Q,E⟩:=bd E;refine EM (r:=AB) (l:=m) (i:=g) (x:=aj) O O (⟨_,O,O,ai⟩:Rd _ _ AB _ C) M Q L7.id FE.1 (λ_=>rfl) u .head λa3 U a4=>AU ?_;refine BK (AU ?_);refine WF.nil (λz A o q=>?_);exact⟨(BO (g+1)),(upd m g C),_,_,o.sub (kp [18,17,5,19] O),q,U,EX,(BT _),E⟩
  refine BL O (λz A o q=>?_);exact⟨m,_,_,o.sub (kp [5] O),q,k,F,E⟩
 rintro z A ⟨y,a5,a6,o,q,V,a7,E⟩;refine AL ?_ o q;clear o q A z;rw[IG] at E;refine AU ?_;cases E;exact Fp V O O EX
def TW (hs:St S L h) {d:Value}{u:(List AV)}(ag:Sl S h AX d u) {b:Int}(a7:AA b) {z:Int}(I:AA z) {A:Int}(J:AA A) {r:(List (List Int))×(List AV)}(E:Lv N u b z A=some r):
 CJ prog 118 #[d,vI b,vI z,vI A] S h (λv S' h'=>∃b7 b8:Value,v= .tuple #[b7,b8]∧St S' (OS (A5.sl AB) 29 b7 r.1::OS AX 103 b8 r.2::L) h'):=by
 refine CJ.go 79 func118 O ntmps118 O λB=>?_;rw[Lv] at E;refine AU ?_;refine CW (.inl O) hs (AU ?_);refine DF E O O O WH O (λy1 dq h' o=>Jo (St.all h') I (iq (n:=0) O) (iq (n:=64) O) dq) λy1 E r2=>?_;have r3:=r2;refine AU ?_;refine BW (kp [2,0,1,3] O) λh4 dr e6=>AU ?_;refine CW (.inl O) dr (AU ?_);refine DF E O O O WH O (λy7 ds h' o=>Jo (St.all h') J (iq (n:=0) O) (iq (n:=16) O) ds) λy7 E r8=>?_;have r9:=r8;refine AU ?_;refine BW (kp [3,2,0,1] O) λfr b9 fs=>AU ?_;obtain⟨ca,E⟩:=LX E;refine LE (r:=(A5.sl AB)) (zx:=[]) V9 O ⟨_,O,.inl ⟨O,O⟩⟩ O O ca O O b9 λt a8 cb ft=>AU ?_;refine AS (λa w=>∃(av:List (List Int)),IV B S a8 (79,[]) a w [(8,t),(2,vI y1),(0,d),(1,vI b)] (OS (A5.sl AB) 29 t av::L) λ_ _=>HD N u b y1 av=some r) ?_ ?_
 ·refine A6 (λn1=>λa w=>∃(Z:Int) (ai:List (List Int)),IV B S a8 (79,[]) a w [(20,vI (↑(List.replicate (y1:Int).toNat ([]:(List Int))).length:Int)),(8,t),(3,vI y7),(2,vI y1),(0,d),(1,vI b),(21,vI Z)] (OS (A5.sl AB) 29 t ai::L) λ_ _=>AA Z∧HC N y1 y7 (HD N u b y1) n1 Z ai=some r) N ?_ ?_ ?_
  ·intro G H s y;exact⟨0,(List.replicate (y1:Int).toNat ([]:(List Int))),_,_,s.sub (kp [20,8,3,2,0,1,21] O),y,cb,(BF.refl S a8),(iq (n:=0) O),E⟩
  ·rintro G H ⟨_,_,_,_,_,_,_,_,_,E⟩;rw[HC] at E;cases E
  rintro n1 G H ⟨Z,ai,fu,fv,s,y,a1,dt,fw,E⟩;refine AL ?_ s y;clear s y H G;rw[HC] at E;refine AU ?_;refine AH O E (λdu E=>?_) (λdu E=>?_)
  ·refine AU ?_;refine A4 (AU ?_);obtain⟨cc,E⟩:=LX E;refine LE (r:=AB) (zx:=0) H5 O ⟨O,by unfold AA;omega⟩ O O cc O O a1 λfx fy a2 f0=>AU ?_;obtain⟨f1,cd,E⟩:=bd E;refine BS a2 (mt mh) O O Jl.1 cd O λf2 ce=>AU ?_;obtain⟨dv,cf,E⟩:=bd E;obtain⟨f3,cg,f4,dw⟩:=a2.pubs .head;refine EM (r:=(A5.sl AB)) (l:=ai) (i:=Z) (x:=dv) O O (Jx dw) ce cf L7.id GD.1 (λ_=>rfl) cg .head λf5 ch f6=>AU ?_;refine BK (AU ?_);refine WF.nil (λG H s y=>?_);exact⟨(BO (Z+1)),(upd ai Z (List.replicate (y7:Int).toNat (0:Int))),_,_,s.sub (kp [20,8,3,2,0,1,21] O),y,ch,EX,(BT _),E⟩
  refine BL O (λG H s y=>?_);exact⟨ai,_,_,s.sub (kp [8,2,0,1] O),y,a1,dt,E⟩
 rintro G H ⟨av,a9,ba,s,y,ci,f7,E⟩;refine AL ?_ s y;clear s y H G;rw[HD] at E;have dx:=ag.nw;refine AU ?_;refine AI 1 (jW O O O dx QI.1 O λa3=>AU ?_);have cj:=ci.zs AX 103 a3;have dy:=ag.nw;refine AU ?_;refine AS (λa w=>∃(bb:Value) (bc:List AV) (be:List (List Int)),IV B a9 ba (79,[]) a w [(8,t),(9,bb)] (OS AX 103 bb bc::OS (A5.sl AB) 29 t be::L) λ_ _=>IX N bc be=some r) ?_ ?_
 ·refine A6 (λn3=>λa w=>∃(M:Value) (ab:List AV) (K:Int) (ac:List (List Int)),IV B a9 ba (79,[]) a w [(33,vI (↑u.length:Int)),(32,d),(8,t),(2,vI y1),(1,vI b),(9,M),(34,vI K)] (OS AX 103 M ab::OS (A5.sl AB) 29 t ac::L) λ_ _=>AA K∧Gb N u b y1 (IX N) n3 ab K ac=some r) N ?_ ?_ ?_
  ·intro G H s y;exact⟨(.slice a3 0 0),([]:List AV),0,av,_,_,s.sub (kp [33,32,8,2,1,9,34] O),y,cj,(BF.refl a9 ba),(iq (n:=0) O),E⟩
  ·rintro G H ⟨_,_,_,_,_,_,_,_,_,_,_,E⟩;rw[Gb] at E;cases E
  rintro n3 G H ⟨M,ab,K,ac,Q,dz,s,y,a4,ck,f8,E⟩;refine AL ?_ s y;clear s y H G;rw[Gb] at E;refine AU ?_;refine AH O E (λd0 E=>?_) (λd0 E=>?_)
  ·refine AU ?_;refine AS (λa w=>∃(aw:Value) (ax:List AV) (ay:List (List Int)),IV B Q dz (79,[]) a w [(33,vI (↑u.length:Int)),(32,d),(8,t),(2,vI y1),(1,vI b),(34,vI K),(9,aw)] (OS AX 103 aw ax::OS (A5.sl AB) 29 t ay::L) λ_ _=>J2 N K (Gb N u b y1 (IX N) n3) ax ay=some r) ?_ ?_
   ·refine AU ?_;have d1:=dy.mono' ck;refine BH E O O d1 QI.1 O λc E f9 d2=>?_;obtain⟨ga,_,d3⟩:=d2.lv;refine AU ?_;refine Dp WY O a4 λU gb cl d4=>?_;have d5:=d3.mono d4;obtain⟨gc,rfl,ge,gf,cm⟩:=AX.ex d5;refine JZ O O O ON We.1 O cl .head O λaf j gg=>AU ?_;refine AH O E (λcn E=>?_) (λcn E=>?_)
    ·obtain ⟨d9,bf,E⟩:=bd E;obtain⟨a5,bg,E⟩:=bd E;obtain⟨aj,bh,E⟩:=bd E;obtain⟨eb,bi,E⟩:=bd E;refine M0 (m:=[(12,vP U 0),(33,vI (↑u.length:Int)),(32,d),(8,t),(2,vI y1),(1,vI b),(9,M),(34,vI K)]) 12 (λi v F=>match i with|0=>v=t|1=>v=vP U 1|2=>v=vI c.E∧AA c.E|3=>v=t|4=>v=vP U 1|5=>v=vI c.E∧AA c.E|6=>EP t (c.E.toNat*((A5.sl AB)).sz+0) v|7=>Sl Q F AB v a5|8=>v=vP U 2|9=>Sl Q F AB v c.W|10=>Sl (SN Q af F) F AB v aj|11=>EP t (c.E.toNat*((A5.sl AB)).sz+0) v|_=>False) [[],[],[(1,54)],[],[],[(4,57)],[(3,56),(5,58)],[(6,59)],[],[(8,61)],[(7,60),(9,62)],[(0,53),(2,55)]] [(10,63),(11,64)] mo (by kernel_rfl) [12,33,32,8,2,1,9,34] O (by kernel_rfl) (by kernel_rfl) (by kernel_rfl) (kp [12,33,32,8,2,1,9,34] O) MO ?_ ?_
     ·refine A3.cons O Fe (A3.cons O Fe (A3.cons O Fe (A3.cons O Fe (A3.cons O Fe (A3.cons O Fe (A3.cons O ?_ ?_))))))
      ·intro mq F o;intro ec co ed cp;have C:=o.st j;cases co;obtain⟨rfl,ee⟩:=cp;refine AU ?_;refine BS C (mt (mt mh)) O O Jl.1 bf O λef bj=>AU ?_;exact BV bj
      refine A3.cons O ?_ ?_
      ·intro mq F o;intro eg cq;have C:=o.st j;refine AU ?_;have cr:=C.epAt (mt (mt mh)) bg Fd.id cq;refine Hp Hi (λ_ x=>x) O cr GD.1 O λeh ct=>AU ?_;exact BV ct
      refine A3.cons O Fe (A3.cons O ?_ ?_)
      ·intro mq F o;intro ei cu;have C:=o.st j;cases cu;refine AU ?_;have cv:=cm.nw;exact BV cv
      refine A3.cons O ?_ ?_
      ·intro mq F o;intro cw V cx X;have C:=SN.st j o;have V:=Sl.sn af V;have V:Sl _ _ AB cw a5:=V;have X:=Sl.sn af X;have X:Sl _ _ AB cx c.W:=X;have D:=C.fz;refine FZ O O O W5 O D (Nl (St.all _) (V.mono D.ea.1 D.ea.2) (X.mono D.ea.1 D.ea.2) bh) λej ek el d6 em cy p=>?_;have bk:=p;have ak:=D.join cy bk ⟨OS.flat (λ{_ _ _ _ _ _} k=>k),trivial⟩;simp only[Aa5,Aa6] at ak;obtain⟨en,bl,eo,cz⟩:=ak.pubs .head;have am:=Fz.done o EX bl;exact A7 am.1 (Sl.mono' cz am.2)
      refine A3.cons O ?_ ?_
      ·intro mq F o;intro ep c0 eq c1;have C:=o.st j;cases c0;obtain⟨rfl,er⟩:=c1;refine AU ?_;refine BS C (mt (mt mh)) O O Jl.1 bi O λes bm=>AU ?_;exact BV bm
      exact trivial
     intro eu c2 c3 an ev c4;have bn:=SN.st j c2;have an:Sl _ _ AB c3 aj:=an;obtain⟨c5,bo,E⟩:=bd E;refine EM (r:=(A5.sl AB)) (l:=ac) (i:=c.E) (x:=c5) O O (Jx an) c4 bo L7.id GD.1 (λ_=>rfl) bn (.tail (.tail .head)) λew bp ey=>AU ?_;refine WF.nil (λG H s y=>?_);have bq:=bp.sel [1,1] 1 O;exact⟨M,ab,(upd ac c.E aj),_,_,s.sub (kp [33,32,8,2,1,34,9] O),y,bq,EX,E⟩
    obtain⟨g,br,E⟩:=bd E;refine M0 (m:=[(12,vP U 0),(33,vI (↑u.length:Int)),(32,d),(8,t),(2,vI y1),(1,vI b),(9,M),(34,vI K)]) 10 (λi v F=>match i with|0=>v=M|1=>v=vP U 0|2=>v=vI c.Ba∧AA c.Ba|3=>v=vP U 1|4=>v=vI c.E∧AA c.E|5=>v=vP U 2|6=>Sl Q F AB v c.W|7=>Sl (SN Q af F) F AB v g|8=>Rd (SN Q af F) F AX v ({ c with W:=g}:AV)|9=>Sl (SN Q af F) F AX v ([({ c with W:=g}:AV)]:List AV)∧∃ad,v= .slice (some ad) 1 1|_=>False) [[],[],[(1,66)],[],[(3,68)],[],[(5,70)],[(6,71)],[(2,67),(4,69),(7,72)],[(8,73)]] [(0,65),(9,74)] mo (by kernel_rfl) [12,33,32,8,2,1,9,34] O (by kernel_rfl) (by kernel_rfl) (by kernel_rfl) (kp [12,33,32,8,2,1,9,34] O) MO ?_ ?_
    ·refine A3.cons O Fe (A3.cons O Fe (A3.cons O Fe (A3.cons O Fe (A3.cons O Fe (A3.cons O Fe (A3.cons O ?_ ?_))))))
     ·intro mq F o;intro ez c6;have C:=o.st j;cases c6;refine AU ?_;have c7:=cm.nw;exact BV c7
     refine A3.cons O ?_ ?_
     ·intro mq F o;intro c8 Y;have C:=SN.st j o;have Y:=Sl.sn af Y;have Y:Sl _ _ AB c8 c.W:=Y;have D:=C.fz;refine FZ O O O Mp O D (B4 (St.all _) (Y.mono D.ea.1 D.ea.2) br) λe0 e1 e2 d7 e3 c9 p=>?_;have bs:=p;have ao:=D.join c9 bs ⟨OS.flat (λ{_ _ _ _ _ _} k=>k),trivial⟩;simp only[Aa5,Aa6] at ao;obtain⟨e4,bt,e5,da⟩:=ao.pubs .head;have ap:=Fz.done o EX bt;exact A7 ap.1 (Sl.mono' da ap.2)
     refine A3.cons O ?_ ?_
     ·intro mq F o;intro e7 db e8 dc dd ah;have C:=SN.st j o;obtain⟨rfl,de⟩:=db;obtain⟨rfl,df⟩:=dc;have ah:Sl _ _ AB dd g:=ah;refine AU ?_;obtain⟨bu,az,rfl,e9⟩:=(ah).len;refine Gs (cs:=[vI c.Ba,vI c.E,(.slice bu g.length az)]) aS O O O (AU ?_);exact BV (AX.mk (x:=({ c with W:=g}:AV)) de df ah)
     refine A3.cons O ?_ ?_
     ·intro mq F o;intro dg aq;have C:=SN.st j o;have aq:Rd _ _ AX dg ({ c with W:=g}:AV):=aq;have D:=C.fz;obtain⟨fa,rfl,dh,di,a6⟩:=AX.ex aq;obtain⟨bv,a0,rfl,fb⟩:=(a6).len;refine ID (cs:=[vI (({ c with W:=g}:AV).Ba),vI (({ c with W:=g}:AV).E),(.slice bv (({ c with W:=g}:AV).W).length a0)]) Rb O O O O O O O D λfc fd bw dj=>?_;have dk:=a6.mono' dj;have bx:=bw.bxos (r:=AX) (l:=([({ c with W:=g}:AV)]:List AV)) .head ⟨_,_,O,⟨_,O,dh,di,dk⟩,O⟩ (by simp [maxLen]);obtain⟨fe,bz,ff,dl⟩:=bx.pubs .head;have ar:=Fz.done o EX bz;exact A7 ar.1 ⟨Sl.mono' dl ar.2,_,O⟩
     exact trivial
    intro fg dm fh dn fi au;have b0:=SN.st j dm;cases dn;obtain⟨au,d8,rfl⟩:=au;obtain⟨b1,E⟩:=LX E;refine GU (r:=AX) (l:=ab) (xs:=([({ c with W:=g}:AV)]:List AV)) O O Rb O (Sl.src au) O b1 O b0 (λ_=>(.tail .head)) λdp fj b2 fk=>AU ?_;refine WF.nil (λG H s y=>?_);have b3:=b2.sel [1,1] 1 O;exact⟨dp,(ab++([({ c with W:=g}:AV)]:List AV)),ac,_,_,s.sub (kp [33,32,8,2,1,34,9] O),y,b3,EX,E⟩
   rintro G H ⟨aw,ax,ay,fl,fm,s,y,b4,fn,E⟩;refine AL ?_ s y;clear s y H G;rw[J2] at E;refine AU ?_;refine WF.nil (λG H s y=>?_);exact⟨aw,ax,(BO (K+1)),ay,_,_,s.sub (kp [33,32,8,2,1,9,34] O),y,b4,EX,(BT _),E⟩
  refine BL O (λG H s y=>?_);exact⟨M,ab,ac,_,_,s.sub (kp [8,9] O),y,a4,ck,E⟩
 rintro G H ⟨bb,bc,be,fo,fp,s,y,b5,fq,E⟩;refine AL ?_ s y;clear s y H G;rw[IX] at E;refine AU ?_;refine CI (λG H s y=>?_);have b6:=b5.sel [1,0] 0 O;cases E;exact Kv s O y (Io (Jk s (v:=_) O) (Io (Jk s (v:=_) O) Ku)) O EX ⟨_,_,O,b6⟩
def Rp (hs:St S L h) {c:Value}{n:A8}(l:Rd S h B8 c n) {d:Value}{b:A0}(m:Rd S h BQ d b) {k:Int}(K:AA k) {r:A0}(E:Hh N n b k=some r):
 CJ prog 120 #[c,d,vI k] S h (λv S' h'=>v= .agg #[vI r.Z,vI r.Aa,.bool r.Ax,.bool r.Am]∧A0.ok r∧St S' (L) h'):=by
 refine CJ.go 24 func120 O ntmps120 O λB=>?_;rw[Hh] at E;refine AU ?_;refine Cn O l CE O hs λq1 S2 h3 M e5 k6=>?_;have k7:=m.mono e5;obtain⟨rfl,⟨Y,u⟩⟩:=BQ.ex k7;refine NC O O O M λx ab y ac=>Dp SD O y λz A g ad=>?_;have ae:=k6.nw;refine AU ?_;refine AH O E (λQ E=>?_) (λQ E=>?_)
 ·refine AU ?_;refine Eh O O O O Ip.1 O g .head O λaf C ag=>AU ?_;refine CI (λs t i j=>?_);have o:=C.drop (.tail .head);have D:=o.drop .head;cases E;exact Kv i O j (Io (Wm i j o O mh Ip.1 O) Ku) O EX ⟨O,⟨Y,u⟩,D⟩
 refine AU ?_;refine AS (λa w=>∃(q:Bool),IV B S2 A (24,[]) a w [(6,vP z 0),(4,vP x 0)] (Bx z 107 [vI 0,vI 0,.bool false,.bool false]::Bx x 107 [vI b.Z,vI b.Aa,.bool b.Ax,.bool q]::L) λ_ _=>JR N b q=some r) ?_ ?_
 ·refine AU ?_;refine AH O E (λU E=>?_) (λU E=>?_)
  ·refine AU ?_;refine GN (cs':=[vI b.Z,vI b.Aa,.bool b.Ax,.bool true]) O O O O Wc.1 O g (.tail .head) O O λah F V=>AU ?_;refine WF.nil (λs t i j=>?_);exact⟨true,_,_,i.sub (kp [6,4] O),j,F,V,E⟩
  refine AU ?_;refine AH O E (λW E=>?_) (λW E=>?_)
  ·refine AU ?_;refine GN (cs':=[vI b.Z,vI b.Aa,.bool b.Ax,.bool false]) O O O O Wc.1 O g (.tail .head) O O λai G X=>AU ?_;refine WF.nil (λs t i j=>?_);exact⟨false,_,_,i.sub (kp [6,4] O),j,G,X,E⟩
  refine AU ?_;refine WF.nil (λs t i j=>?_);exact⟨b.Am,_,_,i.sub (kp [6,4] O),j,g,(BF.refl S2 A),E⟩
 rintro s t ⟨q,aj,ak,i,j,H,am,E⟩;refine AL ?_ i j;clear i j t s;rw[JR] at E;refine AU ?_;refine Eh O O O O Ip.1 O H .head O λan I ao=>AU ?_;refine CI (λs t i j=>?_);have p:=I.drop (.tail .head);have J:=p.drop .head;cases E;exact Kv i O j (Io (Wm i j p O mh Ip.1 O) Ku) O EX ⟨O,⟨Y,u⟩,J⟩
def Nj {c:Nat}{p0_w:AK}{an:Value}{ao:Value}{ag:Value}{ap:Value}{aq:Value}{ar:Value}{au:Value}{av:Value}{ah:Value}{ai:Value}{aj:Value}{ak:Value}{am:Value}{d:Value}{g:Value}{a3:Value}{ac:Value}{t:Value}{u:Value}{y:Value}{ad:Value}{z:Value}(hs:St S (Bx c 112 [.string p0_w.b.D,an,vI p0_w.b.J,ao,ag,ap,aq,ar,au,av,vI p0_w.b.K,ah,ai,aj,ak,am,vI p0_w.s.B,d,g,a3,ac,t,u,y,ad,z]::OO AB 3 29 d p0_w.s.G::OS AB 3 g p0_w.s.N::OS BQ 107 ac p0_w.s.R::OS AB 3 t p0_w.s.L::OS AB 3 u p0_w.s.O::OS B7 116 y p0_w.moves::OS AB 3 ad p0_w.peaks::OS AX 103 z p0_w.sent::L) h) (fn:p0_w.b.D.size≤maxLen) (bs:Sl S h A5.str an p0_w.b.H) (fo:AA p0_w.b.J) (a7:Sl S h BY ao p0_w.b.A) (bt:Sl S h B8 ag p0_w.b.C) (fp:Sl S h G7 ap p0_w.b.Af) (fq:Sl S h Eg aq p0_w.b.Ah) (fr:Sl S h Gr ar p0_w.b.Ai) (fs:Sl S h DM au p0_w.b.Ak) (ft:Sl S h AB av p0_w.b.Aj) (c6:AA p0_w.b.K) (c7:Sl S h AB ah p0_w.in_.T) (c8:Sl S h Cm ai p0_w.in_.Ab) (c9:Sl S h FD aj p0_w.in_.Ac) (da:Sl S h DE ak p0_w.in_.U) (db:Sl S h Da am p0_w.in_.Ae) (bh:AA p0_w.s.B) (bi:Sl S h AX a3 p0_w.s.I) {r:(List (List Int))×(List AV)×(List A0)×(List Int)}(E:Fi N p0_w=some r):
 CJ prog 61 #[vP c 0] S h (λv S' h'=>∃bm bn bo bp:Value,v= .tuple #[]∧St S' (Bx c 112 [.string p0_w.b.D,an,vI p0_w.b.J,ao,ag,ap,aq,ar,au,av,vI p0_w.b.K,ah,ai,aj,ak,am,vI p0_w.s.B,bm,g,bn,bo,t,u,y,bp,z]::OS (A5.sl AB) 29 bm r.1::OS AB 3 g p0_w.s.N::OS AX 103 bn r.2.1::OS BQ 107 bo r.2.2.1::OS AB 3 t p0_w.s.L::OS AB 3 u p0_w.s.O::OS B7 116 y p0_w.moves::OS AB 3 bp r.2.2.2::OS AX 103 z p0_w.sent::L) h'):=by
 refine CJ.go (l:=[vP c 0]) 123 func61 O ntmps61 O λB=>?_;rw[Fi] at E;have h0:=hs.pick (.tail .head);obtain⟨S2,af,e4⟩:=h0.ooPub;refine AU ?_;obtain⟨ay,fu,E⟩:=bd E;refine Ux (m:=[(0,vP c 0)]) [] [] [(23,[22]),(24,[23]),(25,[23]),(26,[24]),(27,[25])] (by kernel_rfl) (λgv X F i v hh=>match i with|0=>v=vP c 0|1=>v=vP c 0|2=>v=vP c 16|3=>v=vP c 19|4=>Sl S2 hh AX v p0_w.s.I|5=>v=vP c 0|6=>v=vP c 0|7=>v=vP c 16|8=>v=vP c 16|9=>v=vI p0_w.s.B∧AA p0_w.s.B|10=>v=vP c 0|11=>v=vP c 0|12=>v=vP c 0|13=>v=vP c 3|14=>Sl S2 hh BY v p0_w.b.A|15=>v=vI (↑p0_w.b.A.length:Int)∧AA (↑p0_w.b.A.length:Int)|16=>v=vP c 0|17=>v=vP c 0|18=>v=vP c 0|19=>v=vP c 1|20=>Sl S2 hh A5.str v p0_w.b.H|21=>v=vI (↑p0_w.b.H.length:Int)∧AA (↑p0_w.b.H.length:Int)|22=>∃w0 w1:Value,v= .tuple #[w0,w1]∧OW S2 h X F [OS (A5.sl AB) 29 w0 ay.1,OS AX 103 w1 ay.2] hh|23=>v=gv 22∧∃w0 w1:Value,v= .tuple #[w0,w1]|24=>v=lJ (gv 23) 0|25=>v=lJ (gv 23) 1|26=>v=gv 24|27=>v=gv 25|_=>False) [[],[(0,8)],[(1,9)],[(2,10)],[(3,11)],[],[(5,13)],[(6,14)],[(7,15)],[(8,16)],[],[(10,18)],[(11,19)],[(12,20)],[(13,21)],[(14,22)],[],[(16,24)],[(17,25)],[(18,26)],[(19,27)],[(20,28)],[(4,12),(9,17),(15,23),(21,29)],[(22,30)],[(23,7)],[(23,7)],[(24,31)],[(25,32)]] [(22,30),(23,7),(24,31),(25,32),(26,2),(27,3)] mo (by kernel_rfl) [0] O (by kernel_rfl) (by kernel_rfl) (by kernel_rfl) O (kp [0] O) (λgv i v h1 h2 X X' F o1 o2 hF u1 u2 Z=>?_) (λgv l2 X F i v h1 hz Z=>?_) ?_ ?_ ?_
 ·match i,Z with
   |0,Z|1,Z|2,Z|3,Z|5,Z|6,Z|7,Z|8,Z|9,Z|10,Z|11,Z|12,Z|13,Z|15,Z|16,Z|17,Z|18,Z|19,Z|21,Z|23,Z|24,Z|25,Z|26,Z|27,Z=>exact Z
   |4,Z|14,Z|20,Z=>exact Sl.mono' Z (o2.ext λb hb=>Aa8 (af.1 b hb) o1.siz)
   |22,Z=>obtain⟨w0,w1,ev,q⟩:=Z;exact⟨w0,w1,ev,OW.mono af.1 o1 o2 hF u1 u2 q⟩
   |_+28,Z=>exact Z.elim
 ·match i,Z with
   |0,Z|1,Z|2,Z|3,Z|4,Z|5,Z|6,Z|7,Z|8,Z|9,Z|10,Z|11,Z|12,Z|13,Z|14,Z|15,Z|16,Z|17,Z|18,Z|19,Z|20,Z|21,Z|22,Z=>exact Z
   |23,Z=>rw[hz _ Abf O 22 (by decide)] at Z;exact Z
   |24,Z=>rw[hz _ (Abs _ Abf) O 23 (by decide)] at Z;exact Z
   |25,Z=>rw[hz _ (Abs _ (Abs _ Abf)) O 23 (by decide)] at Z;exact Z
   |26,Z=>rw[hz _ (Abs _ (Abs _ (Abs _ Abf))) O 24 (by decide)] at Z;exact Z
   |27,Z=>rw[hz _ (Abs _ (Abs _ (Abs _ (Abs _ Abf)))) O 25 (by decide)] at Z;exact Z
   |_+28,Z=>exact Z.elim
 ·exact trivial
 ·refine C3.cons O O ?_ ?_
  ·intro gv X mq hh o hX;have W:=o.st af;refine AU ?_;exact A7 (EJ.refl _) O
  refine C3.cons O O ?_ ?_
  ·intro gv X mq hh o hX;have W:=o.st af;intro l3 dc;obtain⟨im,_,_,dc⟩:=dc;cases dc;refine AU ?_;exact A7 (EJ.refl _) O
  refine C3.cons O O ?_ ?_
  ·intro gv X mq hh o hX;have W:=o.st af;intro l4 dd;obtain⟨io,_,_,dd⟩:=dd;cases dd;refine AU ?_;exact A7 (EJ.refl _) O
  refine C3.cons O O ?_ ?_
  ·intro gv X mq hh o hX;have W:=o.st af;intro l5 de;obtain⟨ip,_,_,de⟩:=de;cases de;refine AU ?_;exact A7 (EJ.refl _) O
  refine C3.cons O O ?_ ?_
  ·intro gv X mq hh o hX;have W:=o.st af;intro l6 df;obtain⟨ir,_,_,df⟩:=df;cases df;refine AU ?_;have h3:=bi.mono' (e4.trans (o.ext af.1));exact A7 (EJ.refl _) h3
  refine C3.cons O O ?_ ?_
  ·intro gv X mq hh o hX;have W:=o.st af;refine AU ?_;exact A7 (EJ.refl _) O
  refine C3.cons O O ?_ ?_
  ·intro gv X mq hh o hX;have W:=o.st af;intro l7 dg;obtain⟨it,_,_,dg⟩:=dg;cases dg;refine AU ?_;exact A7 (EJ.refl _) O
  refine C3.cons O O ?_ ?_
  ·intro gv X mq hh o hX;have W:=o.st af;intro l8 dh;obtain⟨iu,_,_,dh⟩:=dh;cases dh;refine AU ?_;exact A7 (EJ.refl _) O
  refine C3.cons O O ?_ ?_
  ·intro gv X mq hh o hX;have W:=o.st af;intro l9 di;obtain⟨iv,_,_,di⟩:=di;cases di;refine AU ?_;exact A7 (EJ.refl _) O
  refine C3.cons O O ?_ ?_
  ·intro gv X mq hh o hX;have W:=o.st af;intro ma dj;obtain⟨iw,_,_,dj⟩:=dj;cases dj;refine AU ?_;exact A7 (EJ.refl _) ⟨O,bh⟩
  refine C3.cons O O ?_ ?_
  ·intro gv X mq hh o hX;have W:=o.st af;refine AU ?_;exact A7 (EJ.refl _) O
  refine C3.cons O O ?_ ?_
  ·intro gv X mq hh o hX;have W:=o.st af;intro mb dk;obtain⟨iy,_,_,dk⟩:=dk;cases dk;refine AU ?_;exact A7 (EJ.refl _) O
  refine C3.cons O O ?_ ?_
  ·intro gv X mq hh o hX;have W:=o.st af;intro mc dl;obtain⟨iz,_,_,dl⟩:=dl;cases dl;refine AU ?_;exact A7 (EJ.refl _) O
  refine C3.cons O O ?_ ?_
  ·intro gv X mq hh o hX;have W:=o.st af;intro md dm;obtain⟨i0,_,_,dm⟩:=dm;cases dm;refine AU ?_;exact A7 (EJ.refl _) O
  refine C3.cons O O ?_ ?_
  ·intro gv X mq hh o hX;have W:=o.st af;intro me dn;obtain⟨i1,_,_,dn⟩:=dn;cases dn;refine AU ?_;have h4:=a7.mono' (e4.trans (o.ext af.1));exact A7 (EJ.refl _) h4
  refine C3.cons O O ?_ ?_
  ·intro gv X mq hh o hX;have W:=o.st af;intro h5 bv;obtain⟨i2,_,_,bv⟩:=bv;have bv:Sl _ _ BY h5 p0_w.b.A:=bv;have h6:=bv.le;refine AU ?_;exact A7 (EJ.refl _) ⟨O,(K4 h6)⟩
  refine C3.cons O O ?_ ?_
  ·intro gv X mq hh o hX;have W:=o.st af;refine AU ?_;exact A7 (EJ.refl _) O
  refine C3.cons O O ?_ ?_
  ·intro gv X mq hh o hX;have W:=o.st af;intro mf dp;obtain⟨i3,_,_,dp⟩:=dp;cases dp;refine AU ?_;exact A7 (EJ.refl _) O
  refine C3.cons O O ?_ ?_
  ·intro gv X mq hh o hX;have W:=o.st af;intro mg dq;obtain⟨i4,_,_,dq⟩:=dq;cases dq;refine AU ?_;exact A7 (EJ.refl _) O
  refine C3.cons O O ?_ ?_
  ·intro gv X mq hh o hX;have W:=o.st af;intro mi dr;obtain⟨i5,_,_,dr⟩:=dr;cases dr;refine AU ?_;exact A7 (EJ.refl _) O
  refine C3.cons O O ?_ ?_
  ·intro gv X mq hh o hX;have W:=o.st af;intro mj ds;obtain⟨i6,_,_,ds⟩:=ds;cases ds;refine AU ?_;have h7:=bs.mono' (e4.trans (o.ext af.1));exact A7 (EJ.refl _) h7
  refine C3.cons O O ?_ ?_
  ·intro gv X mq hh o hX;have W:=o.st af;intro h8 bw;obtain⟨i7,_,_,bw⟩:=bw;have bw:Sl _ _ A5.str h8 p0_w.b.H:=bw;have h9:=bw.le;refine AU ?_;exact A7 (EJ.refl _) ⟨O,(K4 h9)⟩
  refine O1 O O ?_ ?_
  ·intro gv X mq hh o hX;have W:=SX.fz (X:=X) af o;intro ia bj ml dt mm du mn dv;obtain⟨i8,_,_,bj⟩:=bj;have bj:=Sl.mono' (S':=(SX S2 h hh X)) bj ⟨λb hb=>(SX.ext af.1 o hX).sub b hb,λ_ _=>rfl,Aa7 _⟩;have bj:Sl _ _ AX ia p0_w.s.I:=bj;obtain⟨i9,_,_,dt⟩:=dt;obtain⟨rfl,ib⟩:=dt;obtain⟨ja,_,_,du⟩:=du;obtain⟨rfl,ic⟩:=du;obtain⟨jb,_,_,dv⟩:=dv;obtain⟨rfl,ie⟩:=dv;refine CG O O O rV O (TW W bj ib ic ie fu) λmp mr ms ig p=>?_;obtain⟨mu,mv,rfl,dw⟩:=p;have ih:=dw.pick (.tail (.tail .head));obtain⟨fv,dx,fw,jc,fx⟩:=OW.done af.1 o hX ig ih;exact A7 fw ⟨fv,dx,⟨_,_,O,fx⟩⟩
  refine C3.cons O O ?_ ?_
  ·intro gv X mq hh o hX;have W:=o.st af;intro jd bx;obtain⟨dy,_,_,bx⟩:=bx;obtain⟨je,jf,rfl,jg⟩:=bx;refine AU ?_;exact A7 (EJ.refl _) ⟨dy,_,_,O⟩
  refine C3.cons O O ?_ ?_
  ·intro gv X mq hh o hX;have W:=o.st af;intro jh bz;obtain⟨dz,_,_,bz⟩:=bz;obtain⟨_,ji,jj,rfl⟩:=bz;refine AU ?_;exact A7 (EJ.refl _) (by rw[←dz];rfl)
  refine C3.cons O O ?_ ?_
  ·intro gv X mq hh o hX;have W:=o.st af;intro jk b0;obtain⟨d0,_,_,b0⟩:=b0;obtain⟨_,jl,jm,rfl⟩:=b0;refine AU ?_;exact A7 (EJ.refl _) (by rw[←d0];rfl)
  refine C3.cons O O ?_ ?_
  ·intro gv X mq hh o hX;have W:=o.st af;intro jn cm;obtain⟨d1,_,_,cm⟩:=cm;refine AU ?_;exact A7 (EJ.refl _) d1
  refine C3.cons O O ?_ ?_
  ·intro gv X mq hh o hX;have W:=o.st af;intro jo cn;obtain⟨d2,_,_,cn⟩:=cn;refine AU ?_;exact A7 (EJ.refl _) d2
  exact trivial
 intro b1 bk ii bq bc d3 jp b2 co b3 cp b4 cq b5 cr b6 cs b7;obtain⟨d4,b2⟩:=b2;obtain⟨b8,b3⟩:=b3;obtain⟨d5,b4⟩:=b4;obtain⟨d6,b5⟩:=b5;obtain⟨ij,b6⟩:=b6;obtain⟨ik,b7⟩:=b7;obtain⟨a1,a8,rfl,fy⟩:=b2;have bl:=(XK.cons (XK.nil af bq bc) d3 (j:=22) O fy).st;simp only[Aa5,Aa6] at bl;obtain rfl: .tuple #[a1,a8]=co:=((by rw[b3.1,←d4];try rfl:co= .tuple #[a1,a8])).symm;obtain rfl:a1=cp:=((by rw[b4,←b8];try rfl:cp=a1)).symm;obtain rfl:a8=cq:=((by rw[b5,←b8];try rfl:cq=a8)).symm;obtain rfl:a1=cr:=((by rw[b6,←d5];try rfl:cr=a1)).symm;obtain rfl:a8=cs:=((by rw[b7,←d6];try rfl:cs=a8)).symm;refine AU ?_;obtain⟨az,ax,rfl,jq⟩:=bl.oslen (mt mh);refine GN (vs:=[(.slice az ay.2.length ax)]) (cs':=[.string p0_w.b.D,an,vI p0_w.b.J,ao,ag,ap,aq,ar,au,av,vI p0_w.b.K,ah,ai,aj,ak,am,vI p0_w.s.B,d,g,(.slice az ay.2.length ax),ac,t,u,y,ad,z]) O O O O XZ.1 O bl (.tail (.tail (.tail .head))) O O λb9 d7 ca=>?_;have d8:=e4.trans ((SX.ext af.1 bq (gG bc)).trans ca);have jr:=a7.mono' d8;refine AU ?_;refine AS (λa w=>∃(a4:List (List Int)) (a5:List Int),IV B (SX S2 h b1 (UX bk)) b9 (123,[]) a w [(0,vP c 0)] (OS AX 103 (.slice az ay.2.length ax) ay.2::OS (A5.sl AB) 29 d a4::Bx c 112 [.string p0_w.b.D,an,vI p0_w.b.J,ao,ag,ap,aq,ar,au,av,vI p0_w.b.K,ah,ai,aj,ak,am,vI p0_w.s.B,d,g,(.slice az ay.2.length ax),ac,t,u,y,ad,z]::OS AB 3 g p0_w.s.N::OS BQ 107 ac p0_w.s.R::OS AB 3 t p0_w.s.L::OS AB 3 u p0_w.s.O::OS B7 116 y p0_w.moves::OS AB 3 ad a5::OS AX 103 z p0_w.sent::L) λ_ _=>DH N p0_w ay a4 a5=some r) ?_ ?_
 ·refine A6 (λn1=>λa w=>∃(aw:Int) (a9:List (List Int)) (ba:List Int),IV B (SX S2 h b1 (UX bk)) b9 (123,[]) a w [(43,vI (↑p0_w.b.A.length:Int)),(2,a1),(0,vP c 0),(44,vI aw)] (OS (A5.sl AB) 29 a1 ay.1::OS AX 103 (.slice az ay.2.length ax) ay.2::OS (A5.sl AB) 29 d a9::Bx c 112 [.string p0_w.b.D,an,vI p0_w.b.J,ao,ag,ap,aq,ar,au,av,vI p0_w.b.K,ah,ai,aj,ak,am,vI p0_w.s.B,d,g,(.slice az ay.2.length ax),ac,t,u,y,ad,z]::OS AB 3 g p0_w.s.N::OS BQ 107 ac p0_w.s.R::OS AB 3 t p0_w.s.L::OS AB 3 u p0_w.s.O::OS B7 116 y p0_w.moves::OS AB 3 ad ba::OS AX 103 z p0_w.sent::L) λ_ _=>AA aw∧C1 N p0_w ay (DH N p0_w ay) n1 aw a9 ba=some r) N ?_ ?_ ?_
  ·intro aa ww hf hw;exact⟨0,p0_w.s.G,p0_w.peaks,_,_,hf.sub (kp [43,2,0,44] O),hw,d7,(BF.refl (SX S2 h b1 (UX bk)) b9),(iq (n:=0) O),E⟩
  ·rintro aa ww ⟨_,_,_,_,_,_,_,_,_,_,E⟩;rw[C1] at E;cases E
  rintro n1 aa ww ⟨aw,a9,ba,be,cb,hf,hw,ab,ct,cc,E⟩;refine AL ?_ hf hw;clear hf hw ww aa;rw[C1] at E;refine AU ?_;refine AH O E (λf0 E=>?_) (λf0 E=>?_)
  ·refine AU ?_;refine A4 (AU ?_);refine RA (kp [4,43,2,0,44] O) ?_;obtain⟨js,d9,E⟩:=bd E;obtain⟨cu,ea,E⟩:=bd E;obtain⟨jt,eb,E⟩:=bd E;obtain⟨cv,ec,E⟩:=bd E;obtain⟨cd,ed,E⟩:=bd E;obtain⟨ju,ee,E⟩:=bd E;refine M0 (m:=[(4,vI aw),(43,vI (↑p0_w.b.A.length:Int)),(2,a1),(0,vP c 0),(44,vI aw)]) 20 (λi v hh=>match i with|0=>v=vP c 0|1=>v=vP c 0|2=>v=vP c 16|3=>v=vP c 17|4=>v=d|5=>v=vI aw∧AA aw|6=>v=vP c 0|7=>v=vP c 0|8=>v=vP c 16|9=>v=vP c 17|10=>v=d|11=>v=vI aw∧AA aw|12=>EP d (aw.toNat*((A5.sl AB)).sz+0) v|13=>Sl be hh AB v cu|14=>v=a1|15=>v=vI aw∧AA aw|16=>EP a1 (aw.toNat*((A5.sl AB)).sz+0) v|17=>Sl be hh AB v cv|18=>Sl (SN be cb hh) hh AB v cd|19=>EP d (aw.toNat*((A5.sl AB)).sz+0) v|_=>False) [[],[(0,47)],[(1,48)],[(2,49)],[(3,50)],[],[],[(6,53)],[(7,54)],[(8,55)],[(9,56)],[],[(10,57),(11,58)],[(12,59)],[],[],[(14,61),(15,62)],[(16,63)],[(13,60),(17,64)],[(4,51),(5,52)]] [(18,65),(19,66)] mo (by kernel_rfl) [4,43,2,0,44] O (by kernel_rfl) (by kernel_rfl) (by kernel_rfl) (kp [4,43,2,0,44] O) (λi v h1 h2 o1 o2 Z=>?_) ?_ ?_
   ·match i,Z with
     |0,Z|1,Z|2,Z|3,Z|4,Z|5,Z|6,Z|7,Z|8,Z|9,Z|10,Z|11,Z|12,Z|14,Z|15,Z|16,Z|19,Z=>exact Z
     |13,Z|17,Z=>exact Sl.mono' Z (o2.ext λb hb=>Aa8 (ab.1 b hb) o1.siz)
     |18,Z=>exact Sl.mono' Z (SN.mono ab.1 o1 o2)
     |_+20,Z=>exact Z.elim
   ·refine A3.cons O ?_ ?_
    ·intro mq hh o;have W:=o.st ab;refine AU ?_;exact A7 (EJ.refl _) O
    refine A3.cons O ?_ ?_
    ·intro mq hh o;intro jv f1;have W:=o.st ab;cases f1;refine AU ?_;exact A7 (EJ.refl _) O
    refine A3.cons O ?_ ?_
    ·intro mq hh o;intro jw f2;have W:=o.st ab;cases f2;refine AU ?_;exact A7 (EJ.refl _) O
    refine A3.cons O ?_ ?_
    ·intro mq hh o;intro jx f3;have W:=o.st ab;cases f3;refine AU ?_;exact A7 (EJ.refl _) O
    refine A3.cons O ?_ ?_
    ·intro mq hh o;intro jy f4;have W:=o.st ab;cases f4;refine AU ?_;exact A7 (EJ.refl _) O
    refine A3.cons O ?_ ?_
    ·intro mq hh o;have W:=o.st ab;refine AU ?_;exact A7 (EJ.refl _) ⟨O,cc⟩
    refine A3.cons O ?_ ?_
    ·intro mq hh o;have W:=o.st ab;refine AU ?_;exact A7 (EJ.refl _) O
    refine A3.cons O ?_ ?_
    ·intro mq hh o;intro jz f5;have W:=o.st ab;cases f5;refine AU ?_;exact A7 (EJ.refl _) O
    refine A3.cons O ?_ ?_
    ·intro mq hh o;intro j0 f6;have W:=o.st ab;cases f6;refine AU ?_;exact A7 (EJ.refl _) O
    refine A3.cons O ?_ ?_
    ·intro mq hh o;intro j1 f7;have W:=o.st ab;cases f7;refine AU ?_;exact A7 (EJ.refl _) O
    refine A3.cons O ?_ ?_
    ·intro mq hh o;intro j2 f8;have W:=o.st ab;cases f8;refine AU ?_;exact A7 (EJ.refl _) O
    refine A3.cons O ?_ ?_
    ·intro mq hh o;have W:=o.st ab;refine AU ?_;exact A7 (EJ.refl _) ⟨O,cc⟩
    refine A3.cons O ?_ ?_
    ·intro mq hh o;intro j3 f9 j4 ga;have W:=o.st ab;cases f9;obtain⟨rfl,j5⟩:=ga;refine AU ?_;refine BS W (mt (mt mh)) O O Jl.1 d9 O λj6 ef=>AU ?_;exact A7 (EJ.refl _) ef
    refine A3.cons O ?_ ?_
    ·intro mq hh o;intro j7 gb;have W:=o.st ab;refine AU ?_;have gc:=W.epAt (mt (mt mh)) ea Fd.id gb;refine Hp Hi (λ_ x=>x) O gc GD.1 O λj8 ge=>AU ?_;exact A7 (EJ.refl _) ge
    refine A3.cons O ?_ ?_
    ·intro mq hh o;have W:=o.st ab;refine AU ?_;exact A7 (EJ.refl _) O
    refine A3.cons O ?_ ?_
    ·intro mq hh o;have W:=o.st ab;refine AU ?_;exact A7 (EJ.refl _) ⟨O,cc⟩
    refine A3.cons O ?_ ?_
    ·intro mq hh o;intro j9 gf ka gg;have W:=o.st ab;cases gf;obtain⟨rfl,kb⟩:=gg;refine AU ?_;refine BS W mh O O Jl.1 eb O λkc eg=>AU ?_;exact A7 (EJ.refl _) eg
    refine A3.cons O ?_ ?_
    ·intro mq hh o;intro kd gh;have W:=o.st ab;refine AU ?_;have gi:=W.epAt mh ec Fd.id gh;refine Hp Hi (λ_ x=>x) O gi GD.1 O λke gj=>AU ?_;exact A7 (EJ.refl _) gj
    refine A3.cons O ?_ ?_
    ·intro mq hh o;intro gl bf gm bg;have W:=SN.st ab o;have bf:=Sl.mono' (S':=(SN be cb hh)) bf ⟨λb hb=> .inl hb,λ_ _=>rfl,Aa7 _⟩;have bf:Sl _ _ AB gl cu:=bf;have bg:=Sl.mono' (S':=(SN be cb hh)) bg ⟨λb hb=> .inl hb,λ_ _=>rfl,Aa7 _⟩;have bg:Sl _ _ AB gm cv:=bg;have cl:=W.fz;refine FZ O O O W5 O cl (Nl (St.all _) (bf.mono (λb hb=>cl.1 b hb) (λ_ _=>rfl)) (bg.mono (λb hb=>cl.1 b hb) (λ_ _=>rfl)) ed) λkf kg kh il gn gp p=>?_;have eh:=p;have ce:=cl.join gp eh ⟨OS.flat (λ{_ _ _ _ _ _} k=>k),trivial⟩;simp only[Aa5,Aa6] at ce;obtain⟨ki,ei,gq,gr⟩:=ce.pubs .head;have cf:=Fz.done o (gn.trans gq) ei;exact A7 cf.1 (Sl.mono' gr cf.2)
    refine A3.cons O ?_ ?_
    ·intro mq hh o;intro kj gs kk gu;have W:=o.st ab;cases gs;obtain⟨rfl,kl⟩:=gu;refine AU ?_;refine BS W (mt (mt mh)) O O Jl.1 ee O λkm ej=>AU ?_;exact A7 (EJ.refl _) ej
    exact trivial
   intro kn cw gw cg ko gx;have ek:=SN.st ab cw;have cg:Sl _ _ AB gw cd:=cg;obtain⟨gy,el,E⟩:=bd E;refine EM (r:=(A5.sl AB)) (l:=a9) (i:=aw) (x:=gy) O O (Jx cg) gx el L7.id GD.1 (λ_=>rfl) ek (.tail (.tail .head)) λkr a6 gz=>AU ?_;refine Ns 15 mo (by kernel_rfl) O a6 (AU ?_);obtain⟨ks,em,E⟩:=bd E;refine BS a6 (mt (mt mh)) O O Jl.1 em O λkt en=>?_;obtain⟨ku,eo,E⟩:=bd E;have g0:=a6.epAt (mt (mt mh)) eo Fd.id en;refine Hp PT (λ_ x=>x) O g0 GD.1 O λkv g1=>?_;obtain⟨cx,ep,E⟩:=bd E;refine TJ O O O Pd O (λh' o=>GZ (St.all h') (g1.mono' (o.all a6.1)) ep) λg2=>?_;have g3:=g2;obtain⟨kw,eq,E⟩:=bd E;refine BS a6 (mt (mt (mt (mt (mt (mt (mt (mt (mt mh))))))))) O O CQ.1 eq O λkx er=>MT λky es g4=>?_;obtain⟨g5,eu,E⟩:=bd E;refine EM (r:=AB) (l:=ba) (i:=aw) (x:=g5) O O (⟨_,O,O,g3⟩:Rd _ _ AB _ cx) er eu L7.id FE.1 (λ_=>rfl) es (.tail (.tail (.tail (.tail (.tail (.tail (.tail (.tail (.tail .head))))))))) λkz ew g6=>AU ?_;refine BK (AU ?_);refine WF.nil (λaa ww hf hw=>?_);have ey:=ct.trans ((SN.ext ab.1 cw).trans (gz.trans (g4.trans g6)));exact⟨(BO (aw+1)),(upd a9 aw cd),(upd ba aw cx),_,_,hf.sub (kp [43,2,0,44] O),hw,ew,ey,(BT _),E⟩
  refine BL O (λaa ww hf hw=>?_);have ez:=ab.sel [1,1,1,1,1,1,1,1,1,1] 1 O;exact⟨a9,ba,_,_,hf.sub (kp [0] O),hw,ez,ct,E⟩
 rintro aa ww ⟨a4,a5,cy,cz,hf,hw,e0,c0,E⟩;refine AL ?_ hf hw;clear hf hw ww aa;rw[DH] at E;have e1:=e4.trans ((SX.ext af.1 bq (gG bc)).trans (ca.trans c0));have g7:=bt.mono' e1;refine AU ?_;refine A4 (A6 (λn2=>λa w=>∃(a2:Int) (bb:List A0),IV B cy cz (123,[]) a w [(88,vI (↑p0_w.b.C.length:Int)),(87,ag),(0,vP c 0),(89,vI a2)] (OS AX 103 (.slice az ay.2.length ax) ay.2::OS (A5.sl AB) 29 d a4::Bx c 112 [.string p0_w.b.D,an,vI p0_w.b.J,ao,ag,ap,aq,ar,au,av,vI p0_w.b.K,ah,ai,aj,ak,am,vI p0_w.s.B,d,g,(.slice az ay.2.length ax),ac,t,u,y,ad,z]::OS AB 3 g p0_w.s.N::OS BQ 107 ac bb::OS AB 3 t p0_w.s.L::OS AB 3 u p0_w.s.O::OS B7 116 y p0_w.moves::OS AB 3 ad a5::OS AX 103 z p0_w.sent::L) λ_ _=>AA a2∧Cd N p0_w ay a4 a5 n2 a2 bb=some r) N ?_ ?_ ?_)
 ·intro aa ww hf hw;exact⟨0,p0_w.s.R,_,_,hf.sub (kp [88,87,0,89] O),hw,e0,(BF.refl cy cz),(iq (n:=0) O),E⟩
 ·rintro aa ww ⟨_,_,_,_,_,_,_,_,_,E⟩;rw[Cd] at E;cases E
 rintro n2 aa ww ⟨a2,bb,g8,g9,hf,hw,ch,ci,k0,E⟩;refine AL ?_ hf hw;clear hf hw ww aa;rw[Cd] at E;refine AU ?_;refine AH O E (λha E=>?_) (λha E=>?_)
 ·refine AU ?_;refine AS (λa w=>∃(br:List A0),IV B g8 g9 (123,[]) a w [(88,vI (↑p0_w.b.C.length:Int)),(87,ag),(0,vP c 0),(89,vI a2)] (OS AX 103 (.slice az ay.2.length ax) ay.2::OS (A5.sl AB) 29 d a4::Bx c 112 [.string p0_w.b.D,an,vI p0_w.b.J,ao,ag,ap,aq,ar,au,av,vI p0_w.b.K,ah,ai,aj,ak,am,vI p0_w.s.B,d,g,(.slice az ay.2.length ax),ac,t,u,y,ad,z]::OS AB 3 g p0_w.s.N::OS BQ 107 ac br::OS AB 3 t p0_w.s.L::OS AB 3 u p0_w.s.O::OS B7 116 y p0_w.moves::OS AB 3 ad a5::OS AX 103 z p0_w.sent::L) λ_ _=>Ff N a2 (Cd N p0_w ay a4 a5 n2) br=some r) ?_ ?_
  ·refine AU ?_;have hc:=g7.mono' ci;obtain⟨ae,e2,E⟩:=bd E;refine Nv O O hc N2.1 e2 O λk1 hd=>?_;obtain⟨k2,_,he⟩:=hd.lv;refine AU ?_;refine Dp OI O ch λk3 k4 e3 cj=>AU ?_;have c1:=he.mono cj;obtain⟨c2,c3,c4,rfl,k5,k6,k7,k8,hg,hi,hj,k9,la,lb,lc,lf,lg,lh,li,lj,ll,lm⟩:=B8.ex c1;refine ML (vs:=[.string ae.D,vI ae.F,vI ae.M,vI ae.E,c2,c3,c4,vI ae.V,vI ae.Ag,vI ae.Bb,vI ae.Bc,vI ae.Y,vI ae.S,vI ae.Ay,vI ae.Az,vI ae.Aq,vI ae.Al,vI ae.Q]) (cs':=[.string ae.D,vI ae.F,vI ae.M,vI ae.E,c2,c3,c4,vI ae.V,vI ae.Ag,vI ae.Bb,vI ae.Bc,vI ae.Y,vI ae.S,vI ae.Ay,vI ae.Az,vI ae.Aq,vI ae.Al,vI ae.Q]) O O O (BC O (BC O (BC O (BC O (BC hg.one (BC hi.one (BC hj.one (BC O (BC O (BC O (BC O (BC O (BC O (BC O (BC O (BC O (BC O (BC O Jv)))))))))))))))))) OM.1 O e3 .head O O λln a0 ck=>AU ?_;refine AH O E (λhk E=>?_) (λhk E=>?_)
   ·refine Ns 25 mo (by kernel_rfl) O a0 (AU ?_);obtain⟨lo,e5,E⟩:=bd E;refine BS a0 (mt (mt (mt (mt (mt mh))))) O O Pb.1 e5 O λlp e6=>?_;obtain⟨lq,e7,E⟩:=bd E;have hl:=a0.epAt (mt (mt (mt (mt (mt mh))))) e7 Fd.id e6;refine LD PT (λ_ x=>x) O hl Ip.1 (λe=>by cases e) O λlr hm=>AU ?_;obtain⟨ls,e8,E⟩:=bd E;refine BS a0 (mt (mt (mt (mt (mt (mt (mt (mt (mt mh))))))))) O O CQ.1 e8 O λlt e9=>?_;obtain⟨lu,fa,E⟩:=bd E;have hn:=a0.epAt (mt (mt (mt (mt (mt (mt (mt (mt (mt mh))))))))) fa Fd.id e9;refine Ez PT (λ_ x=>x) O hn FE.1 O λho=>?_;have bu:=c1.mono ck;obtain⟨c5,fb,E⟩:=bd E;refine TJ O O O rU O (λh' o=>Rp (St.all h') (bu.mono (o.all a0.1)) (hm.mono (o.all a0.1)) ho fb) λhp=>?_;obtain⟨hq,ht⟩:=hp;obtain⟨lw,fc,E⟩:=bd E;refine BS a0 (mt (mt (mt (mt (mt mh))))) O O Pb.1 fc O λlx fd=>MT λly fe hu=>?_;obtain⟨hv,ff,E⟩:=bd E;refine EM (r:=BQ) (l:=bb) (i:=a2) (x:=hv) O O (BQ.mk (x:=c5) ⟨hq,ht⟩) fd ff L7.id Ip.1 (λe=>by cases e) fe (.tail (.tail (.tail (.tail (.tail .head))))) λlz fg hx=>AU ?_;refine WF.nil (λaa ww hf hw=>?_);have fh:=fg.sel [1,1,1,1,1,1,1,1,1,1] 1 O;have fi:=cj.trans (ck.trans (hu.trans hx));exact⟨(upd bb a2 c5),_,_,hf.sub (kp [88,87,0,89] O),hw,fh,fi,E⟩
   refine AU ?_;refine WF.nil (λaa ww hf hw=>?_);have fj:=a0.sel [1,1,1,1,1,1,1,1,1,1] 1 O;exact⟨bb,_,_,hf.sub (kp [88,87,0,89] O),hw,fj,(cj.trans ck),E⟩
  rintro aa ww ⟨br,l0,l1,hf,hw,fk,hy,E⟩;refine AL ?_ hf hw;clear hf hw ww aa;rw[Ff] at E;refine AU ?_;refine WF.nil (λaa ww hf hw=>?_);exact⟨(BO (a2+1)),br,_,_,hf.sub (kp [88,87,0,89] O),hw,fk,(ci.trans hy),(BT _),E⟩
 refine JB O (WF.nil (λaa ww hf hw=>?_));have fl:=ch.sel [2,1,1,0,0,0,0,0,0,0] 0 O;cases E;have fm:=e4.trans ((SX.ext af.1 bq (gG bc)).trans (ca.trans (c0.trans ci)));exact Kv hf O hw Ku O fm ⟨_,_,_,_,O,fl⟩
end Go.Proofs.YtabonambpbofgaaGreat
